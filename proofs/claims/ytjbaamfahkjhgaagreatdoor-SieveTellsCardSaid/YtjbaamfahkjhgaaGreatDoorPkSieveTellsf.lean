/- The law 'katabasislaw04.SieveTells' is true for every map and number: Sieve returns the documented falls and rests, or the documented error. Its condition: none but the row's own (the listed tables of the library). -/
import Derived.Test.YtjbaamfahkjhgaaGreatDoorPkSieveTellse
set_option linter.unusedVariables false
set_option linter.unusedSimpArgs false
namespace Go.Proofs.YtjbaamfahkjhgaaGreatDoor
open Go Go.Ab Go.Mth
theorem f160_ : callable cx.P 65 = true := by kernel_rfl
theorem f161_ : callable cx.P 66 = true := by kernel_rfl
theorem f162_ : callable cx.P 67 = true := by kernel_rfl
set_option maxRecDepth 100000 in
theorem c_sFind (m : MapM) (a : ByteArray) (k : Int) (ha : a.size ≤ 9223372036854775807) (hkb : k ≤ 9223372036854775807) : ECalls cx 17 [mapV m, Sv a, Iv k] (.tup [falV (fdF m a k), bp (fdB m a k), nm .i64 (fdE m a k)]) := by
 refine ecalls_of_awp Tryz.func17 (c := _) rfl (Nat.le_of_ble_eq_true rfl) ?_
 show awp cx 87 _ (postF cx Tryz.f17 _) ⟨[(0, mapV m), (1, Sv a), (2, Iv k)], []⟩
 refine awp_seq fun K0 hK0 => awp_region rfl ?_
 refine o_box 2 [Iv m.mod, Lv m.mul, Lv m.add] Gd.none rfl rfl ?_
 refine o_alloc 3 [Nv 0, Nv 0, Sv Ev, Sv Ev, Sv Ev, Sv Ev] Gd.none f104_ rfl rfl rfl ?_
 refine o_as Fv rfl ?_
 refine o_as (Nv 0) rfl ?_
 refine aops_end (hK0 _ (awp_seq fun K1 hK1 => awp_seq fun K2 hK2 => awp_region rfl ?_))
 refine o_loadA [Iv m.mod, Lv m.mul, Lv m.add] Gd.none f64_ rfl rfl rfl rfl rfl ?_
 refine o_ct (c_sValid m) Gd.none f102_ rfl ?_
 refine o_not (b := okM m) Gd.none rfl ?_
 refine o_mv (.lit (.bool (!(okM m)))) rfl ?_
 refine o_split (b := !(okM m)) 21 rfl (fun h1 => ?_) (fun h1 => ?_)
 ·have hm' : ¬ okM m = true := by simpa using h1
  refine o_skip rfl rfl h1 ?_
  refine o_skip rfl rfl h1 ?_
  refine o_skip rfl rfl h1 ?_
  refine o_pickT Tv Gd.none rfl h1 rfl ?_
  refine aops_end (hK2 _ ?_)
  refine awp_condB (b := true) rfl (fun _ => ?_) (fun hh => absurd (hh.symm.trans rfl) (by decide))
  refine awp_seq fun K3 hK3 => awp_region rfl ?_
  refine o_build [Nv 0, Nv 0, Sv Ev, Sv Ev, Sv Ev, Sv Ev] [] Gd.none f107_ f104_ rfl rfl rfl ?_
  refine n_as (v' := (falV zFal)) (by exact rfl) ?_
  refine o_store [(3, .var 40 [Iv (zFal.steps), Iv (zFal.rest), Sv (zFal.lmul), Sv (zFal.ladd), Sv (zFal.ldiv), Sv (zFal.bound)]), (2, oM 24 m)] Gd.none f108_ rfl rfl rfl rfl rfl rfl ?_
  refine o_as Fv rfl ?_
  refine o_as (Nv 1) rfl ?_
  refine aops_end (hK3 _ ?_)
  refine awp_ret ?_
  refine post_ret ⟨[.agg [Iv (zFal.steps), Iv (zFal.rest), Sv (zFal.lmul), Sv (zFal.ladd), Sv (zFal.ldiv), Sv (zFal.bound)], Fv, Nv 1], ⟨⟨3, .var 40 [Iv (zFal.steps), Iv (zFal.rest), Sv (zFal.lmul), Sv (zFal.ladd), Sv (zFal.ldiv), Sv (zFal.bound)], rfl, rfl, rfl, Or.inl ⟨f109_, AV.le_refl _⟩⟩, AV.le_refl _, AV.le_refl _, trivial⟩, rfl, ?_⟩
  (have e := fd_1 (m := m) (a := a) (k := k) (fun q => hm' q.1); rw [e.1, e.2.1, bpn e.2.2]; rfl)
 ·have hm' : okM m = true := by simpa using h1
  have hM := okM_iff.1 hm'
  have hM2 := hM
  obtain ⟨o1, o2, o3, o4, o5⟩ := hM2
  refine o_move (Sv a) (Gd.yes rfl rfl h1) rfl ?_
  refine o_ct (c_nValid a (by assumption)) (Gd.yes rfl rfl h1) f160_ rfl ?_
  refine o_not (b := okS a) (Gd.yes rfl rfl h1) rfl ?_
  refine o_pickF (.lit (.bool (!(okS a)))) Gd.none rfl h1 rfl ?_
  refine aops_end (hK2 _ ?_)
  refine awp_condB (b := !(okS a)) rfl (fun h2 => ?_) (fun h2 => ?_)
  ·have ha' : ¬ okS a = true := by simpa using h2
   refine awp_seq fun K4 hK4 => awp_region rfl ?_
   refine o_build [Nv 0, Nv 0, Sv Ev, Sv Ev, Sv Ev, Sv Ev] [] Gd.none f107_ f104_ rfl rfl rfl ?_
   refine n_as (v' := (falV zFal)) (by exact rfl) ?_
   refine o_store [(3, .var 40 [Iv (zFal.steps), Iv (zFal.rest), Sv (zFal.lmul), Sv (zFal.ladd), Sv (zFal.ldiv), Sv (zFal.bound)]), (2, oM 24 m)] Gd.none f108_ rfl rfl rfl rfl rfl rfl ?_
   refine o_as Fv rfl ?_
   refine o_as (Nv 1) rfl ?_
   refine aops_end (hK4 _ ?_)
   refine awp_ret ?_
   refine post_ret ⟨[.agg [Iv (zFal.steps), Iv (zFal.rest), Sv (zFal.lmul), Sv (zFal.ladd), Sv (zFal.ldiv), Sv (zFal.bound)], Fv, Nv 1], ⟨⟨3, .var 40 [Iv (zFal.steps), Iv (zFal.rest), Sv (zFal.lmul), Sv (zFal.ladd), Sv (zFal.ldiv), Sv (zFal.bound)], rfl, rfl, rfl, Or.inl ⟨f109_, AV.le_refl _⟩⟩, AV.le_refl _, AV.le_refl _, trivial⟩, rfl, ?_⟩
   (have e := fd_1 (m := m) (a := a) (k := k) (fun q => ha' q.2); rw [e.1, e.2.1, bpn e.2.2]; rfl)
  ·have ha' : okS a = true := by simpa using h2
   have la := len_numS (okS_iff.1 ha')
   refine awp_skip (hK1 _ (awp_seq fun K5 hK5 => awp_seq fun K6 hK6 => awp_region rfl ?_))
   refine o_loadA [Iv m.mod, Lv m.mul, Lv m.add] Gd.none f64_ rfl rfl rfl rfl rfl ?_
   refine o_mv (Iv k) rfl ?_
   refine o_ct (c_scheck m k (by assumption)) Gd.none f150_ rfl ?_
   refine o_as (Nv (chkE m k)) rfl ?_
   refine aops_end (hK6 _ (awp_seq fun K7 hK7 => awp_region rfl (o_mv (Nv (chkE m k)) rfl ?_)))
   refine n_neq (chkE m k) 0 Gd.none rfl rfl ?_
   refine aops_end (hK7 _ ?_)
   refine awp_condQ (q := (chkE m k) ≠ 0) rfl (fun h3 => ?_) (fun h3 => ?_)
   ·refine awp_seq fun K8 hK8 => awp_region rfl ?_
    refine o_build [Nv 0, Nv 0, Sv Ev, Sv Ev, Sv Ev, Sv Ev] [] Gd.none f107_ f104_ rfl rfl rfl ?_
    refine n_as (v' := (falV zFal)) (by exact rfl) ?_
    refine o_mv (Nv (chkE m k)) rfl ?_
    refine o_store [(3, .var 40 [Iv (zFal.steps), Iv (zFal.rest), Sv (zFal.lmul), Sv (zFal.ladd), Sv (zFal.ldiv), Sv (zFal.bound)]), (2, oM 24 m)] Gd.none f108_ rfl rfl rfl rfl rfl rfl ?_
    refine o_as Fv rfl ?_
    refine o_as (Nv (chkE m k)) rfl ?_
    refine aops_end (hK8 _ ?_)
    refine awp_ret ?_
    refine post_ret ⟨[.agg [Iv (zFal.steps), Iv (zFal.rest), Sv (zFal.lmul), Sv (zFal.ladd), Sv (zFal.ldiv), Sv (zFal.bound)], Fv, Nv (chkE m k)], ⟨⟨3, .var 40 [Iv (zFal.steps), Iv (zFal.rest), Sv (zFal.lmul), Sv (zFal.ladd), Sv (zFal.ldiv), Sv (zFal.bound)], rfl, rfl, rfl, Or.inl ⟨f109_, AV.le_refl _⟩⟩, AV.le_refl _, AV.le_refl _, trivial⟩, rfl, ?_⟩
    (have e := fd_2 (m := m) (a := a) (k := k) ⟨hm', ha'⟩ h3; rw [e.1, e.2.1, bpn e.2.2]; rfl)
   ·have hy : mayS m k := Decidable.byContradiction fun e => absurd (chk_2 hm' e) (by rw [Decidable.not_not.1 h3]; decide)
    have hk2 := hy.2.2
    have hk1 := hy.2.1
    have hk16 := may_16 hM hk2
    have hkp : 0 < m.mod ^ k.toNat := Int.pow_pos (by omega)
    obtain ⟨P, hP⟩ : ∃ P : Nat, ((P : Nat) : Int) = m.mod ^ k.toNat := ⟨_, Int.toNat_of_nonneg (Int.le_of_lt hkp)⟩
    obtain ⟨Z, hZ⟩ : ∃ Z : Int, Z = numS a % m.mod ^ k.toNat := ⟨_, rfl⟩
    have hZ0 : 0 ≤ Z := by rw [hZ]; exact Int.emod_nonneg _ (by omega)
    have hZ1 : Z < m.mod ^ k.toNat := by rw [hZ]; exact Int.emod_lt_of_pos _ hkp
    have hfm := fndF_mod hM (numS a) k.toNat
    rw [← hZ] at hfm
    have hzl := small_len (z := Z) (by omega)
    refine awp_skip (hK5 _ (awp_seq fun K9 hK9 => awp_region rfl ?_))
    refine o_as (Nv 1) rfl ?_
    refine n_as (v' := (Iv (m.mod ^ 0))) (by exact congrArg (fun z => AV.lit (.int .i64 z)) (Int.pow_zero _).symm) ?_
    refine aops_end (hK9 _ (awp_seq fun K10 hK10 => awp_seq fun K11 hK11 => awp_region rfl (o_mv (Iv k) rfl (o_mv (Nv 0) rfl (aops_end (hK11 _ ?_))))))
    refine awp_block ?_
    refine awp_loopR (fun κ σ => ∃ (u : Nat), (u ≤ k.toNat) ∧ (k.toNat - u) = κ ∧ σ = ⟨[(1, Sv a), (2, Iv k), (3, .ref 2 0), (6, .ref 3 0), (10, Iv (m.mod ^ u)), (34, Iv k), (35, Nv u)], [(2, oM 24 m), (3, .var 40 [Nv 0, Nv 0, Sv Ev, Sv Ev, Sv Ev, Sv Ev])]⟩) ⟨_, _, ⟨0, (by omega), rfl, rfl⟩, ?wk0⟩ ?rd0
    case wk0 =>
     exact Wk.sub ⟨rfl, rfl, rfl, rfl, (by rfl), rfl, (by rfl), trivial⟩ ⟨rfl, rfl, trivial⟩
    rintro κ _ ⟨u, hu, rfl, rfl⟩
    have hpp : 0 < m.mod ^ u := Int.pow_pos (by omega)
    have hb := pow_le_of hM (j := u) (k := k.toNat) (by omega)
    have hmb := Int.mul_le_mul (show m.mod ^ u ≤ 65536 by omega) o2 (show (0 : Int) ≤ m.mod by omega) (by decide)
    have hml := Int.mul_pos hpp (show 0 < m.mod by omega)
    refine awp_seq fun K12 hK12 => awp_region rfl ?_
    refine o_lss (a := ((u : Nat) : Int)) (c := k) Gd.none rfl rfl ?_
    refine aops_end (hK12 _ (awp_seq fun K13 hK13 => ?_))
    refine awp_condQ (q := ((u : Nat) : Int) < k) rfl (fun h4 => ?_) (fun h4 => ?_)
    ·refine awp_skip (hK13 _ (awp_seq fun K14 hK14 => ?_))
     refine awp_block ?_
     refine awp_region rfl (o_mv (Iv (m.mod ^ u)) rfl ?_)
     refine o_fieldRef 0 Gd.none f60_ rfl rfl ?_
     refine o_loadS (Iv m.mod) Gd.none f11_ rfl rfl rfl ?_
     refine o_mul (a := (m.mod ^ u)) (c := m.mod) Gd.none rfl rfl (by exact wrap64 (by omega) (by omega)) ?_
     refine n_as (v' := (Iv (m.mod ^ (u + 1)))) (by exact congrArg (fun z => AV.lit (.int .i64 z)) (Int.pow_succ _ _).symm) ?_
     refine o_as (Iv (m.mod ^ (u + 1))) rfl ?_
     refine aops_end (hK14 _ (awp_region rfl ?_))
     refine n_add u 1 Gd.none rfl rfl (by simp only [topOf]; omega) ?_
     refine o_mv (Nv (u + 1)) rfl (aops_end ?_)
     refine ⟨_, _, ?lt, ⟨u + 1, (by omega), rfl, rfl⟩, ?wk⟩
     case lt => omega
     case wk => exact Wk.sub ⟨rfl, rfl, rfl, rfl, (by rfl), rfl, (by rfl), trivial⟩ ⟨rfl, rfl, trivial⟩
    ·refine awp_exit ?_
     refine hK10 _ (awp_seq fun K15 hK15 => awp_region rfl (o_mv (Sv a) rfl ?_))
     refine o_ct (c_wParse a (by exact okS_iff.1 (by assumption))) Gd.none f161_ rfl ?_
     refine o_mv (Iv (m.mod ^ u)) rfl ?_
     refine n_as (v' := (Nv P)) (nm_int (by rw [hP, show k.toNat = u by omega])) ?_
     refine o_ct (c_wQR (numS a) P (by omega) (by omega) (by omega)) Gd.none f71_ rfl ?_
     refine o_mv (.tup [(intW ((numS a) / ((P : Nat) : Int))), (Iv ((numS a) % ((P : Nat) : Int)))]) rfl ?_
     refine o_extract (intW ((numS a) / ((P : Nat) : Int))) Gd.none rfl rfl ?_
     refine o_extract (Iv ((numS a) % ((P : Nat) : Int))) Gd.none rfl rfl ?_
     refine n_as (v' := (Iv Z)) (by exact congrArg (fun z => AV.lit (.int .i64 z)) (by rw [hZ, hP])) ?_
     refine o_alloc 101 [Fv, Zv] Gd.none f15_ rfl rfl rfl ?_
     refine o_store [(101, (oZ 79 .u32 ((numS a) / ((P : Nat) : Int)))), (2, oM 24 m), (3, .var 40 [Nv 0, Nv 0, Sv Ev, Sv Ev, Sv Ev, Sv Ev])] Gd.none f19_ rfl rfl rfl rfl rfl rfl ?_
     refine o_as (Iv Z) rfl ?_
     refine aops_end (hK15 _ (awp_seq fun K16 hK16 => awp_region rfl (o_mv (Iv Z) rfl ?_)))
     refine o_ct (c_wOf Z (by omega) (by omega)) Gd.none f46_ rfl ?_
     refine o_alloc 102 [Fv, Zv] Gd.none f15_ rfl rfl rfl ?_
     refine o_store [(102, oZ 79 .u32 Z), (101, (oZ 79 .u32 ((numS a) / ((P : Nat) : Int)))), (2, oM 24 m), (3, .var 40 [Nv 0, Nv 0, Sv Ev, Sv Ev, Sv Ev, Sv Ev])] Gd.none f19_ rfl rfl rfl rfl rfl rfl ?_
     refine aops_end (hK16 _ (awp_seq fun K17 hK17 => awp_region rfl ?_))
     refine o_as Zv rfl ?_
     refine aops_end (hK17 _ (awp_seq fun K18 hK18 => awp_region rfl ?_))
     refine o_as (Nv 1) rfl ?_
     refine n_as (v' := (Iv (m.mod ^ 0))) (by exact congrArg (fun z => AV.lit (.int .i64 z)) (Int.pow_zero _).symm) ?_
     refine aops_end (hK18 _ (awp_seq fun K19 hK19 => awp_seq fun K20 hK20 => awp_region rfl (o_mv (Iv k) rfl (o_mv (Nv 0) rfl (aops_end (hK20 _ ?_))))))
     refine awp_block ?_
     refine awp_loopR (fun κ σ => ∃ (i : Nat), (i ≤ k.toNat) ∧ (ffal m Z i = 0) ∧ ((digs (iterZ m i Z).natAbs).length ≤ 1 + 4 * i) ∧ (k.toNat - i) = κ ∧ σ = ⟨[(2, Iv k), (3, .ref 2 0), (6, .ref 3 0), (10, Iv (m.mod ^ i)), (12, Iv Z), (13, .ref 4 0), (14, .row 50), (51, Iv k), (52, Nv i)], [(2, oM 24 m), (3, .var 40 [Nv 0, Nv 0, Sv Ev, Sv Ev, Sv Ev, Sv Ev]), (4, oZ 79 .u32 (iterZ m i Z)), (50, .row 3 1 (is .i64 (wordZ m Z i)))]⟩) ⟨_, _, ⟨0, (by omega), rfl, (show (digs Z.natAbs).length ≤ 1 + 4 * 0 by omega), rfl, rfl⟩, ?wk1⟩ ?rd1
     case wk1 =>
      exact Wk.trans (Wk.newNil (i := 14) (id := 603) (e := 3) (sz := 1) rfl rfl (by decide)) (Wk.trans (Wk.sub (σ' := ⟨[(2, Iv k), (3, .ref 2 0), (6, .ref 3 0), (10, Iv (m.mod ^ 0)), (12, Iv Z), (13, .ref 102 0), (14, .row 603), (51, Iv k), (52, Nv 0)], [(2, oM 24 m), (3, .var 40 [Nv 0, Nv 0, Sv Ev, Sv Ev, Sv Ev, Sv Ev]), (102, oZ 79 .u32 Z), (603, .row 3 1 (is .i64 ([])))]⟩) ⟨rfl, rfl, rfl, rfl, rfl, rfl, rfl, rfl, rfl, trivial⟩ ⟨rfl, rfl, rfl, rfl, trivial⟩) (Wk.trans (Wk.ren (id := 102) (id' := 4) rfl) (Wk.trans (Wk.ren (id := 603) (id' := 50) rfl) (Wk.sub ⟨rfl, rfl, rfl, (by rfl), rfl, (by rfl), (by rfl), rfl, (by rfl), trivial⟩ ⟨rfl, rfl, rfl, (by rfl), trivial⟩))))
     rintro κ _ ⟨i, hi, h0, hlz, rfl, rfl⟩
     have hpp : 0 < m.mod ^ i := Int.pow_pos (by omega)
     have hb := pow_le_of hM (j := i) (k := k.toNat) (by omega)
     have hmb := Int.mul_le_mul (show m.mod ^ i ≤ 65536 by omega) o2 (show (0 : Int) ≤ m.mod by omega) (by decide)
     have hml := Int.mul_pos hpp (show 0 < m.mod by omega)
     have hln := step_len' hM (iterZ m i Z)
     have hW1 := wordZ_is hM Z (i + 1)
     have hL1 := wordZ_len m Z (i + 1)
     have hL2 : ((wordZ m Z i) ++ ([iterZ m i Z % m.mod])).length = i + 1 := hL1
     obtain ⟨M1, M2, M3⟩ := line_len hM (wordZ m Z (i + 1)) hW1
     have hpq : 0 < m.mod ^ (i + 1) := Int.pow_pos (by omega)
     refine awp_seq fun K21 hK21 => awp_region rfl ?_
     refine o_lss (a := ((i : Nat) : Int)) (c := k) Gd.none rfl rfl ?_
     refine aops_end (hK21 _ (awp_seq fun K22 hK22 => ?_))
     refine awp_condQ (q := ((i : Nat) : Int) < k) rfl (fun h5 => ?_) (fun h5 => ?_)
     ·refine awp_skip (hK22 _ (awp_seq fun K23 hK23 => ?_))
      refine awp_block ?_
      refine awp_seq fun K24 hK24 => awp_region rfl ?_
      refine o_loadA [Iv m.mod, Lv m.mul, Lv m.add] Gd.none f64_ rfl rfl rfl rfl rfl ?_
      refine o_loadA [bp ((iterZ m i Z) < 0), .sl 1 (ns .u32 (digs (iterZ m i Z).natAbs))] Gd.none f20_ rfl rfl rfl rfl rfl ?_
      refine o_ct (c_sNext m (iterZ m i Z) (by assumption) (by omega)) Gd.none f162_ rfl ?_
      refine o_mv (.tup [intW (stepZ m (iterZ m i Z)), Iv ((iterZ m i Z) % m.mod)]) rfl ?_
      refine o_extract (intW (stepZ m (iterZ m i Z))) Gd.none rfl rfl ?_
      refine o_extract (Iv ((iterZ m i Z) % m.mod)) Gd.none rfl rfl ?_
      refine o_alloc 201 [Fv, Zv] Gd.none f15_ rfl rfl rfl ?_
      refine o_store [(201, oZ 79 .u32 (stepZ m (iterZ m i Z))), (2, oM 24 m), (3, .var 40 [Nv 0, Nv 0, Sv Ev, Sv Ev, Sv Ev, Sv Ev]), (4, oZ 79 .u32 (iterZ m i Z)), (50, .row 3 1 (is .i64 (wordZ m Z i)))] Gd.none f19_ rfl rfl rfl rfl rfl rfl ?_
      refine o_as (Iv ((iterZ m i Z) % m.mod)) rfl ?_
      refine aops_end (hK24 _ (awp_seq fun K25 hK25 => awp_region rfl ?_))
      refine o_loadA [bp ((stepZ m (iterZ m i Z)) < 0), .sl 1 (ns .u32 (digs (stepZ m (iterZ m i Z)).natAbs))] Gd.none f20_ rfl rfl rfl rfl rfl ?_
      refine o_store [(201, oZ 79 .u32 (stepZ m (iterZ m i Z))), (2, oM 24 m), (3, .var 40 [Nv 0, Nv 0, Sv Ev, Sv Ev, Sv Ev, Sv Ev]), (4, oZ 79 .u32 (stepZ m (iterZ m i Z))), (50, .row 3 1 (is .i64 (wordZ m Z i)))] Gd.none f19_ rfl rfl rfl rfl rfl rfl ?_
      refine aops_end (hK25 _ (awp_seq fun K26 hK26 => awp_region rfl (o_mv (.row 50) rfl (o_mv (Iv ((iterZ m i Z) % m.mod)) rfl ?_))))
      refine o_buildSlice 202 (is .i64 ([(iterZ m i Z) % m.mod])) [(0, [Iv ((iterZ m i Z) % m.mod)])] Gd.none f10_ rfl f26_ rfl rfl rfl rfl rfl rfl rfl ?_
      refine i_append 203 (wordZ m Z i) ([(iterZ m i Z) % m.mod]) [(202, .row 3 1 (is .i64 ([(iterZ m i Z) % m.mod]))), (201, oZ 79 .u32 (stepZ m (iterZ m i Z))), (2, oM 24 m), (3, .var 40 [Nv 0, Nv 0, Sv Ev, Sv Ev, Sv Ev, Sv Ev]), (4, oZ 79 .u32 (stepZ m (iterZ m i Z)))] Gd.none f10_ f26_ rfl rfl rfl rfl rfl (by simp only [wordZ_len, List.length_cons, List.length_nil]; omega) (by decide) rfl rfl ?_
      refine o_as (.row 203) rfl ?_
      refine aops_end (hK26 _ (awp_seq fun K27 hK27 => awp_region rfl (o_mv (Iv (m.mod ^ i)) rfl ?_)))
      refine o_fieldRef 0 Gd.none f60_ rfl rfl ?_
      refine o_loadS (Iv m.mod) Gd.none f11_ rfl rfl rfl ?_
      refine o_mul (a := (m.mod ^ i)) (c := m.mod) Gd.none rfl rfl (by exact wrap64 (by omega) (by omega)) ?_
      refine n_as (v' := (Iv (m.mod ^ (i + 1)))) (by exact congrArg (fun z => AV.lit (.int .i64 z)) (Int.pow_succ _ _).symm) ?_
      refine o_as (Iv (m.mod ^ (i + 1))) rfl ?_
      refine aops_end (hK27 _ (awp_seq fun K28 hK28 => ?_))
      refine awp_wk (σ' := ⟨[(2, Iv k), (3, .ref 2 0), (6, .ref 3 0), (10, Iv (m.mod ^ (i + 1))), (12, Iv Z), (13, .ref 4 0), (14, .row 203), (51, Iv k), (52, Nv i), (53, (bp (((i : Nat) : Int) < k))), (55, mapV m), (56, intW (iterZ m i Z)), (57, .tup [intW (stepZ m (iterZ m i Z)), Iv ((iterZ m i Z) % m.mod)]), (54, .tup [intW (stepZ m (iterZ m i Z)), Iv ((iterZ m i Z) % m.mod)]), (58, intW (stepZ m (iterZ m i Z))), (59, Iv ((iterZ m i Z) % m.mod)), (15, .ref 201 0), (16, Iv ((iterZ m i Z) % m.mod)), (60, intW (stepZ m (iterZ m i Z))), (61, .row 50), (62, Iv ((iterZ m i Z) % m.mod)), (63, .row 202), (64, .row 203), (65, Iv (m.mod ^ i)), (66, .ref 2 0), (67, Iv m.mod), (68, Iv (m.mod ^ (i + 1)))], [(203, .row 3 1 (is .i64 ((wordZ m Z i) ++ ([(iterZ m i Z) % m.mod])))), (202, .row 3 1 (is .i64 ([(iterZ m i Z) % m.mod]))), (201, oZ 79 .u32 (stepZ m (iterZ m i Z))), (2, oM 24 m), (3, .var 40 [Nv 0, Nv 0, Sv Ev, Sv Ev, Sv Ev, Sv Ev]), (4, oZ 79 .u32 (stepZ m (iterZ m i Z)))]⟩) (Wk.sub ⟨rfl, rfl, rfl, rfl, rfl, rfl, rfl, rfl, rfl, rfl, rfl, rfl, rfl, rfl, rfl, rfl, rfl, rfl, rfl, rfl, rfl, rfl, rfl, rfl, rfl, rfl, rfl, trivial⟩ ⟨rfl, rfl, rfl, rfl, rfl, rfl, trivial⟩) ?_
      refine awp_regionSK 2 71 _ 47 [] _ _ _ _ _ [mapV m, .row 203] (linW (lineZ m (wordZ m Z (i + 1)))) [(203, .row 3 1 (is .i64 ((wordZ m Z i) ++ ([(iterZ m i Z) % m.mod])))), (202, .row 3 1 (is .i64 ([(iterZ m i Z) % m.mod]))), (201, oZ 79 .u32 (stepZ m (iterZ m i Z))), (2, oM 24 m), (3, .var 40 [Nv 0, Nv 0, Sv Ev, Sv Ev, Sv Ev, Sv Ev]), (4, oZ 79 .u32 (stepZ m (iterZ m i Z)))] rfl rfl f141_ ?_
      refine o_loadA [Iv m.mod, Lv m.mul, Lv m.add] Gd.none f64_ rfl rfl rfl rfl rfl ?_
      refine o_mv (.row 203) rfl ?_
      refine aops_end ⟨rfl, rfl, ?sc2, ?_⟩
      case sc2 =>
       refine scalls_of_awpB 9011 Tryz.func47 (c := _) rfl (Nat.le_of_ble_eq_true rfl) rfl rfl rfl (fun us2 => ?_)
       show awp cx 25 _ (postS cx Tryz.f47 (linW (lineZ m (wordZ m Z (i + 1)))) [(203, .row 3 1 (is .i64 ((wordZ m Z i) ++ ([(iterZ m i Z) % m.mod])))), (202, .row 3 1 (is .i64 ([(iterZ m i Z) % m.mod]))), (201, oZ 79 .u32 (stepZ m (iterZ m i Z))), (2, oM 24 m), (3, .var 40 [Nv 0, Nv 0, Sv Ev, Sv Ev, Sv Ev, Sv Ev]), (4, oZ 79 .u32 (stepZ m (iterZ m i Z)))] 9011 [.row 203, mapV m, Iv k, .ref 2 0, .ref 3 0, Iv (m.mod ^ (i + 1)), Iv Z, .ref 4 0, .row 203, Iv k, Nv i, (bp (((i : Nat) : Int) < k)), mapV m, intW (iterZ m i Z), .tup [intW (stepZ m (iterZ m i Z)), Iv ((iterZ m i Z) % m.mod)], .tup [intW (stepZ m (iterZ m i Z)), Iv ((iterZ m i Z) % m.mod)], intW (stepZ m (iterZ m i Z)), Iv ((iterZ m i Z) % m.mod), .ref 201 0, Iv ((iterZ m i Z) % m.mod), intW (stepZ m (iterZ m i Z)), .row 50, Iv ((iterZ m i Z) % m.mod), .row 202, .row 203, Iv (m.mod ^ i), .ref 2 0, Iv m.mod, Iv (m.mod ^ (i + 1))] us2) ⟨[(0, mapV m), (1, .row 203)], [(9011, (.pin [.row 203, mapV m, Iv k, .ref 2 0, .ref 3 0, Iv (m.mod ^ (i + 1)), Iv Z, .ref 4 0, .row 203, Iv k, Nv i, (bp (((i : Nat) : Int) < k)), mapV m, intW (iterZ m i Z), .tup [intW (stepZ m (iterZ m i Z)), Iv ((iterZ m i Z) % m.mod)], .tup [intW (stepZ m (iterZ m i Z)), Iv ((iterZ m i Z) % m.mod)], intW (stepZ m (iterZ m i Z)), Iv ((iterZ m i Z) % m.mod), .ref 201 0, Iv ((iterZ m i Z) % m.mod), intW (stepZ m (iterZ m i Z)), .row 50, Iv ((iterZ m i Z) % m.mod), .row 202, .row 203, Iv (m.mod ^ i), .ref 2 0, Iv m.mod, Iv (m.mod ^ (i + 1))] us2)), (203, .row 3 1 (is .i64 ((wordZ m Z i) ++ ([(iterZ m i Z) % m.mod])))), (202, .row 3 1 (is .i64 ([(iterZ m i Z) % m.mod]))), (201, oZ 79 .u32 (stepZ m (iterZ m i Z))), (2, oM 24 m), (3, .var 40 [Nv 0, Nv 0, Sv Ev, Sv Ev, Sv Ev, Sv Ev]), (4, oZ 79 .u32 (stepZ m (iterZ m i Z)))]⟩
       refine awp_seq fun K29 hK29 => awp_region rfl ?_
       refine o_box 204 [Iv m.mod, Lv m.mul, Lv m.add] Gd.none rfl rfl ?_
       refine o_alloc 205 [Fv, Zv, Fv, Zv, Fv, Zv] Gd.none f78_ rfl rfl rfl ?_
       refine aops_end (hK29 _ (awp_seq fun K30 hK30 => awp_region rfl ?_))
       refine o_ct (c_wOf (1 : Int) (by decide) (by decide)) Gd.none f46_ rfl ?_
       refine o_ct (c_wOf (0 : Int) (by decide) (by decide)) Gd.none f46_ rfl ?_
       refine o_ct (c_wOf (1 : Int) (by decide) (by decide)) Gd.none f46_ rfl ?_
       refine o_build [(bp ((1 : Int) < 0)), (.sl 1 (ns .u32 (digs (1 : Int).natAbs))), (bp ((0 : Int) < 0)), (.sl 1 (ns .u32 (digs (0 : Int).natAbs))), (bp ((1 : Int) < 0)), (.sl 1 (ns .u32 (digs (1 : Int).natAbs)))] [(0, [(bp ((1 : Int) < 0)), (.sl 1 (ns .u32 (digs (1 : Int).natAbs)))]), (1, [(bp ((0 : Int) < 0)), (.sl 1 (ns .u32 (digs (0 : Int).natAbs)))]), (2, [(bp ((1 : Int) < 0)), (.sl 1 (ns .u32 (digs (1 : Int).natAbs)))])] Gd.none f79_ f78_ rfl rfl rfl ?_
       refine o_alloc 206 [Fv, Zv, Fv, Zv, Fv, Zv] Gd.none f78_ rfl rfl rfl ?_
       refine o_store [(206, (.var 81 [(bp ((1 : Int) < 0)), (.sl 1 (ns .u32 (digs (1 : Int).natAbs))), (bp ((0 : Int) < 0)), (.sl 1 (ns .u32 (digs (0 : Int).natAbs))), (bp ((1 : Int) < 0)), (.sl 1 (ns .u32 (digs (1 : Int).natAbs)))])), (205, .var 81 [Fv, Zv, Fv, Zv, Fv, Zv]), (204, oM 24 m), (9011, (.pin [.row 203, mapV m, Iv k, .ref 2 0, .ref 3 0, Iv (m.mod ^ (i + 1)), Iv Z, .ref 4 0, .row 203, Iv k, Nv i, (bp (((i : Nat) : Int) < k)), mapV m, intW (iterZ m i Z), .tup [intW (stepZ m (iterZ m i Z)), Iv ((iterZ m i Z) % m.mod)], .tup [intW (stepZ m (iterZ m i Z)), Iv ((iterZ m i Z) % m.mod)], intW (stepZ m (iterZ m i Z)), Iv ((iterZ m i Z) % m.mod), .ref 201 0, Iv ((iterZ m i Z) % m.mod), intW (stepZ m (iterZ m i Z)), .row 50, Iv ((iterZ m i Z) % m.mod), .row 202, .row 203, Iv (m.mod ^ i), .ref 2 0, Iv m.mod, Iv (m.mod ^ (i + 1))] us2)), (203, .row 3 1 (is .i64 ((wordZ m Z i) ++ ([(iterZ m i Z) % m.mod])))), (202, .row 3 1 (is .i64 ([(iterZ m i Z) % m.mod]))), (201, oZ 79 .u32 (stepZ m (iterZ m i Z))), (2, oM 24 m), (3, .var 40 [Nv 0, Nv 0, Sv Ev, Sv Ev, Sv Ev, Sv Ev]), (4, oZ 79 .u32 (stepZ m (iterZ m i Z)))] Gd.none f80_ rfl rfl rfl rfl rfl rfl ?_
       refine aops_end (hK30 _ (awp_seq fun K31 hK31 => awp_region rfl ?_))
       refine o_makeFunc [.ref 204 0, .ref 206 0] Gd.none rfl ?_
       refine o_as (.clo 84 [.ref 204 0, .ref 206 0]) rfl ?_
       refine aops_end (hK31 _ (awp_seq fun K32 hK32 => awp_seq fun K33 hK33 => awp_region rfl (o_mv (.row 203) rfl ?_)))
       refine o_lenRow (((wordZ m Z i) ++ ([(iterZ m i Z) % m.mod])).length) Gd.none f2_ rfl rfl (by simp [is]) ?_
       refine o_mv (Nv 0) rfl (aops_end (hK33 _ ?_))
       refine awp_block ?_
       refine awp_loopR (fun κ σ => ∃ (j : Nat), ∃ (l : LinZ), (j ≤ ((wordZ m Z i) ++ ([(iterZ m i Z) % m.mod])).length) ∧ (l = lineZ m (((wordZ m Z i) ++ ([(iterZ m i Z) % m.mod])).take j)) ∧ (((wordZ m Z i) ++ ([(iterZ m i Z) % m.mod])).length - j) = κ ∧ σ = ⟨[(2, .ref 204 0), (4, .ref 205 0), (5, .ref 206 0), (6, .clo 84 [.ref 204 0, .ref 206 0]), (14, .row 203), (15, Nv (((wordZ m Z i) ++ ([(iterZ m i Z) % m.mod])).length)), (16, Nv j)], [(9011, (.pin [.row 203, mapV m, Iv k, .ref 2 0, .ref 3 0, Iv (m.mod ^ (i + 1)), Iv Z, .ref 4 0, .row 203, Iv k, Nv i, (bp (((i : Nat) : Int) < k)), mapV m, intW (iterZ m i Z), .tup [intW (stepZ m (iterZ m i Z)), Iv ((iterZ m i Z) % m.mod)], .tup [intW (stepZ m (iterZ m i Z)), Iv ((iterZ m i Z) % m.mod)], intW (stepZ m (iterZ m i Z)), Iv ((iterZ m i Z) % m.mod), .ref 201 0, Iv ((iterZ m i Z) % m.mod), intW (stepZ m (iterZ m i Z)), .row 50, Iv ((iterZ m i Z) % m.mod), .row 202, .row 203, Iv (m.mod ^ i), .ref 2 0, Iv m.mod, Iv (m.mod ^ (i + 1))] us2)), (203, .row 3 1 (is .i64 ((wordZ m Z i) ++ ([(iterZ m i Z) % m.mod])))), (202, .row 3 1 (is .i64 ([(iterZ m i Z) % m.mod]))), (201, oZ 79 .u32 (stepZ m (iterZ m i Z))), (2, oM 24 m), (3, .var 40 [Nv 0, Nv 0, Sv Ev, Sv Ev, Sv Ev, Sv Ev]), (4, oZ 79 .u32 (stepZ m (iterZ m i Z))), (204, oM 24 m), (205, .var 81 [Fv, Zv, Fv, Zv, Fv, Zv]), (206, .var 81 [Bv (l.mul), Dv (l.mul), Bv (l.add), Dv (l.add), Bv (l.div), Dv (l.div)])]⟩) ⟨_, _, ⟨0, oneZ, (by omega), rfl, rfl, rfl⟩, ?wk3⟩ ?rd3
       case wk3 =>
        exact Wk.sub ⟨rfl, rfl, rfl, rfl, rfl, rfl, (by rfl), trivial⟩ ⟨rfl, rfl, rfl, rfl, rfl, rfl, rfl, rfl, rfl, rfl, trivial⟩
       rintro κ _ ⟨j, l, hj, hl2, rfl, rfl⟩
       refine awp_seq fun K34 hK34 => awp_region rfl ?_
       refine n_lss j (((wordZ m Z i) ++ ([(iterZ m i Z) % m.mod])).length) Gd.none rfl rfl ?_
       refine aops_end (hK34 _ (awp_seq fun K35 hK35 => ?_))
       refine awp_condQ (q := j < (((wordZ m Z i) ++ ([(iterZ m i Z) % m.mod])).length)) rfl (fun h6 => ?_) (fun h6 => ?_)
       ·refine awp_skip (hK35 _ (awp_seq fun K36 hK36 => ?_))
        refine awp_block ?_
        refine awp_seq fun K37 hK37 => awp_region rfl ?_
        refine i_indexRow ((wordZ m Z i) ++ ([(iterZ m i Z) % m.mod])) j Gd.none f10_ rfl rfl rfl (by omega) ?_
        refine i_loadRow ((wordZ m Z i) ++ ([(iterZ m i Z) % m.mod])) j Gd.none f11_ rfl rfl (by omega) ?_
        refine n_as (v' := (Nv ((((wordZ m Z i) ++ ([iterZ m i Z % m.mod])).getD j 0).toNat))) (nm_int (by have hwj := isW_get (show IsW m ((wordZ m Z i) ++ ([iterZ m i Z % m.mod])) from hW1) (show j < ((wordZ m Z i) ++ ([iterZ m i Z % m.mod])).length by assumption); omega)) ?_
        refine o_as (Nv ((((wordZ m Z i) ++ ([iterZ m i Z % m.mod])).getD j 0).toNat)) rfl ?_
        refine aops_end (hK37 _ ?_)
        refine awp_wk (σ' := ⟨[(2, .ref 204 0), (4, .ref 205 0), (5, .ref 206 0), (6, .clo 84 [.ref 204 0, .ref 206 0]), (14, .row 203), (15, Nv (((wordZ m Z i) ++ ([(iterZ m i Z) % m.mod])).length)), (16, Nv j), (17, bp (j < (((wordZ m Z i) ++ ([(iterZ m i Z) % m.mod])).length))), (18, .ref 203 j), (19, Nv ((((wordZ m Z i) ++ ([iterZ m i Z % m.mod])).getD j 0).toNat)), (8, Nv ((((wordZ m Z i) ++ ([iterZ m i Z % m.mod])).getD j 0).toNat))], [(9011, (.pin [.row 203, mapV m, Iv k, .ref 2 0, .ref 3 0, Iv (m.mod ^ (i + 1)), Iv Z, .ref 4 0, .row 203, Iv k, Nv i, (bp (((i : Nat) : Int) < k)), mapV m, intW (iterZ m i Z), .tup [intW (stepZ m (iterZ m i Z)), Iv ((iterZ m i Z) % m.mod)], .tup [intW (stepZ m (iterZ m i Z)), Iv ((iterZ m i Z) % m.mod)], intW (stepZ m (iterZ m i Z)), Iv ((iterZ m i Z) % m.mod), .ref 201 0, Iv ((iterZ m i Z) % m.mod), intW (stepZ m (iterZ m i Z)), .row 50, Iv ((iterZ m i Z) % m.mod), .row 202, .row 203, Iv (m.mod ^ i), .ref 2 0, Iv m.mod, Iv (m.mod ^ (i + 1))] us2)), (203, .row 3 1 (is .i64 ((wordZ m Z i) ++ ([(iterZ m i Z) % m.mod])))), (202, .row 3 1 (is .i64 ([(iterZ m i Z) % m.mod]))), (201, oZ 79 .u32 (stepZ m (iterZ m i Z))), (2, oM 24 m), (3, .var 40 [Nv 0, Nv 0, Sv Ev, Sv Ev, Sv Ev, Sv Ev]), (4, oZ 79 .u32 (stepZ m (iterZ m i Z))), (204, oM 24 m), (205, .var 81 [Fv, Zv, Fv, Zv, Fv, Zv]), (206, .var 81 [Bv (l.mul), Dv (l.mul), Bv (l.add), Dv (l.add), Bv (l.div), Dv (l.div)])]⟩) (Wk.sub ⟨rfl, rfl, rfl, rfl, rfl, rfl, rfl, rfl, rfl, rfl, rfl, trivial⟩ ⟨rfl, rfl, rfl, rfl, rfl, rfl, rfl, rfl, rfl, rfl, trivial⟩) ?_
        refine awp_regionSK 2 22 _ 84 [.ref 204 0, .ref 206 0] _ _ _ _ _ [Nv ((((wordZ m Z i) ++ ([iterZ m i Z % m.mod])).getD j 0).toNat), .ref 204 0, .ref 206 0] (linW (thenZ m l (((wordZ m Z i) ++ ([iterZ m i Z % m.mod])).getD j 0))) [(9011, (.pin [.row 203, mapV m, Iv k, .ref 2 0, .ref 3 0, Iv (m.mod ^ (i + 1)), Iv Z, .ref 4 0, .row 203, Iv k, Nv i, (bp (((i : Nat) : Int) < k)), mapV m, intW (iterZ m i Z), .tup [intW (stepZ m (iterZ m i Z)), Iv ((iterZ m i Z) % m.mod)], .tup [intW (stepZ m (iterZ m i Z)), Iv ((iterZ m i Z) % m.mod)], intW (stepZ m (iterZ m i Z)), Iv ((iterZ m i Z) % m.mod), .ref 201 0, Iv ((iterZ m i Z) % m.mod), intW (stepZ m (iterZ m i Z)), .row 50, Iv ((iterZ m i Z) % m.mod), .row 202, .row 203, Iv (m.mod ^ i), .ref 2 0, Iv m.mod, Iv (m.mod ^ (i + 1))] us2)), (203, .row 3 1 (is .i64 ((wordZ m Z i) ++ ([(iterZ m i Z) % m.mod])))), (202, .row 3 1 (is .i64 ([(iterZ m i Z) % m.mod]))), (201, oZ 79 .u32 (stepZ m (iterZ m i Z))), (2, oM 24 m), (3, .var 40 [Nv 0, Nv 0, Sv Ev, Sv Ev, Sv Ev, Sv Ev]), (4, oZ 79 .u32 (stepZ m (iterZ m i Z))), (204, oM 24 m), (205, .var 81 [Fv, Zv, Fv, Zv, Fv, Zv]), (206, .var 81 [Bv (l.mul), Dv (l.mul), Bv (l.add), Dv (l.add), Bv (l.div), Dv (l.div)])] rfl rfl f81_ ?_
        refine o_mv (.clo 84 [.ref 204 0, .ref 206 0]) rfl (o_mv (Nv ((((wordZ m Z i) ++ ([iterZ m i Z % m.mod])).getD j 0).toNat)) rfl ?_)
        refine aops_end ⟨rfl, rfl, ?sc4, ?_⟩
        case sc4 =>
         refine scalls_of_awpB 9013 Tryz.func84 (c := _) rfl (Nat.le_of_ble_eq_true rfl) rfl rfl rfl (fun us4 => ?_)
         show awp cx 37 _ (postS cx Tryz.f84 (linW (thenZ m l (((wordZ m Z i) ++ ([iterZ m i Z % m.mod])).getD j 0))) [(9011, (.pin [.row 203, mapV m, Iv k, .ref 2 0, .ref 3 0, Iv (m.mod ^ (i + 1)), Iv Z, .ref 4 0, .row 203, Iv k, Nv i, (bp (((i : Nat) : Int) < k)), mapV m, intW (iterZ m i Z), .tup [intW (stepZ m (iterZ m i Z)), Iv ((iterZ m i Z) % m.mod)], .tup [intW (stepZ m (iterZ m i Z)), Iv ((iterZ m i Z) % m.mod)], intW (stepZ m (iterZ m i Z)), Iv ((iterZ m i Z) % m.mod), .ref 201 0, Iv ((iterZ m i Z) % m.mod), intW (stepZ m (iterZ m i Z)), .row 50, Iv ((iterZ m i Z) % m.mod), .row 202, .row 203, Iv (m.mod ^ i), .ref 2 0, Iv m.mod, Iv (m.mod ^ (i + 1))] us2)), (203, .row 3 1 (is .i64 ((wordZ m Z i) ++ ([(iterZ m i Z) % m.mod])))), (202, .row 3 1 (is .i64 ([(iterZ m i Z) % m.mod]))), (201, oZ 79 .u32 (stepZ m (iterZ m i Z))), (2, oM 24 m), (3, .var 40 [Nv 0, Nv 0, Sv Ev, Sv Ev, Sv Ev, Sv Ev]), (4, oZ 79 .u32 (stepZ m (iterZ m i Z))), (204, oM 24 m), (205, .var 81 [Fv, Zv, Fv, Zv, Fv, Zv]), (206, .var 81 [Bv (l.mul), Dv (l.mul), Bv (l.add), Dv (l.add), Bv (l.div), Dv (l.div)])] 9013 [Nv ((((wordZ m Z i) ++ ([iterZ m i Z % m.mod])).getD j 0).toNat), .clo 84 [.ref 204 0, .ref 206 0], .ref 204 0, .ref 205 0, .ref 206 0, .clo 84 [.ref 204 0, .ref 206 0], .row 203, Nv (((wordZ m Z i) ++ ([(iterZ m i Z) % m.mod])).length), Nv j, bp (j < (((wordZ m Z i) ++ ([(iterZ m i Z) % m.mod])).length)), .ref 203 j, Nv ((((wordZ m Z i) ++ ([iterZ m i Z % m.mod])).getD j 0).toNat), Nv ((((wordZ m Z i) ++ ([iterZ m i Z % m.mod])).getD j 0).toNat)] us4) ⟨[(0, Nv ((((wordZ m Z i) ++ ([iterZ m i Z % m.mod])).getD j 0).toNat)), (1, .ref 204 0), (2, .ref 206 0)], [(9013, .pin [Nv ((((wordZ m Z i) ++ ([iterZ m i Z % m.mod])).getD j 0).toNat), .clo 84 [.ref 204 0, .ref 206 0], .ref 204 0, .ref 205 0, .ref 206 0, .clo 84 [.ref 204 0, .ref 206 0], .row 203, Nv (((wordZ m Z i) ++ ([(iterZ m i Z) % m.mod])).length), Nv j, bp (j < (((wordZ m Z i) ++ ([(iterZ m i Z) % m.mod])).length)), .ref 203 j, Nv ((((wordZ m Z i) ++ ([iterZ m i Z % m.mod])).getD j 0).toNat), Nv ((((wordZ m Z i) ++ ([iterZ m i Z % m.mod])).getD j 0).toNat)] us4), (9011, (.pin [.row 203, mapV m, Iv k, .ref 2 0, .ref 3 0, Iv (m.mod ^ (i + 1)), Iv Z, .ref 4 0, .row 203, Iv k, Nv i, (bp (((i : Nat) : Int) < k)), mapV m, intW (iterZ m i Z), .tup [intW (stepZ m (iterZ m i Z)), Iv ((iterZ m i Z) % m.mod)], .tup [intW (stepZ m (iterZ m i Z)), Iv ((iterZ m i Z) % m.mod)], intW (stepZ m (iterZ m i Z)), Iv ((iterZ m i Z) % m.mod), .ref 201 0, Iv ((iterZ m i Z) % m.mod), intW (stepZ m (iterZ m i Z)), .row 50, Iv ((iterZ m i Z) % m.mod), .row 202, .row 203, Iv (m.mod ^ i), .ref 2 0, Iv m.mod, Iv (m.mod ^ (i + 1))] us2)), (203, .row 3 1 (is .i64 ((wordZ m Z i) ++ ([(iterZ m i Z) % m.mod])))), (202, .row 3 1 (is .i64 ([(iterZ m i Z) % m.mod]))), (201, oZ 79 .u32 (stepZ m (iterZ m i Z))), (2, oM 24 m), (3, .var 40 [Nv 0, Nv 0, Sv Ev, Sv Ev, Sv Ev, Sv Ev]), (4, oZ 79 .u32 (stepZ m (iterZ m i Z))), (204, oM 24 m), (205, .var 81 [Fv, Zv, Fv, Zv, Fv, Zv]), (206, .var 81 [Bv (l.mul), Dv (l.mul), Bv (l.add), Dv (l.add), Bv (l.div), Dv (l.div)])]⟩
         have hwj := isW_get (show IsW m ((wordZ m Z i) ++ ([iterZ m i Z % m.mod])) from hW1) (show j < ((wordZ m Z i) ++ ([iterZ m i Z % m.mod])).length by assumption)
         have hor := o5 ((((wordZ m Z i) ++ ([iterZ m i Z % m.mod])).getD j 0).toNat) (by omega)
         obtain ⟨J1, J2, J3⟩ := line_len hM (((wordZ m Z i) ++ ([iterZ m i Z % m.mod])).take j) (isW_take (show IsW m ((wordZ m Z i) ++ ([iterZ m i Z % m.mod])) from hW1) j)
         have J4 : (((wordZ m Z i) ++ ([iterZ m i Z % m.mod])).take j).length ≤ 200 := by rw [List.length_take]; omega
         rw [← hl2] at J1 J2 J3
         have hq1 := small_len (z := ((m.mul).getD ((((wordZ m Z i) ++ ([iterZ m i Z % m.mod])).getD j 0).toNat) 0)) (by omega)
         have ha1 := small_len (z := ((m.add).getD ((((wordZ m Z i) ++ ([iterZ m i Z % m.mod])).getD j 0).toNat) 0)) (by omega)
         have hd1 := small_len (z := m.mod) (by omega)
         have hm1 := len_mulZ l.mul ((m.mul).getD ((((wordZ m Z i) ++ ([iterZ m i Z % m.mod])).getD j 0).toNat) 0)
         have hm2 := len_mulZ l.add ((m.mul).getD ((((wordZ m Z i) ++ ([iterZ m i Z % m.mod])).getD j 0).toNat) 0)
         have hm3 := len_mulZ l.div ((m.add).getD ((((wordZ m Z i) ++ ([iterZ m i Z % m.mod])).getD j 0).toNat) 0)
         refine awp_seq fun K38 hK38 => awp_region rfl ?_
         refine o_alloc 401 [Fv, Zv, Fv, Zv, Fv, Zv] Gd.none f78_ rfl rfl rfl ?_
         refine aops_end (hK38 _ (awp_seq fun K39 hK39 => awp_region rfl ?_))
         refine o_fieldRef 1 Gd.none f61_ rfl rfl ?_
         refine o_loadS (Lv m.mul) Gd.none f1_ rfl rfl rfl ?_
         refine o_mv (Nv ((((wordZ m Z i) ++ ([iterZ m i Z % m.mod])).getD j 0).toNat)) rfl ?_
         refine i_index m.mul ((((wordZ m Z i) ++ ([iterZ m i Z % m.mod])).getD j 0).toNat) Gd.none f10_ rfl rfl (by omega) ?_
         refine i_loadI m.mul ((((wordZ m Z i) ++ ([iterZ m i Z % m.mod])).getD j 0).toNat) Gd.none f11_ rfl (by omega) ?_
         refine o_ct (c_wOf ((m.mul).getD ((((wordZ m Z i) ++ ([iterZ m i Z % m.mod])).getD j 0).toNat) 0) (by omega) (by omega)) Gd.none f46_ rfl ?_
         refine o_alloc 402 [Fv, Zv] Gd.none f15_ rfl rfl rfl ?_
         refine o_store [(402, oZ 79 .u32 ((m.mul).getD ((((wordZ m Z i) ++ ([iterZ m i Z % m.mod])).getD j 0).toNat) 0)), (401, .var 81 [Fv, Zv, Fv, Zv, Fv, Zv]), (9013, .pin [Nv ((((wordZ m Z i) ++ ([iterZ m i Z % m.mod])).getD j 0).toNat), .clo 84 [.ref 204 0, .ref 206 0], .ref 204 0, .ref 205 0, .ref 206 0, .clo 84 [.ref 204 0, .ref 206 0], .row 203, Nv (((wordZ m Z i) ++ ([(iterZ m i Z) % m.mod])).length), Nv j, bp (j < (((wordZ m Z i) ++ ([(iterZ m i Z) % m.mod])).length)), .ref 203 j, Nv ((((wordZ m Z i) ++ ([iterZ m i Z % m.mod])).getD j 0).toNat), Nv ((((wordZ m Z i) ++ ([iterZ m i Z % m.mod])).getD j 0).toNat)] us4), (9011, (.pin [.row 203, mapV m, Iv k, .ref 2 0, .ref 3 0, Iv (m.mod ^ (i + 1)), Iv Z, .ref 4 0, .row 203, Iv k, Nv i, (bp (((i : Nat) : Int) < k)), mapV m, intW (iterZ m i Z), .tup [intW (stepZ m (iterZ m i Z)), Iv ((iterZ m i Z) % m.mod)], .tup [intW (stepZ m (iterZ m i Z)), Iv ((iterZ m i Z) % m.mod)], intW (stepZ m (iterZ m i Z)), Iv ((iterZ m i Z) % m.mod), .ref 201 0, Iv ((iterZ m i Z) % m.mod), intW (stepZ m (iterZ m i Z)), .row 50, Iv ((iterZ m i Z) % m.mod), .row 202, .row 203, Iv (m.mod ^ i), .ref 2 0, Iv m.mod, Iv (m.mod ^ (i + 1))] us2)), (203, .row 3 1 (is .i64 ((wordZ m Z i) ++ ([(iterZ m i Z) % m.mod])))), (202, .row 3 1 (is .i64 ([(iterZ m i Z) % m.mod]))), (201, oZ 79 .u32 (stepZ m (iterZ m i Z))), (2, oM 24 m), (3, .var 40 [Nv 0, Nv 0, Sv Ev, Sv Ev, Sv Ev, Sv Ev]), (4, oZ 79 .u32 (stepZ m (iterZ m i Z))), (204, oM 24 m), (205, .var 81 [Fv, Zv, Fv, Zv, Fv, Zv]), (206, .var 81 [Bv (l.mul), Dv (l.mul), Bv (l.add), Dv (l.add), Bv (l.div), Dv (l.div)])] Gd.none f19_ rfl rfl rfl rfl rfl rfl ?_
         refine aops_end (hK39 _ (awp_seq fun K40 hK40 => awp_regionD rfl ?_))
         refine o_fieldRef 0 Gd.none f82_ rfl rfl ?_
         refine o_loadA [Bv (l.mul), Dv (l.mul)] Gd.none f20_ rfl rfl rfl rfl rfl ?_
         refine o_loadA [bp ((m.mul).getD ((((wordZ m Z i) ++ ([iterZ m i Z % m.mod])).getD j 0).toNat) 0 < 0), .sl 1 (ns .u32 (digs ((m.mul).getD ((((wordZ m Z i) ++ ([iterZ m i Z % m.mod])).getD j 0).toNat) 0).natAbs))] Gd.none f20_ rfl rfl rfl rfl rfl ?_
         refine o_ct (c_wMul (l.mul) ((m.mul).getD ((((wordZ m Z i) ++ ([iterZ m i Z % m.mod])).getD j 0).toNat) 0) (by omega) (by omega)) Gd.none f72_ rfl ?_
         refine o_fieldRef 2 Gd.none f83_ rfl rfl ?_
         refine o_loadA [Bv (l.add), Dv (l.add)] Gd.none f20_ rfl rfl rfl rfl rfl ?_
         refine o_loadA [bp ((m.mul).getD ((((wordZ m Z i) ++ ([iterZ m i Z % m.mod])).getD j 0).toNat) 0 < 0), .sl 1 (ns .u32 (digs ((m.mul).getD ((((wordZ m Z i) ++ ([iterZ m i Z % m.mod])).getD j 0).toNat) 0).natAbs))] Gd.none f20_ rfl rfl rfl rfl rfl ?_
         refine o_ct (c_wMul (l.add) ((m.mul).getD ((((wordZ m Z i) ++ ([iterZ m i Z % m.mod])).getD j 0).toNat) 0) (by omega) (by omega)) Gd.none f72_ rfl ?_
         refine o_fieldRef 4 Gd.none f84_ rfl rfl ?_
         refine o_loadA [Bv (l.div), Dv (l.div)] Gd.none f20_ rfl rfl rfl rfl rfl ?_
         refine o_fieldRef 2 Gd.none f62_ rfl rfl ?_
         refine o_loadS (Lv m.add) Gd.none f1_ rfl rfl rfl ?_
         refine o_mv (Nv ((((wordZ m Z i) ++ ([iterZ m i Z % m.mod])).getD j 0).toNat)) rfl ?_
         refine i_index m.add ((((wordZ m Z i) ++ ([iterZ m i Z % m.mod])).getD j 0).toNat) Gd.none f10_ rfl rfl (by omega) ?_
         refine i_loadI m.add ((((wordZ m Z i) ++ ([iterZ m i Z % m.mod])).getD j 0).toNat) Gd.none f11_ rfl (by omega) ?_
         refine o_ct (c_wOf ((m.add).getD ((((wordZ m Z i) ++ ([iterZ m i Z % m.mod])).getD j 0).toNat) 0) (by omega) (by omega)) Gd.none f46_ rfl ?_
         refine o_ct (c_wMul (l.div) ((m.add).getD ((((wordZ m Z i) ++ ([iterZ m i Z % m.mod])).getD j 0).toNat) 0) (by omega) (by omega)) Gd.none f72_ rfl ?_
         refine o_ct (c_wAdd ((l.add) * (m.mul).getD ((((wordZ m Z i) ++ ([iterZ m i Z % m.mod])).getD j 0).toNat) 0) ((l.div) * (m.add).getD ((((wordZ m Z i) ++ ([iterZ m i Z % m.mod])).getD j 0).toNat) 0) (by omega) (by omega)) Gd.none f40_ rfl ?_
         refine o_fieldRef 4 Gd.none f84_ rfl rfl ?_
         refine o_loadA [Bv (l.div), Dv (l.div)] Gd.none f20_ rfl rfl rfl rfl rfl ?_
         refine o_fieldRef 0 Gd.none f60_ rfl rfl ?_
         refine o_loadS (Iv m.mod) Gd.none f11_ rfl rfl rfl ?_
         refine o_ct (c_wOf m.mod (by omega) (by omega)) Gd.none f46_ rfl ?_
         refine o_ct (c_wMul (l.div) m.mod (by omega) (by omega)) Gd.none f72_ rfl ?_
         refine o_build [bp (((l.mul) * (m.mul).getD ((((wordZ m Z i) ++ ([iterZ m i Z % m.mod])).getD j 0).toNat) 0) < 0), .sl 1 (ns .u32 (digs ((l.mul) * (m.mul).getD ((((wordZ m Z i) ++ ([iterZ m i Z % m.mod])).getD j 0).toNat) 0).natAbs)), bp ((((l.add) * (m.mul).getD ((((wordZ m Z i) ++ ([iterZ m i Z % m.mod])).getD j 0).toNat) 0) + ((l.div) * (m.add).getD ((((wordZ m Z i) ++ ([iterZ m i Z % m.mod])).getD j 0).toNat) 0)) < 0), .sl 1 (ns .u32 (digs (((l.add) * (m.mul).getD ((((wordZ m Z i) ++ ([iterZ m i Z % m.mod])).getD j 0).toNat) 0) + ((l.div) * (m.add).getD ((((wordZ m Z i) ++ ([iterZ m i Z % m.mod])).getD j 0).toNat) 0)).natAbs)), bp (((l.div) * m.mod) < 0), .sl 1 (ns .u32 (digs ((l.div) * m.mod).natAbs))] [(0, [bp (((l.mul) * (m.mul).getD ((((wordZ m Z i) ++ ([iterZ m i Z % m.mod])).getD j 0).toNat) 0) < 0), .sl 1 (ns .u32 (digs ((l.mul) * (m.mul).getD ((((wordZ m Z i) ++ ([iterZ m i Z % m.mod])).getD j 0).toNat) 0).natAbs))]), (1, [bp ((((l.add) * (m.mul).getD ((((wordZ m Z i) ++ ([iterZ m i Z % m.mod])).getD j 0).toNat) 0) + ((l.div) * (m.add).getD ((((wordZ m Z i) ++ ([iterZ m i Z % m.mod])).getD j 0).toNat) 0)) < 0), .sl 1 (ns .u32 (digs (((l.add) * (m.mul).getD ((((wordZ m Z i) ++ ([iterZ m i Z % m.mod])).getD j 0).toNat) 0) + ((l.div) * (m.add).getD ((((wordZ m Z i) ++ ([iterZ m i Z % m.mod])).getD j 0).toNat) 0)).natAbs))]), (2, [bp (((l.div) * m.mod) < 0), .sl 1 (ns .u32 (digs ((l.div) * m.mod).natAbs))])] Gd.none f79_ f78_ rfl rfl rfl ?_
         refine o_store [(402, oZ 79 .u32 ((m.mul).getD ((((wordZ m Z i) ++ ([iterZ m i Z % m.mod])).getD j 0).toNat) 0)), (401, .var 81 [bp (((l.mul) * (m.mul).getD ((((wordZ m Z i) ++ ([iterZ m i Z % m.mod])).getD j 0).toNat) 0) < 0), .sl 1 (ns .u32 (digs ((l.mul) * (m.mul).getD ((((wordZ m Z i) ++ ([iterZ m i Z % m.mod])).getD j 0).toNat) 0).natAbs)), bp ((((l.add) * (m.mul).getD ((((wordZ m Z i) ++ ([iterZ m i Z % m.mod])).getD j 0).toNat) 0) + ((l.div) * (m.add).getD ((((wordZ m Z i) ++ ([iterZ m i Z % m.mod])).getD j 0).toNat) 0)) < 0), .sl 1 (ns .u32 (digs (((l.add) * (m.mul).getD ((((wordZ m Z i) ++ ([iterZ m i Z % m.mod])).getD j 0).toNat) 0) + ((l.div) * (m.add).getD ((((wordZ m Z i) ++ ([iterZ m i Z % m.mod])).getD j 0).toNat) 0)).natAbs)), bp (((l.div) * m.mod) < 0), .sl 1 (ns .u32 (digs ((l.div) * m.mod).natAbs))]), (9013, .pin [Nv ((((wordZ m Z i) ++ ([iterZ m i Z % m.mod])).getD j 0).toNat), .clo 84 [.ref 204 0, .ref 206 0], .ref 204 0, .ref 205 0, .ref 206 0, .clo 84 [.ref 204 0, .ref 206 0], .row 203, Nv (((wordZ m Z i) ++ ([(iterZ m i Z) % m.mod])).length), Nv j, bp (j < (((wordZ m Z i) ++ ([(iterZ m i Z) % m.mod])).length)), .ref 203 j, Nv ((((wordZ m Z i) ++ ([iterZ m i Z % m.mod])).getD j 0).toNat), Nv ((((wordZ m Z i) ++ ([iterZ m i Z % m.mod])).getD j 0).toNat)] us4), (9011, (.pin [.row 203, mapV m, Iv k, .ref 2 0, .ref 3 0, Iv (m.mod ^ (i + 1)), Iv Z, .ref 4 0, .row 203, Iv k, Nv i, (bp (((i : Nat) : Int) < k)), mapV m, intW (iterZ m i Z), .tup [intW (stepZ m (iterZ m i Z)), Iv ((iterZ m i Z) % m.mod)], .tup [intW (stepZ m (iterZ m i Z)), Iv ((iterZ m i Z) % m.mod)], intW (stepZ m (iterZ m i Z)), Iv ((iterZ m i Z) % m.mod), .ref 201 0, Iv ((iterZ m i Z) % m.mod), intW (stepZ m (iterZ m i Z)), .row 50, Iv ((iterZ m i Z) % m.mod), .row 202, .row 203, Iv (m.mod ^ i), .ref 2 0, Iv m.mod, Iv (m.mod ^ (i + 1))] us2)), (203, .row 3 1 (is .i64 ((wordZ m Z i) ++ ([(iterZ m i Z) % m.mod])))), (202, .row 3 1 (is .i64 ([(iterZ m i Z) % m.mod]))), (201, oZ 79 .u32 (stepZ m (iterZ m i Z))), (2, oM 24 m), (3, .var 40 [Nv 0, Nv 0, Sv Ev, Sv Ev, Sv Ev, Sv Ev]), (4, oZ 79 .u32 (stepZ m (iterZ m i Z))), (204, oM 24 m), (205, .var 81 [Fv, Zv, Fv, Zv, Fv, Zv]), (206, .var 81 [Bv (l.mul), Dv (l.mul), Bv (l.add), Dv (l.add), Bv (l.div), Dv (l.div)])] Gd.none f80_ rfl rfl rfl rfl rfl rfl ?_
         refine aops_end ⟨by kernel_rfl, ?_⟩
         refine hK40 _ ?_
         refine awp_wk (σ' := ⟨[(4, .ref 401 0)], [(9013, .pin [Nv ((((wordZ m Z i) ++ ([iterZ m i Z % m.mod])).getD j 0).toNat), .clo 84 [.ref 204 0, .ref 206 0], .ref 204 0, .ref 205 0, .ref 206 0, .clo 84 [.ref 204 0, .ref 206 0], .row 203, Nv (((wordZ m Z i) ++ ([(iterZ m i Z) % m.mod])).length), Nv j, bp (j < (((wordZ m Z i) ++ ([(iterZ m i Z) % m.mod])).length)), .ref 203 j, Nv ((((wordZ m Z i) ++ ([iterZ m i Z % m.mod])).getD j 0).toNat), Nv ((((wordZ m Z i) ++ ([iterZ m i Z % m.mod])).getD j 0).toNat)] us4), (9011, (.pin [.row 203, mapV m, Iv k, .ref 2 0, .ref 3 0, Iv (m.mod ^ (i + 1)), Iv Z, .ref 4 0, .row 203, Iv k, Nv i, (bp (((i : Nat) : Int) < k)), mapV m, intW (iterZ m i Z), .tup [intW (stepZ m (iterZ m i Z)), Iv ((iterZ m i Z) % m.mod)], .tup [intW (stepZ m (iterZ m i Z)), Iv ((iterZ m i Z) % m.mod)], intW (stepZ m (iterZ m i Z)), Iv ((iterZ m i Z) % m.mod), .ref 201 0, Iv ((iterZ m i Z) % m.mod), intW (stepZ m (iterZ m i Z)), .row 50, Iv ((iterZ m i Z) % m.mod), .row 202, .row 203, Iv (m.mod ^ i), .ref 2 0, Iv m.mod, Iv (m.mod ^ (i + 1))] us2)), (203, .row 3 1 (is .i64 ((wordZ m Z i) ++ ([(iterZ m i Z) % m.mod])))), (202, .row 3 1 (is .i64 ([(iterZ m i Z) % m.mod]))), (201, oZ 79 .u32 (stepZ m (iterZ m i Z))), (2, oM 24 m), (3, .var 40 [Nv 0, Nv 0, Sv Ev, Sv Ev, Sv Ev, Sv Ev]), (4, oZ 79 .u32 (stepZ m (iterZ m i Z))), (204, oM 24 m), (205, .var 81 [Fv, Zv, Fv, Zv, Fv, Zv]), (206, .var 81 [Bv (l.mul), Dv (l.mul), Bv (l.add), Dv (l.add), Bv (l.div), Dv (l.div)]), (401, .var 81 [bp (((l.mul) * (m.mul).getD ((((wordZ m Z i) ++ ([iterZ m i Z % m.mod])).getD j 0).toNat) 0) < 0), .sl 1 (ns .u32 (digs ((l.mul) * (m.mul).getD ((((wordZ m Z i) ++ ([iterZ m i Z % m.mod])).getD j 0).toNat) 0).natAbs)), bp ((((l.add) * (m.mul).getD ((((wordZ m Z i) ++ ([iterZ m i Z % m.mod])).getD j 0).toNat) 0) + ((l.div) * (m.add).getD ((((wordZ m Z i) ++ ([iterZ m i Z % m.mod])).getD j 0).toNat) 0)) < 0), .sl 1 (ns .u32 (digs (((l.add) * (m.mul).getD ((((wordZ m Z i) ++ ([iterZ m i Z % m.mod])).getD j 0).toNat) 0) + ((l.div) * (m.add).getD ((((wordZ m Z i) ++ ([iterZ m i Z % m.mod])).getD j 0).toNat) 0)).natAbs)), bp (((l.div) * m.mod) < 0), .sl 1 (ns .u32 (digs ((l.div) * m.mod).natAbs))])]⟩) (Wk.sub ⟨rfl, trivial⟩ ⟨rfl, rfl, rfl, rfl, rfl, rfl, rfl, rfl, rfl, rfl, rfl, rfl, trivial⟩) ?_
         refine awp_ret ?_
         try dsimp only [thenK, inBlk]
         refine postS_ret (extra := [(401, .var 81 [bp (((l.mul) * (m.mul).getD ((((wordZ m Z i) ++ ([iterZ m i Z % m.mod])).getD j 0).toNat) 0) < 0), .sl 1 (ns .u32 (digs ((l.mul) * (m.mul).getD ((((wordZ m Z i) ++ ([iterZ m i Z % m.mod])).getD j 0).toNat) 0).natAbs)), bp ((((l.add) * (m.mul).getD ((((wordZ m Z i) ++ ([iterZ m i Z % m.mod])).getD j 0).toNat) 0) + ((l.div) * (m.add).getD ((((wordZ m Z i) ++ ([iterZ m i Z % m.mod])).getD j 0).toNat) 0)) < 0), .sl 1 (ns .u32 (digs (((l.add) * (m.mul).getD ((((wordZ m Z i) ++ ([iterZ m i Z % m.mod])).getD j 0).toNat) 0) + ((l.div) * (m.add).getD ((((wordZ m Z i) ++ ([iterZ m i Z % m.mod])).getD j 0).toNat) 0)).natAbs)), bp (((l.div) * m.mod) < 0), .sl 1 (ns .u32 (digs ((l.div) * m.mod).natAbs))])]) ?_ rfl
         refine ⟨[.agg [bp (((l.mul) * (m.mul).getD ((((wordZ m Z i) ++ ([iterZ m i Z % m.mod])).getD j 0).toNat) 0) < 0), .sl 1 (ns .u32 (digs ((l.mul) * (m.mul).getD ((((wordZ m Z i) ++ ([iterZ m i Z % m.mod])).getD j 0).toNat) 0).natAbs)), bp ((((l.add) * (m.mul).getD ((((wordZ m Z i) ++ ([iterZ m i Z % m.mod])).getD j 0).toNat) 0) + ((l.div) * (m.add).getD ((((wordZ m Z i) ++ ([iterZ m i Z % m.mod])).getD j 0).toNat) 0)) < 0), .sl 1 (ns .u32 (digs (((l.add) * (m.mul).getD ((((wordZ m Z i) ++ ([iterZ m i Z % m.mod])).getD j 0).toNat) 0) + ((l.div) * (m.add).getD ((((wordZ m Z i) ++ ([iterZ m i Z % m.mod])).getD j 0).toNat) 0)).natAbs)), bp (((l.div) * m.mod) < 0), .sl 1 (ns .u32 (digs ((l.div) * m.mod).natAbs))]], ⟨⟨401, .var 81 [bp (((l.mul) * (m.mul).getD ((((wordZ m Z i) ++ ([iterZ m i Z % m.mod])).getD j 0).toNat) 0) < 0), .sl 1 (ns .u32 (digs ((l.mul) * (m.mul).getD ((((wordZ m Z i) ++ ([iterZ m i Z % m.mod])).getD j 0).toNat) 0).natAbs)), bp ((((l.add) * (m.mul).getD ((((wordZ m Z i) ++ ([iterZ m i Z % m.mod])).getD j 0).toNat) 0) + ((l.div) * (m.add).getD ((((wordZ m Z i) ++ ([iterZ m i Z % m.mod])).getD j 0).toNat) 0)) < 0), .sl 1 (ns .u32 (digs (((l.add) * (m.mul).getD ((((wordZ m Z i) ++ ([iterZ m i Z % m.mod])).getD j 0).toNat) 0) + ((l.div) * (m.add).getD ((((wordZ m Z i) ++ ([iterZ m i Z % m.mod])).getD j 0).toNat) 0)).natAbs)), bp (((l.div) * m.mod) < 0), .sl 1 (ns .u32 (digs ((l.div) * m.mod).natAbs))], rfl, rfl, rfl, Or.inl ⟨f85_, AV.le_refl _⟩⟩, trivial⟩, ?_⟩
         exact linK_eq (Int.mul_comm _ _) (congr (congrArg HAdd.hAdd (Int.mul_comm _ _)) (Int.mul_comm _ _)) rfl
        refine o_store [(9011, (.pin [.row 203, mapV m, Iv k, .ref 2 0, .ref 3 0, Iv (m.mod ^ (i + 1)), Iv Z, .ref 4 0, .row 203, Iv k, Nv i, (bp (((i : Nat) : Int) < k)), mapV m, intW (iterZ m i Z), .tup [intW (stepZ m (iterZ m i Z)), Iv ((iterZ m i Z) % m.mod)], .tup [intW (stepZ m (iterZ m i Z)), Iv ((iterZ m i Z) % m.mod)], intW (stepZ m (iterZ m i Z)), Iv ((iterZ m i Z) % m.mod), .ref 201 0, Iv ((iterZ m i Z) % m.mod), intW (stepZ m (iterZ m i Z)), .row 50, Iv ((iterZ m i Z) % m.mod), .row 202, .row 203, Iv (m.mod ^ i), .ref 2 0, Iv m.mod, Iv (m.mod ^ (i + 1))] us2)), (203, .row 3 1 (is .i64 ((wordZ m Z i) ++ ([(iterZ m i Z) % m.mod])))), (202, .row 3 1 (is .i64 ([(iterZ m i Z) % m.mod]))), (201, oZ 79 .u32 (stepZ m (iterZ m i Z))), (2, oM 24 m), (3, .var 40 [Nv 0, Nv 0, Sv Ev, Sv Ev, Sv Ev, Sv Ev]), (4, oZ 79 .u32 (stepZ m (iterZ m i Z))), (204, oM 24 m), (205, .var 81 [Fv, Zv, Fv, Zv, Fv, Zv]), (206, .var 81 [Bv ((thenZ m l (((wordZ m Z i) ++ ([iterZ m i Z % m.mod])).getD j 0)).mul), Dv ((thenZ m l (((wordZ m Z i) ++ ([iterZ m i Z % m.mod])).getD j 0)).mul), Bv ((thenZ m l (((wordZ m Z i) ++ ([iterZ m i Z % m.mod])).getD j 0)).add), Dv ((thenZ m l (((wordZ m Z i) ++ ([iterZ m i Z % m.mod])).getD j 0)).add), Bv ((thenZ m l (((wordZ m Z i) ++ ([iterZ m i Z % m.mod])).getD j 0)).div), Dv ((thenZ m l (((wordZ m Z i) ++ ([iterZ m i Z % m.mod])).getD j 0)).div)])] Gd.none f80_ rfl rfl rfl rfl rfl rfl ?_
        refine aops_end (hK36 _ (awp_region rfl ?_))
        refine n_add j 1 Gd.none rfl rfl (by simp only [topOf]; omega) ?_
        refine o_mv (Nv (j + 1)) rfl (aops_end ?_)
        refine ⟨_, _, ?lt, ⟨j + 1, thenZ m l (((wordZ m Z i) ++ ([(iterZ m i Z) % m.mod])).getD j 0), (by omega), (by rw [hl2]; exact lineZ_next (by assumption)), rfl, rfl⟩, ?wk⟩
        case lt => omega
        case wk => exact Wk.sub ⟨rfl, rfl, rfl, rfl, rfl, rfl, (by rfl), trivial⟩ ⟨rfl, rfl, rfl, rfl, rfl, rfl, rfl, rfl, rfl, rfl, trivial⟩
       ·refine awp_exit ?_
        refine hK32 _ (awp_seq fun K41 hK41 => awp_region rfl ?_)
        refine o_loadA [Bv (l.mul), Dv (l.mul), Bv (l.add), Dv (l.add), Bv (l.div), Dv (l.div)] Gd.none f85_ rfl rfl rfl rfl rfl ?_
        refine o_store [(9011, (.pin [.row 203, mapV m, Iv k, .ref 2 0, .ref 3 0, Iv (m.mod ^ (i + 1)), Iv Z, .ref 4 0, .row 203, Iv k, Nv i, (bp (((i : Nat) : Int) < k)), mapV m, intW (iterZ m i Z), .tup [intW (stepZ m (iterZ m i Z)), Iv ((iterZ m i Z) % m.mod)], .tup [intW (stepZ m (iterZ m i Z)), Iv ((iterZ m i Z) % m.mod)], intW (stepZ m (iterZ m i Z)), Iv ((iterZ m i Z) % m.mod), .ref 201 0, Iv ((iterZ m i Z) % m.mod), intW (stepZ m (iterZ m i Z)), .row 50, Iv ((iterZ m i Z) % m.mod), .row 202, .row 203, Iv (m.mod ^ i), .ref 2 0, Iv m.mod, Iv (m.mod ^ (i + 1))] us2)), (203, .row 3 1 (is .i64 ((wordZ m Z i) ++ ([(iterZ m i Z) % m.mod])))), (202, .row 3 1 (is .i64 ([(iterZ m i Z) % m.mod]))), (201, oZ 79 .u32 (stepZ m (iterZ m i Z))), (2, oM 24 m), (3, .var 40 [Nv 0, Nv 0, Sv Ev, Sv Ev, Sv Ev, Sv Ev]), (4, oZ 79 .u32 (stepZ m (iterZ m i Z))), (204, oM 24 m), (205, .var 81 [Bv (l.mul), Dv (l.mul), Bv (l.add), Dv (l.add), Bv (l.div), Dv (l.div)]), (206, .var 81 [Bv (l.mul), Dv (l.mul), Bv (l.add), Dv (l.add), Bv (l.div), Dv (l.div)])] Gd.none f80_ rfl rfl rfl rfl rfl rfl ?_
        refine aops_end (hK41 _ ?_)
        refine awp_wk (σ' := ⟨[(4, .ref 205 0)], [(9011, (.pin [.row 203, mapV m, Iv k, .ref 2 0, .ref 3 0, Iv (m.mod ^ (i + 1)), Iv Z, .ref 4 0, .row 203, Iv k, Nv i, (bp (((i : Nat) : Int) < k)), mapV m, intW (iterZ m i Z), .tup [intW (stepZ m (iterZ m i Z)), Iv ((iterZ m i Z) % m.mod)], .tup [intW (stepZ m (iterZ m i Z)), Iv ((iterZ m i Z) % m.mod)], intW (stepZ m (iterZ m i Z)), Iv ((iterZ m i Z) % m.mod), .ref 201 0, Iv ((iterZ m i Z) % m.mod), intW (stepZ m (iterZ m i Z)), .row 50, Iv ((iterZ m i Z) % m.mod), .row 202, .row 203, Iv (m.mod ^ i), .ref 2 0, Iv m.mod, Iv (m.mod ^ (i + 1))] us2)), (203, .row 3 1 (is .i64 ((wordZ m Z i) ++ ([(iterZ m i Z) % m.mod])))), (202, .row 3 1 (is .i64 ([(iterZ m i Z) % m.mod]))), (201, oZ 79 .u32 (stepZ m (iterZ m i Z))), (2, oM 24 m), (3, .var 40 [Nv 0, Nv 0, Sv Ev, Sv Ev, Sv Ev, Sv Ev]), (4, oZ 79 .u32 (stepZ m (iterZ m i Z))), (205, .var 81 [Bv (l.mul), Dv (l.mul), Bv (l.add), Dv (l.add), Bv (l.div), Dv (l.div)])]⟩) (Wk.sub ⟨rfl, trivial⟩ ⟨rfl, rfl, rfl, rfl, rfl, rfl, rfl, rfl, trivial⟩) ?_
        refine awp_ret ?_
        try dsimp only [thenK, inBlk]
        refine postS_ret (extra := [(205, .var 81 [Bv (l.mul), Dv (l.mul), Bv (l.add), Dv (l.add), Bv (l.div), Dv (l.div)])]) ?_ rfl
        refine ⟨[.agg [Bv (l.mul), Dv (l.mul), Bv (l.add), Dv (l.add), Bv (l.div), Dv (l.div)]], ⟨⟨205, .var 81 [Bv (l.mul), Dv (l.mul), Bv (l.add), Dv (l.add), Bv (l.div), Dv (l.div)], rfl, rfl, rfl, Or.inl ⟨f85_, AV.le_refl _⟩⟩, trivial⟩, ?_⟩
        have e9 : j = ((wordZ m Z i) ++ ([iterZ m i Z % m.mod])).length := (by omega); exact congrArg linW (by rw [hl2, e9, List.take_length]; rfl)
      refine o_alloc 204 [Fv, Zv, Fv, Zv, Fv, Zv] Gd.none f78_ rfl rfl rfl ?_
      refine o_store [(204, .var 81 [Bv ((lineZ m (wordZ m Z (i + 1))).mul), Dv ((lineZ m (wordZ m Z (i + 1))).mul), Bv ((lineZ m (wordZ m Z (i + 1))).add), Dv ((lineZ m (wordZ m Z (i + 1))).add), Bv ((lineZ m (wordZ m Z (i + 1))).div), Dv ((lineZ m (wordZ m Z (i + 1))).div)]), (203, .row 3 1 (is .i64 ((wordZ m Z i) ++ ([(iterZ m i Z) % m.mod])))), (202, .row 3 1 (is .i64 ([(iterZ m i Z) % m.mod]))), (201, oZ 79 .u32 (stepZ m (iterZ m i Z))), (2, oM 24 m), (3, .var 40 [Nv 0, Nv 0, Sv Ev, Sv Ev, Sv Ev, Sv Ev]), (4, oZ 79 .u32 (stepZ m (iterZ m i Z)))] Gd.none f80_ rfl rfl rfl rfl rfl rfl ?_
      refine aops_end (hK28 _ (awp_seq fun K42 hK42 => awp_region rfl ?_))
      refine o_fieldRef 0 Gd.none f82_ rfl rfl ?_
      refine o_loadA [Bv ((lineZ m (wordZ m Z (i + 1))).mul), Dv ((lineZ m (wordZ m Z (i + 1))).mul)] Gd.none f20_ rfl rfl rfl rfl rfl ?_
      refine o_fieldRef 4 Gd.none f84_ rfl rfl ?_
      refine o_loadA [Bv ((lineZ m (wordZ m Z (i + 1))).div), Dv ((lineZ m (wordZ m Z (i + 1))).div)] Gd.none f20_ rfl rfl rfl rfl rfl ?_
      refine o_ct (c_wCmp ((lineZ m (wordZ m Z (i + 1))).mul) ((lineZ m (wordZ m Z (i + 1))).div)) Gd.none f142_ rfl ?_
      refine o_lss (a := (cmpZ ((lineZ m (wordZ m Z (i + 1))).mul) ((lineZ m (wordZ m Z (i + 1))).div))) (c := ((0 : Nat) : Int)) Gd.none rfl rfl ?_
      refine aops_end (hK42 _ ?_)
      refine awp_condQ (q := (cmpZ ((lineZ m (wordZ m Z (i + 1))).mul) ((lineZ m (wordZ m Z (i + 1))).div)) < ((0 : Nat) : Int)) rfl (fun h7 => ?_) (fun h7 => ?_)
      ·refine awp_seq fun K43 hK43 => ?_
       have hfw : fallsW m (wordZ m Z (i + 1)) := lcmp.1 (by assumption)
       have hdm : 0 < (lineZ m (wordZ m Z (i + 1))).div - (lineZ m (wordZ m Z (i + 1))).mul := by unfold fallsW at hfw; omega
       have hfy := fnd_yes h0 hfw (k := k.toNat) (by omega)
       refine awp_regionD rfl (o_mv (.row 203) rfl ?_)
       refine o_lenRow (((wordZ m Z i) ++ ([(iterZ m i Z) % m.mod])).length) Gd.none f2_ rfl rfl (by simp [is]) ?_
       refine n_as (v' := (Nv (i + 1))) (by exact congrArg (nm _) (by rw [List.length_append, wordZ_len]; rfl)) ?_
       refine o_mv (Iv Z) rfl (o_mv (Iv (m.mod ^ (i + 1))) rfl ?_)
       refine o_remT (a := Z) (c := (m.mod ^ (i + 1))) Gd.none rfl rfl (by omega) ?_
       refine n_as (v' := (Iv (Z % m.mod ^ (i + 1)))) (by exact congrArg (fun z => AV.lit (.int .i64 z)) (Int.tmod_eq_emod_of_nonneg hZ0)) ?_
       refine o_loadA [Bv ((lineZ m (wordZ m Z (i + 1))).mul), Dv ((lineZ m (wordZ m Z (i + 1))).mul), Bv ((lineZ m (wordZ m Z (i + 1))).add), Dv ((lineZ m (wordZ m Z (i + 1))).add), Bv ((lineZ m (wordZ m Z (i + 1))).div), Dv ((lineZ m (wordZ m Z (i + 1))).div)] Gd.none f85_ rfl rfl rfl rfl rfl ?_
       refine o_ct (c_sfall ((i + 1 : Nat) : Int) (Z % m.mod ^ (i + 1)) (lineZ m (wordZ m Z (i + 1))) (by omega) (by omega) (by omega) (by omega)) Gd.none f144_ rfl ?_
       refine o_store [(204, .var 81 [Bv ((lineZ m (wordZ m Z (i + 1))).mul), Dv ((lineZ m (wordZ m Z (i + 1))).mul), Bv ((lineZ m (wordZ m Z (i + 1))).add), Dv ((lineZ m (wordZ m Z (i + 1))).add), Bv ((lineZ m (wordZ m Z (i + 1))).div), Dv ((lineZ m (wordZ m Z (i + 1))).div)]), (203, .row 3 1 (is .i64 ((wordZ m Z i) ++ ([(iterZ m i Z) % m.mod])))), (202, .row 3 1 (is .i64 ([(iterZ m i Z) % m.mod]))), (201, oZ 79 .u32 (stepZ m (iterZ m i Z))), (2, oM 24 m), (3, (.var 40 [(Iv ((falO ((i + 1 : Nat) : Int) (Z % m.mod ^ (i + 1)) (lineZ m (wordZ m Z (i + 1)))).steps)), (Iv ((falO ((i + 1 : Nat) : Int) (Z % m.mod ^ (i + 1)) (lineZ m (wordZ m Z (i + 1)))).rest)), (Sv ((falO ((i + 1 : Nat) : Int) (Z % m.mod ^ (i + 1)) (lineZ m (wordZ m Z (i + 1)))).lmul)), (Sv ((falO ((i + 1 : Nat) : Int) (Z % m.mod ^ (i + 1)) (lineZ m (wordZ m Z (i + 1)))).ladd)), (Sv ((falO ((i + 1 : Nat) : Int) (Z % m.mod ^ (i + 1)) (lineZ m (wordZ m Z (i + 1)))).ldiv)), (Sv ((falO ((i + 1 : Nat) : Int) (Z % m.mod ^ (i + 1)) (lineZ m (wordZ m Z (i + 1)))).bound))])), (4, oZ 79 .u32 (stepZ m (iterZ m i Z)))] Gd.none f108_ rfl rfl rfl rfl rfl rfl ?_
       refine o_as Tv rfl ?_
       refine o_as (Nv 0) rfl ?_
       refine aops_end ⟨by kernel_rfl, ?_⟩
       refine hK43 _ ?_
       refine awp_ret ?_
       refine post_ret ⟨[(.agg [(Iv ((falO ((i + 1 : Nat) : Int) (Z % m.mod ^ (i + 1)) (lineZ m (wordZ m Z (i + 1)))).steps)), (Iv ((falO ((i + 1 : Nat) : Int) (Z % m.mod ^ (i + 1)) (lineZ m (wordZ m Z (i + 1)))).rest)), (Sv ((falO ((i + 1 : Nat) : Int) (Z % m.mod ^ (i + 1)) (lineZ m (wordZ m Z (i + 1)))).lmul)), (Sv ((falO ((i + 1 : Nat) : Int) (Z % m.mod ^ (i + 1)) (lineZ m (wordZ m Z (i + 1)))).ladd)), (Sv ((falO ((i + 1 : Nat) : Int) (Z % m.mod ^ (i + 1)) (lineZ m (wordZ m Z (i + 1)))).ldiv)), (Sv ((falO ((i + 1 : Nat) : Int) (Z % m.mod ^ (i + 1)) (lineZ m (wordZ m Z (i + 1)))).bound))]), Tv, Nv 0], ⟨⟨3, (.var 40 [(Iv ((falO ((i + 1 : Nat) : Int) (Z % m.mod ^ (i + 1)) (lineZ m (wordZ m Z (i + 1)))).steps)), (Iv ((falO ((i + 1 : Nat) : Int) (Z % m.mod ^ (i + 1)) (lineZ m (wordZ m Z (i + 1)))).rest)), (Sv ((falO ((i + 1 : Nat) : Int) (Z % m.mod ^ (i + 1)) (lineZ m (wordZ m Z (i + 1)))).lmul)), (Sv ((falO ((i + 1 : Nat) : Int) (Z % m.mod ^ (i + 1)) (lineZ m (wordZ m Z (i + 1)))).ladd)), (Sv ((falO ((i + 1 : Nat) : Int) (Z % m.mod ^ (i + 1)) (lineZ m (wordZ m Z (i + 1)))).ldiv)), (Sv ((falO ((i + 1 : Nat) : Int) (Z % m.mod ^ (i + 1)) (lineZ m (wordZ m Z (i + 1)))).bound))]), rfl, rfl, rfl, Or.inl ⟨f109_, AV.le_refl _⟩⟩, AV.le_refl _, AV.le_refl _, trivial⟩, rfl, ?_⟩
       (have e := fd_0 (m := m) (a := a) (k := k) ⟨hm', ha'⟩ hy; rw [e.1, e.2.1, ← hfm.1, hfy.1, bpy (e.2.2.2 (hfm.2.1 hfy.2))]; rfl)
      ·refine awp_skip (hK23 _ (awp_region rfl ?_))
       refine n_add i 1 Gd.none rfl rfl (by simp only [topOf]; omega) ?_
       refine o_mv (Nv (i + 1)) rfl (aops_end ?_)
       refine ⟨_, _, ?lt, ⟨i + 1, (by omega), (ffal_next h0 (fun e => absurd (lcmp.2 e) (by assumption))), (show (digs (stepZ m (iterZ m i Z)).natAbs).length ≤ 1 + 4 * (i + 1) by omega), rfl, rfl⟩, ?wk⟩
       case lt => omega
       case wk => exact Wk.trans (Wk.sub (σ' := ⟨[(2, Iv k), (3, .ref 2 0), (6, .ref 3 0), (10, Iv (m.mod ^ (i + 1))), (12, Iv Z), (13, .ref 4 0), (14, .row 203), (51, Iv k), (52, Nv (i + 1))], [(2, oM 24 m), (3, .var 40 [Nv 0, Nv 0, Sv Ev, Sv Ev, Sv Ev, Sv Ev]), (4, oZ 79 .u32 (stepZ m (iterZ m i Z))), (203, .row 3 1 (is .i64 ((wordZ m Z i) ++ ([(iterZ m i Z) % m.mod]))))]⟩) ⟨rfl, rfl, rfl, rfl, rfl, rfl, rfl, rfl, rfl, trivial⟩ ⟨rfl, rfl, rfl, rfl, trivial⟩) (Wk.trans (Wk.ren (id := 203) (id' := 50) rfl) (Wk.sub ⟨rfl, rfl, rfl, (by rfl), rfl, rfl, (by rfl), rfl, (by rfl), trivial⟩ ⟨rfl, rfl, rfl, (by rfl), trivial⟩))
     ·refine awp_exit ?_
      refine hK19 _ (awp_seq fun K44 hK44 => awp_region rfl ?_)
      refine o_build [Nv 0, Nv 0, Sv Ev, Sv Ev, Sv Ev, Sv Ev] [] Gd.none f107_ f104_ rfl rfl rfl ?_
      refine n_as (v' := (falV zFal)) (by exact rfl) ?_
      refine o_store [(2, oM 24 m), (3, .var 40 [Iv (zFal.steps), Iv (zFal.rest), Sv (zFal.lmul), Sv (zFal.ladd), Sv (zFal.ldiv), Sv (zFal.bound)]), (4, oZ 79 .u32 (iterZ m i Z)), (50, .row 3 1 (is .i64 (wordZ m Z i)))] Gd.none f108_ rfl rfl rfl rfl rfl rfl ?_
      refine o_as Fv rfl ?_
      refine o_as (Nv 0) rfl ?_
      refine aops_end (hK44 _ ?_)
      refine awp_ret ?_
      refine post_ret ⟨[.agg [Iv (zFal.steps), Iv (zFal.rest), Sv (zFal.lmul), Sv (zFal.ladd), Sv (zFal.ldiv), Sv (zFal.bound)], Fv, Nv 0], ⟨⟨3, .var 40 [Iv (zFal.steps), Iv (zFal.rest), Sv (zFal.lmul), Sv (zFal.ladd), Sv (zFal.ldiv), Sv (zFal.bound)], rfl, rfl, rfl, Or.inl ⟨f109_, AV.le_refl _⟩⟩, AV.le_refl _, AV.le_refl _, trivial⟩, rfl, ?_⟩
      (have e := fd_0 (m := m) (a := a) (k := k) ⟨hm', ha'⟩ hy; have e2 := fnd_no (m := m) (z := Z) (k := k.toNat) (by rw [show k.toNat = i by omega]; exact h0); rw [e.1, e.2.1, ← hfm.1, e2.1, bpn (fun q => e2.2 (hfm.2.2 (e.2.2.1 q)))]; rfl)

end Go.Proofs.YtjbaamfahkjhgaaGreatDoor

namespace Go.Proofs.YtjbaamfahkjhgaaGreatDoor
open Go Go.Ab Go.Mth
theorem f163_ : callable cx.P 61 = true := by kernel_rfl
theorem f164_ : callable cx.P 10 = true := by kernel_rfl
theorem f165_ : callable cx.P 17 = true := by kernel_rfl
theorem f166_ : tyField cx.P 40 3 = some (5, 9) := by kernel_rfl
theorem f167_ : tySc cx.P 9 = true := by kernel_rfl
theorem c_awake4  : ECalls cx 13 [] (.lit (.bool true)) := by
 refine ecalls_of_awp Tryz.func13 (c := _) rfl (Nat.le_of_ble_eq_true rfl) ?_
 show awp cx 68 _ (postF cx Tryz.f13 _) ⟨[], []⟩
 refine awp_seq fun K0 hK0 => awp_region rfl ?_
 refine o_as Fv rfl ?_
 refine aops_end (hK0 _ (awp_seq fun K1 hK1 => awp_region rfl ?_))
 refine o_ct c_gCollatz Gd.none f163_ rfl ?_
 refine o_alloc 2 [Nv 0, Zv, Zv] Gd.none f68_ rfl rfl rfl ?_
 refine o_store [(2, oM 24 (kinM 3 1))] Gd.none f70_ rfl rfl rfl rfl rfl rfl ?_
 refine aops_end (hK1 _ (awp_seq fun K2 hK2 => awp_region rfl ?_))
 refine o_loadA [Iv ((kinM 3 1).mod), Lv ((kinM 3 1).mul), Lv ((kinM 3 1).add)] Gd.none f64_ rfl rfl rfl rfl rfl ?_
 refine o_call [mapV (kinM 3 1), Nv 3] (.tup [.sl 6 (gcells cL ([ex1, ex2])), Lv ([3, 7]), Nv 0]) Gd.none f164_ rfl (by have h := c_sSieveL (kinM 3 1) 3 okM_col may_col3; rw [ex_F, ex_L] at h; exact h) ?_
 refine o_mv (.tup [.sl 6 (gcells cL ([ex1, ex2])), Lv ([3, 7]), Nv 0]) rfl ?_
 refine o_extract (.sl 6 (gcells cL ([ex1, ex2]))) Gd.none rfl rfl ?_
 refine o_extract (Lv ([3, 7])) Gd.none rfl rfl ?_
 refine o_extract (Nv 0) Gd.none rfl rfl ?_
 refine o_as (.sl 6 (gcells cL ([ex1, ex2]))) rfl ?_
 refine o_as (Lv ([3, 7])) rfl ?_
 refine o_as (Nv 0) rfl ?_
 refine aops_end (hK2 _ (awp_seq fun K3 hK3 => awp_region rfl ?_))
 refine o_loadA [Iv ((kinM 3 1).mod), Lv ((kinM 3 1).mul), Lv ((kinM 3 1).add)] Gd.none f64_ rfl rfl rfl rfl rfl ?_
 refine o_call [mapV (kinM 3 1), (Sv ({data := #[49, 48, 48, 48, 48, 48, 48, 48, 48, 48, 48, 48, 48, 48, 48, 48, 48, 48, 48, 48, 48, 48, 48, 48, 51]} : ByteArray)), Nv 4] (.tup [falV ex3, Tv, Nv 0]) Gd.none f165_ rfl (by have h := c_sFind (kinM 3 1) exN 4 (by decide) (by decide); rw [ex_fd.1, ex_fd.2.1, bpy ex_fd.2.2] at h; exact h) ?_
 refine o_mv (.tup [falV ex3, Tv, Nv 0]) rfl ?_
 refine o_extract (falV ex3) Gd.none rfl rfl ?_
 refine o_extract Tv Gd.none rfl rfl ?_
 refine o_extract (Nv 0) Gd.none rfl rfl ?_
 refine o_alloc 3 [Nv 0, Nv 0, Sv Ev, Sv Ev, Sv Ev, Sv Ev] Gd.none f104_ rfl rfl rfl ?_
 refine o_store [(3, .var 40 [Iv (ex3.steps), Iv (ex3.rest), Sv (ex3.lmul), Sv (ex3.ladd), Sv (ex3.ldiv), Sv (ex3.bound)]), (2, oM 24 (kinM 3 1))] Gd.none f108_ rfl rfl rfl rfl rfl rfl ?_
 refine o_as Tv rfl ?_
 refine o_as (Nv 0) rfl ?_
 refine aops_end (hK3 _ (awp_seq fun K4 hK4 => awp_region rfl (o_mv (Nv 0) rfl ?_)))
 refine n_eql 0 0 Gd.none rfl rfl ?_
 refine n_as (v' := Tv) (by exact bpy (by rfl)) ?_
 refine o_mv Tv rfl ?_
 refine o_move (.sl 6 (gcells cL ([ex1, ex2]))) (Gd.yes rfl rfl rfl) rfl ?_
 refine g_len cL ([ex1, ex2]) cL_len (Gd.yes rfl rfl rfl) f135_ rfl ?_
 refine n_eql (([ex1, ex2]).length) 2 (Gd.yes rfl rfl rfl) rfl rfl ?_
 refine n_as (v' := Tv) (by exact bpy (by rfl)) ?_
 refine o_pickT Tv Gd.none rfl rfl rfl ?_
 refine o_mv Tv rfl ?_
 refine o_move (.sl 6 (gcells cL ([ex1, ex2]))) (Gd.yes rfl rfl rfl) rfl ?_
 refine g_index cL ([ex1, ex2]) 0 cL_len rfl (Gd.yes rfl rfl rfl) f118_ rfl rfl (by decide) ?_
 refine g_field cL ([ex1, ex2]) 0 cL_len (Gd.yes rfl rfl rfl) f133_ rfl (by decide) rfl ?_
 refine g_loadS cL ([ex1, ex2]) 0 default (Iv ((([ex1, ex2]).getD 0 default).steps)) cL_len (Gd.yes rfl rfl rfl) f11_ rfl (by decide) rfl ?_
 refine o_eql (a := ((([ex1, ex2]).getD 0 default).steps)) (c := ((1 : Nat) : Int)) (Gd.yes rfl rfl rfl) rfl rfl ?_
 refine n_as (v' := Tv) (by exact bpy (by rfl)) ?_
 refine o_pickT Tv Gd.none rfl rfl rfl ?_
 refine o_mv Tv rfl ?_
 refine o_move (.sl 6 (gcells cL ([ex1, ex2]))) (Gd.yes rfl rfl rfl) rfl ?_
 refine g_index cL ([ex1, ex2]) 0 cL_len rfl (Gd.yes rfl rfl rfl) f118_ rfl rfl (by decide) ?_
 refine g_field cL ([ex1, ex2]) 0 cL_len (Gd.yes rfl rfl rfl) f166_ rfl (by decide) rfl ?_
 refine g_loadS cL ([ex1, ex2]) 0 default (Sv ((([ex1, ex2]).getD 0 default).bound)) cL_len (Gd.yes rfl rfl rfl) f167_ rfl (by decide) rfl ?_
 refine o_eqlS (a := ((([ex1, ex2]).getD 0 default).bound)) (c := ({data := #[48]} : ByteArray)) (Gd.yes rfl rfl rfl) rfl rfl ?_
 refine n_as (v' := Tv) (by exact bpy (by rfl)) ?_
 refine o_pickT Tv Gd.none rfl rfl rfl ?_
 refine o_mv Tv rfl ?_
 refine o_move (.sl 6 (gcells cL ([ex1, ex2]))) (Gd.yes rfl rfl rfl) rfl ?_
 refine g_index cL ([ex1, ex2]) 1 cL_len rfl (Gd.yes rfl rfl rfl) f118_ rfl rfl (by decide) ?_
 refine g_loadA cL ([ex1, ex2]) 1 default cL_len (Gd.yes rfl rfl rfl) f109_ rfl (by decide) ?_
 refine o_build [(Sv ({data := #[51]} : ByteArray)), (Sv ({data := #[49]} : ByteArray)), (Sv ({data := #[52]} : ByteArray))] [(0, [(Sv ({data := #[51]} : ByteArray))]), (1, [(Sv ({data := #[49]} : ByteArray))]), (2, [(Sv ({data := #[52]} : ByteArray))])] (Gd.yes rfl rfl rfl) f88_ f86_ rfl rfl rfl ?_
 refine o_build [Nv 2, Nv 1, (Sv ({data := #[51]} : ByteArray)), (Sv ({data := #[49]} : ByteArray)), (Sv ({data := #[52]} : ByteArray)), (Sv ({data := #[49]} : ByteArray))] [(0, [Nv 2]), (1, [Nv 1]), (2, [(Sv ({data := #[51]} : ByteArray)), (Sv ({data := #[49]} : ByteArray)), (Sv ({data := #[52]} : ByteArray))]), (3, [(Sv ({data := #[49]} : ByteArray))])] (Gd.yes rfl rfl rfl) f107_ f104_ rfl rfl rfl ?_
 refine o_eqlA [.int .i64 ((([ex1, ex2]).getD 1 default).steps), .int .i64 ((([ex1, ex2]).getD 1 default).rest), .string ((([ex1, ex2]).getD 1 default).lmul), .string ((([ex1, ex2]).getD 1 default).ladd), .string ((([ex1, ex2]).getD 1 default).ldiv), .string ((([ex1, ex2]).getD 1 default).bound)] [.int .i64 ((2 : Nat) : Int), .int .i64 ((1 : Nat) : Int), .string ({data := #[51]} : ByteArray), .string ({data := #[49]} : ByteArray), .string ({data := #[52]} : ByteArray), .string ({data := #[49]} : ByteArray)] (((([ex1, ex2]).getD 1 default).steps) = ((2 : Nat) : Int) ∧ ((([ex1, ex2]).getD 1 default).rest) = ((1 : Nat) : Int) ∧ ((([ex1, ex2]).getD 1 default).lmul) = ({data := #[51]} : ByteArray) ∧ ((([ex1, ex2]).getD 1 default).ladd) = ({data := #[49]} : ByteArray) ∧ ((([ex1, ex2]).getD 1 default).ldiv) = ({data := #[52]} : ByteArray) ∧ ((([ex1, ex2]).getD 1 default).bound) = ({data := #[49]} : ByteArray)) (Gd.yes rfl rfl rfl) rfl rfl (eq_api_Fall _ _ _ _ _ _ _ _ _ _ _ _) ?_
 refine n_as (v' := Tv) (by exact bpy (by decide)) ?_
 refine o_pickT Tv Gd.none rfl rfl rfl ?_
 refine o_mv Tv rfl ?_
 refine o_move (Lv ([3, 7])) (Gd.yes rfl rfl rfl) rfl ?_
 refine o_buildSlice 4 (is .i64 ([((3 : Nat) : Int), ((7 : Nat) : Int)])) [(0, [Nv 3]), (1, [Nv 7])] (Gd.yes rfl rfl rfl) f10_ rfl f26_ rfl rfl rfl rfl rfl rfl rfl ?_
 refine o_callG [(4, 1, (is .i64 ([((3 : Nat) : Int), ((7 : Nat) : Int)])))] [Lv ([3, 7]), (Lv ([((3 : Nat) : Int), ((7 : Nat) : Int)]))] _ (bp ([3, 7] = [((3 : Nat) : Int), ((7 : Nat) : Int)])) [(3, .var 40 [Iv (ex3.steps), Iv (ex3.rest), Sv (ex3.lmul), Sv (ex3.ladd), Sv (ex3.ldiv), Sv (ex3.bound)]), (2, oM 24 (kinM 3 1))] (Gd.yes rfl rfl rfl) f67_ rfl ⟨⟨_, rfl⟩, trivial⟩ rfl rfl (LeL.cons (AV.le_refl _) (LeL.cons (AV.le_refl _) LeL.nil)) (c_gAlike ([3, 7]) ([((3 : Nat) : Int), ((7 : Nat) : Int)])) rfl ?_
 refine n_as (v' := Tv) (by exact bpy (by rfl)) ?_
 refine o_pickT Tv Gd.none rfl rfl rfl ?_
 refine o_mv Tv rfl ?_
 refine o_move (Nv 0) (Gd.yes rfl rfl rfl) rfl ?_
 refine n_eql 0 0 (Gd.yes rfl rfl rfl) rfl rfl ?_
 refine n_as (v' := Tv) (by exact bpy (by rfl)) ?_
 refine o_pickT Tv Gd.none rfl rfl rfl ?_
 refine o_mv Tv rfl ?_
 refine o_move Tv (Gd.yes rfl rfl rfl) rfl ?_
 refine o_pickT Tv Gd.none rfl rfl rfl ?_
 refine o_mv Tv rfl ?_
 refine o_loadA [Iv (ex3.steps), Iv (ex3.rest), Sv (ex3.lmul), Sv (ex3.ladd), Sv (ex3.ldiv), Sv (ex3.bound)] (Gd.yes rfl rfl rfl) f109_ rfl rfl rfl rfl rfl ?_
 refine o_build [(Sv ({data := #[57]} : ByteArray)), (Sv ({data := #[53]} : ByteArray)), (Sv ({data := #[49, 54]} : ByteArray))] [(0, [(Sv ({data := #[57]} : ByteArray))]), (1, [(Sv ({data := #[53]} : ByteArray))]), (2, [(Sv ({data := #[49, 54]} : ByteArray))])] (Gd.yes rfl rfl rfl) f88_ f86_ rfl rfl rfl ?_
 refine o_build [Nv 4, Nv 3, (Sv ({data := #[57]} : ByteArray)), (Sv ({data := #[53]} : ByteArray)), (Sv ({data := #[49, 54]} : ByteArray)), (Sv ({data := #[48]} : ByteArray))] [(0, [Nv 4]), (1, [Nv 3]), (2, [(Sv ({data := #[57]} : ByteArray)), (Sv ({data := #[53]} : ByteArray)), (Sv ({data := #[49, 54]} : ByteArray))]), (3, [(Sv ({data := #[48]} : ByteArray))])] (Gd.yes rfl rfl rfl) f107_ f104_ rfl rfl rfl ?_
 refine o_eqlA [.int .i64 (ex3.steps), .int .i64 (ex3.rest), .string (ex3.lmul), .string (ex3.ladd), .string (ex3.ldiv), .string (ex3.bound)] [.int .i64 ((4 : Nat) : Int), .int .i64 ((3 : Nat) : Int), .string ({data := #[57]} : ByteArray), .string ({data := #[53]} : ByteArray), .string ({data := #[49, 54]} : ByteArray), .string ({data := #[48]} : ByteArray)] ((ex3.steps) = ((4 : Nat) : Int) ∧ (ex3.rest) = ((3 : Nat) : Int) ∧ (ex3.lmul) = ({data := #[57]} : ByteArray) ∧ (ex3.ladd) = ({data := #[53]} : ByteArray) ∧ (ex3.ldiv) = ({data := #[49, 54]} : ByteArray) ∧ (ex3.bound) = ({data := #[48]} : ByteArray)) (Gd.yes rfl rfl rfl) rfl rfl (eq_api_Fall _ _ _ _ _ _ _ _ _ _ _ _) ?_
 refine n_as (v' := Tv) (by exact bpy (by decide)) ?_
 refine o_pickT Tv Gd.none rfl rfl rfl ?_
 refine o_as Tv rfl ?_
 refine aops_end (hK4 _ ?_)
 refine awp_ret ?_
 refine post_ret ⟨[Tv], ⟨AV.le_refl _, trivial⟩, rfl, ?_⟩
 rfl

theorem c_sSieveE (m : MapM) (k : Int) (hkb : k ≤ 9223372036854775807) (h : chkE m k ≠ 0) : ECalls cx 10 [mapV m, Iv k] (.tup [.lit (.slice none 0 0), .lit (.slice none 0 0), nm .i64 (chkE m k)]) := by
 refine ecalls_of_awp Tryz.func10 (c := _) rfl (Nat.le_of_ble_eq_true rfl) ?_
 show awp cx 28 _ (postF cx Tryz.f10 _) ⟨[(0, mapV m), (1, Iv k)], []⟩
 refine awp_seq fun K0 hK0 => awp_region rfl ?_
 refine o_box 2 [Iv m.mod, Lv m.mul, Lv m.add] Gd.none rfl rfl ?_
 refine o_box 3 [Iv k] Gd.none rfl rfl ?_
 refine o_as Zv rfl ?_
 refine o_as Zv rfl ?_
 refine o_as (Nv 0) rfl ?_
 refine aops_end (hK0 _ (awp_seq fun K1 hK1 => awp_seq fun K2 hK2 => awp_region rfl ?_))
 refine o_loadA [Iv m.mod, Lv m.mul, Lv m.add] Gd.none f64_ rfl rfl rfl rfl rfl ?_
 refine o_loadS (Iv k) Gd.none f11_ rfl rfl rfl ?_
 refine o_ct (c_scheck m k (by assumption)) Gd.none f150_ rfl ?_
 refine o_as (Nv (chkE m k)) rfl ?_
 refine aops_end (hK2 _ (awp_seq fun K3 hK3 => awp_region rfl (o_mv (Nv (chkE m k)) rfl ?_)))
 refine n_neq (chkE m k) 0 Gd.none rfl rfl ?_
 refine n_as (v' := Tv) (by exact bpy h) ?_
 refine aops_end (hK3 _ ?_)
 refine awp_condB (b := true) rfl (fun _ => ?_) (fun hh => absurd (hh.symm.trans rfl) (by decide))
 refine awp_seq fun K4 hK4 => awp_region rfl (o_mv (Nv (chkE m k)) rfl ?_)
 refine o_as Zv rfl ?_
 refine o_as Zv rfl ?_
 refine o_as (Nv (chkE m k)) rfl ?_
 refine aops_end (hK4 _ ?_)
 refine awp_ret ?_
 refine post_ret ⟨[Zv, Zv, Nv (chkE m k)], ⟨AV.le_refl _, AV.le_refl _, AV.le_refl _, trivial⟩, rfl, ?_⟩
 rfl

end Go.Proofs.YtjbaamfahkjhgaaGreatDoor

namespace Go.Mth
open Go Go.Ab
def rF (m : MapM) (i : Nat) : Nat → List Fal
 | 0 => []
 | R + 1 => rF m i R ++ (if ffal m ((R : Nat) : Int) i = i then [falO ((i : Nat) : Int) ((R : Nat) : Int) (fln m ((R : Nat) : Int) i)] else [])
def rL (m : MapM) (K : Nat) : Nat → List Int
 | 0 => []
 | R + 1 => rL m K R ++ (if ffal m ((R : Nat) : Int) K = 0 then [((R : Nat) : Int)] else [])
def refFi (m : MapM) : Nat → List Fal
 | 0 => []
 | i + 1 => refFi m i ++ rF m (i + 1) (m.mod ^ (i + 1)).toNat
def refU (m : MapM) (K i R : Nat) : List Int := if i = K then rL m K R else []
theorem rF_y {m : MapM} {A : List Fal} {i R : Nat} (h : ffal m ((R : Nat) : Int) (i + 1) = i + 1) : (A ++ rF m (i + 1) R) ++ [falO ((i + 1 : Nat) : Int) ((R : Nat) : Int) (fln m ((R : Nat) : Int) (i + 1))] = A ++ rF m (i + 1) (R + 1) := by
 rw [rF, if_pos h, List.append_assoc]
theorem rF_n {m : MapM} {A : List Fal} {i R : Nat} (h : ¬ ffal m ((R : Nat) : Int) (i + 1) = i + 1) : A ++ rF m (i + 1) R = A ++ rF m (i + 1) (R + 1) := by
 rw [rF, if_neg h, List.append_nil]
theorem refU_y {m : MapM} {k : Int} {i R : Nat} (h : ((i + 1 : Nat) : Int) = k) (h2 : ffal m ((R : Nat) : Int) (i + 1) = 0) : refU m k.toNat (i + 1) R ++ [((R : Nat) : Int)] = refU m k.toNat (i + 1) (R + 1) := by
 have e : i + 1 = k.toNat := by omega
 unfold refU
 rw [if_pos e, if_pos e, rL, if_pos (by rw [← e]; exact h2)]
theorem refU_n1 {m : MapM} {k : Int} {i R : Nat} (h0 : 1 ≤ k) (h : ¬ ((i + 1 : Nat) : Int) = k) : refU m k.toNat (i + 1) R = refU m k.toNat (i + 1) (R + 1) := by
 have e : ¬ i + 1 = k.toNat := by omega
 unfold refU
 rw [if_neg e, if_neg e]
theorem refU_n2 {m : MapM} {k : Int} {i R : Nat} (h2 : ¬ ffal m ((R : Nat) : Int) (i + 1) = 0) : refU m k.toNat (i + 1) R = refU m k.toNat (i + 1) (R + 1) := by
 unfold refU
 by_cases e : i + 1 = k.toNat
 ·rw [if_pos e, if_pos e, rL, if_neg (by rw [← e]; exact h2), List.append_nil]
 ·rw [if_neg e, if_neg e]
theorem refU_0 {m : MapM} {K i R : Nat} (h : i < K) : refU m K i R = refU m K (i + 1) 0 := by
 unfold refU
 rw [if_neg (by omega)]
 split <;> rfl
theorem rF_len (m : MapM) (i : Nat) : ∀ R, (rF m i R).length ≤ R
 | 0 => Nat.le_refl _
 | R + 1 => by
  have := rF_len m i R
  rw [rF, List.length_append]
  split <;> simp <;> omega
theorem rL_len (m : MapM) (i : Nat) : ∀ R, (rL m i R).length ≤ R
 | 0 => Nat.le_refl _
 | R + 1 => by
  have := rL_len m i R
  rw [rL, List.length_append]
  split <;> simp <;> omega
theorem refU_len (m : MapM) (K i R : Nat) : (refU m K i R).length ≤ R := by
 unfold refU
 split
 ·exact rL_len m K R
 ·simp
theorem refFi_len {m : MapM} (hM : OkM m) {K : Nat} (hp : m.mod ^ K ≤ 65536) : ∀ i, i ≤ K → (refFi m i).length ≤ i * 65536
 | 0, _ => Nat.zero_le _
 | i + 1, h => by
  have h1 := refFi_len hM hp i (by omega)
  have h2 := rF_len m (i + 1) (m.mod ^ (i + 1)).toNat
  have h3 := pow_le_of hM (j := i + 1) (k := K) (by omega)
  rw [refFi, List.length_append]
  omega
end Go.Mth

namespace Go.Proofs.YtjbaamfahkjhgaaGreatDoor
open Go Go.Ab Go.Mth
theorem f168_ : callable cx.P 62 = true := by kernel_rfl
theorem f169_ : callable cx.P 63 = true := by kernel_rfl
theorem c_vSieve (m : MapM) (k : Int) (hM : OkM m) (hmy : mayS m k) : ECalls cx 15 [mapV m, Iv k] (.tup [.sl 6 (gcells cL (refFi m k.toNat)), .sl 1 (is .i64 (rL m k.toNat (m.mod ^ k.toNat).toNat))]) := by
 refine ecalls_of_awp Tryz.func15 (c := _) rfl (Nat.le_of_ble_eq_true rfl) ?_
 show awp cx 57 _ (postF cx Tryz.f15 _) ⟨[(0, mapV m), (1, Iv k)], []⟩
 have hM2 := hM
 obtain ⟨o1, o2, o3, o4, o5⟩ := hM2
 have hk1 := hmy.2.1
 have hkp := hmy.2.2
 have hk16 := may_16 hM hmy.2.2
 refine awp_seq fun K0 hK0 => awp_region rfl ?_
 refine o_box 2 [Iv m.mod, Lv m.mul, Lv m.add] Gd.none rfl rfl ?_
 refine o_as Zv rfl ?_
 refine o_as Zv rfl ?_
 refine aops_end (hK0 _ (awp_seq fun K1 hK1 => awp_region rfl ?_))
 refine o_as Zv rfl ?_
 refine aops_end (hK1 _ (awp_seq fun K2 hK2 => awp_region rfl ?_))
 refine o_as Zv rfl ?_
 refine aops_end (hK2 _ (awp_seq fun K3 hK3 => awp_region rfl ?_))
 refine o_as (Nv 1) rfl ?_
 refine n_as (v' := (Iv (m.mod ^ 0))) (by exact congrArg (fun z => AV.lit (.int .i64 z)) (Int.pow_zero _).symm) ?_
 refine aops_end (hK3 _ (awp_seq fun K4 hK4 => awp_seq fun K5 hK5 => awp_region rfl ?_))
 refine o_as (Nv 1) rfl ?_
 refine aops_end (hK5 _ ?_)
 refine awp_block ?_
 refine awp_loopR (fun κ σ => ∃ (i : Nat), (((i : Nat) : Int) ≤ k) ∧ ((k - ((i : Nat) : Int)).toNat) = κ ∧ σ = ⟨[(1, Iv k), (2, .ref 2 0), (6, .row 60), (7, .row 61), (8, Iv (m.mod ^ i)), (9, Nv (i + 1))], [(2, oM 24 m), (60, .row 40 6 (gcells cL (refFi m i))), (61, .row 3 1 (is .i64 (refU m k.toNat i (m.mod ^ i).toNat)))]⟩) ⟨_, _, ⟨0, (by omega), rfl, rfl⟩, ?wk0⟩ ?rd0
 case wk0 =>
  exact Wk.trans (Wk.newNil (i := 6) (id := 503) (e := 40) (sz := 6) rfl rfl (by decide)) (Wk.trans (Wk.newNil (i := 7) (id := 504) (e := 3) (sz := 1) rfl rfl (by decide)) (Wk.trans (Wk.sub (σ' := ⟨[(1, Iv k), (2, .ref 2 0), (6, .row 503), (7, .row 504), (8, Iv (m.mod ^ 0)), (9, Nv 1)], [(2, oM 24 m), (503, .row 40 6 (gcells cL ([]))), (504, .row 3 1 (is .i64 ([])))]⟩) ⟨rfl, rfl, rfl, rfl, rfl, rfl, trivial⟩ ⟨rfl, rfl, rfl, trivial⟩) (Wk.trans (Wk.ren (id := 503) (id' := 60) rfl) (Wk.trans (Wk.ren (id := 504) (id' := 61) rfl) (Wk.sub ⟨rfl, rfl, (by rfl), (by rfl), (by rfl), (by rfl), trivial⟩ ⟨(by rfl), (by rfl), (by (exact row_is (by unfold refU; rw [if_neg (by omega)]))), trivial⟩)))))
 rintro κ _ ⟨i, hi, rfl, rfl⟩
 have hpp : 0 < m.mod ^ i := Int.pow_pos (by omega)
 have hpb := pow_le_of hM (j := i) (k := k.toNat) (by omega)
 have hmb := Int.mul_le_mul (show m.mod ^ i ≤ 65536 by omega) o2 (show (0 : Int) ≤ m.mod by omega) (by decide)
 have hml := Int.mul_pos hpp (show 0 < m.mod by omega)
 have hFl := refFi_len hM hkp i (by omega)
 have hUl := refU_len m k.toNat i (m.mod ^ i).toNat
 refine awp_seq fun K6 hK6 => awp_seq fun K7 hK7 => awp_region rfl (o_mv (Nv (i + 1)) rfl (o_mv (Iv k) rfl ?_))
 refine o_leq (a := ((i + 1 : Nat) : Int)) (c := k) Gd.none rfl rfl ?_
 refine aops_end (hK7 _ ?_)
 refine awp_condQ (q := ((i + 1 : Nat) : Int) ≤ k) rfl (fun h1 => ?_) (fun h1 => ?_)
 ·refine awp_skip (hK6 _ (awp_seq fun K8 hK8 => ?_))
  refine awp_block ?_
  refine awp_seq fun K9 hK9 => awp_region rfl (o_mv (Iv (m.mod ^ i)) rfl ?_)
  refine o_fieldRef 0 Gd.none f60_ rfl rfl ?_
  refine o_loadS (Iv m.mod) Gd.none f11_ rfl rfl rfl ?_
  refine o_mul (a := (m.mod ^ i)) (c := m.mod) Gd.none rfl rfl (by exact wrap64 (by omega) (by omega)) ?_
  refine n_as (v' := (Iv (m.mod ^ (i + 1)))) (by exact congrArg (fun z => AV.lit (.int .i64 z)) (Int.pow_succ _ _).symm) ?_
  refine o_as (Iv (m.mod ^ (i + 1))) rfl ?_
  refine aops_end (hK9 _ (awp_seq fun K10 hK10 => awp_region rfl ?_))
  refine o_as (Nv 0) rfl ?_
  refine aops_end (hK10 _ ?_)
  refine awp_block ?_
  refine awp_loopR (fun κ σ => ∃ (R : Nat), (((R : Nat) : Int) ≤ m.mod ^ (i + 1)) ∧ ((m.mod ^ (i + 1) - ((R : Nat) : Int)).toNat) = κ ∧ σ = ⟨[(1, Iv k), (2, .ref 2 0), (6, .row 60), (7, .row 61), (8, Iv (m.mod ^ (i + 1))), (9, Nv (i + 1)), (10, Nv R)], [(2, oM 24 m), (60, .row 40 6 (gcells cL ((refFi m i) ++ (rF m (i + 1) R)))), (61, .row 3 1 (is .i64 (refU m k.toNat (i + 1) R)))]⟩) ⟨_, _, ⟨0, (by have : 0 < m.mod ^ (i + 1) := Int.pow_pos (by omega); omega), rfl, rfl⟩, ?wk1⟩ ?rd1
  case wk1 =>
   exact Wk.sub ⟨rfl, rfl, rfl, rfl, rfl, rfl, (by rfl), trivial⟩ ⟨rfl, (by (exact row_gs' (List.append_nil _).symm)), (by (exact row_is (refU_0 (by omega)))), trivial⟩
  rintro κ _ ⟨R, hR, rfl, rfl⟩
  have hp1 : 0 < m.mod ^ (i + 1) := Int.pow_pos (by omega)
  have hpb1 := pow_le_of hM (j := i + 1) (k := k.toNat) (by omega)
  have hRl := rF_len m (i + 1) R
  have hVl := refU_len m k.toNat (i + 1) R
  refine awp_seq fun K11 hK11 => awp_seq fun K12 hK12 => awp_region rfl (o_mv (Nv R) rfl (o_mv (Iv (m.mod ^ (i + 1))) rfl ?_))
  refine o_lss (a := ((R : Nat) : Int)) (c := (m.mod ^ (i + 1))) Gd.none rfl rfl ?_
  refine aops_end (hK12 _ ?_)
  refine awp_condQ (q := ((R : Nat) : Int) < (m.mod ^ (i + 1))) rfl (fun h2 => ?_) (fun h2 => ?_)
  ·refine awp_skip (hK11 _ (awp_seq fun K13 hK13 => ?_))
   refine awp_block ?_
   refine awp_seq fun K14 hK14 => awp_region rfl ?_
   refine o_loadA [Iv m.mod, Lv m.mul, Lv m.add] Gd.none f64_ rfl rfl rfl rfl rfl ?_
   refine o_mv (Nv R) rfl (o_mv (Nv (i + 1)) rfl ?_)
   refine o_ct (c_vfirst m ((R : Nat) : Int) ((i + 1 : Nat) : Int) (by assumption) (by omega) (by omega) (by omega)) Gd.none f168_ rfl ?_
   refine o_mv (.tup [(Nv (ffal m ((R : Nat) : Int) ((i + 1 : Nat) : Int).toNat)), (linR (fln m ((R : Nat) : Int) ((i + 1 : Nat) : Int).toNat))]) rfl ?_
   refine o_extract (Nv (ffal m ((R : Nat) : Int) ((i + 1 : Nat) : Int).toNat)) Gd.none rfl rfl ?_
   refine n_as (v' := (Nv (ffal m ((R : Nat) : Int) (i + 1)))) (by exact rfl) ?_
   refine o_extract (linR (fln m ((R : Nat) : Int) ((i + 1 : Nat) : Int).toNat)) Gd.none rfl rfl ?_
   refine n_as (v' := (linR (fln m ((R : Nat) : Int) (i + 1)))) (by exact rfl) ?_
   refine o_alloc 201 [Fv, Zv, Fv, Zv, Fv, Zv] Gd.none f94_ rfl rfl rfl ?_
   refine o_as (Nv (ffal m ((R : Nat) : Int) (i + 1))) rfl ?_
   refine o_store [(201, (.var 67 [(Bv ((fln m ((R : Nat) : Int) (i + 1)).mul)), (Rv ((fln m ((R : Nat) : Int) (i + 1)).mul)), (Bv ((fln m ((R : Nat) : Int) (i + 1)).add)), (Rv ((fln m ((R : Nat) : Int) (i + 1)).add)), (Bv ((fln m ((R : Nat) : Int) (i + 1)).div)), (Rv ((fln m ((R : Nat) : Int) (i + 1)).div))])), (2, oM 24 m), (60, .row 40 6 (gcells cL ((refFi m i) ++ (rF m (i + 1) R)))), (61, .row 3 1 (is .i64 (refU m k.toNat (i + 1) R)))] Gd.none f99_ rfl rfl rfl rfl rfl rfl ?_
   refine aops_end (hK14 _ (awp_seq fun K15 hK15 => awp_seq fun K16 hK16 => awp_region rfl (o_mv (Nv (ffal m ((R : Nat) : Int) (i + 1))) rfl (o_mv (Nv (i + 1)) rfl ?_))))
   refine n_eql (ffal m ((R : Nat) : Int) (i + 1)) (i + 1) Gd.none rfl rfl ?_
   refine aops_end (hK16 _ ?_)
   refine awp_condQ (q := (ffal m ((R : Nat) : Int) (i + 1)) = (i + 1)) rfl (fun h3 => ?_) (fun h3 => ?_)
   ·have hfe : ffal m ((R : Nat) : Int) (i + 1) = i + 1 := by assumption
    have hfn : ffal m ((R : Nat) : Int) (i + 1) ≠ 0 := by omega
    have hfy := ffal_yes hfn
    obtain ⟨L1, L2, L3⟩ := line_len hM _ (wordZ_is hM ((R : Nat) : Int) (ffal m ((R : Nat) : Int) (i + 1)))
    have L4 := wordZ_len m ((R : Nat) : Int) (ffal m ((R : Nat) : Int) (i + 1))
    have hfz := fln_yes hfn
    rw [← hfz] at L1 L2 L3
    have hdm : 0 < (fln m ((R : Nat) : Int) (i + 1)).div - (fln m ((R : Nat) : Int) (i + 1)).mul := by have := hfy.1; unfold fallsW at this; rw [hfz]; omega
    refine awp_region rfl (o_mv (.row 60) rfl (o_mv (Nv (i + 1)) rfl (o_mv (Nv R) rfl ?_)))
    refine o_loadA [(Bv ((fln m ((R : Nat) : Int) (i + 1)).mul)), (Rv ((fln m ((R : Nat) : Int) (i + 1)).mul)), (Bv ((fln m ((R : Nat) : Int) (i + 1)).add)), (Rv ((fln m ((R : Nat) : Int) (i + 1)).add)), (Bv ((fln m ((R : Nat) : Int) (i + 1)).div)), (Rv ((fln m ((R : Nat) : Int) (i + 1)).div))] Gd.none f100_ rfl rfl rfl rfl rfl ?_
    refine o_ct (c_vfall ((i + 1 : Nat) : Int) ((R : Nat) : Int) (fln m ((R : Nat) : Int) (i + 1)) (by omega) (by omega) (by omega) (by omega)) Gd.none f169_ rfl ?_
    refine o_buildSlice 202 (gcells cL ([(falO ((i + 1 : Nat) : Int) ((R : Nat) : Int) (fln m ((R : Nat) : Int) (i + 1)))])) [(0, [(Iv ((falO ((i + 1 : Nat) : Int) ((R : Nat) : Int) (fln m ((R : Nat) : Int) (i + 1))).steps)), (Iv ((falO ((i + 1 : Nat) : Int) ((R : Nat) : Int) (fln m ((R : Nat) : Int) (i + 1))).rest)), (Sv ((falO ((i + 1 : Nat) : Int) ((R : Nat) : Int) (fln m ((R : Nat) : Int) (i + 1))).lmul)), (Sv ((falO ((i + 1 : Nat) : Int) ((R : Nat) : Int) (fln m ((R : Nat) : Int) (i + 1))).ladd)), (Sv ((falO ((i + 1 : Nat) : Int) ((R : Nat) : Int) (fln m ((R : Nat) : Int) (i + 1))).ldiv)), (Sv ((falO ((i + 1 : Nat) : Int) ((R : Nat) : Int) (fln m ((R : Nat) : Int) (i + 1))).bound))])] Gd.none f118_ rfl f104_ rfl rfl rfl rfl rfl rfl rfl ?_
    refine g_append cL 203 ((refFi m i) ++ (rF m (i + 1) R)) ([(falO ((i + 1 : Nat) : Int) ((R : Nat) : Int) (fln m ((R : Nat) : Int) (i + 1)))]) [(202, (.row 40 6 (gcells cL ([(falO ((i + 1 : Nat) : Int) ((R : Nat) : Int) (fln m ((R : Nat) : Int) (i + 1)))])))), (201, (.var 67 [(Bv ((fln m ((R : Nat) : Int) (i + 1)).mul)), (Rv ((fln m ((R : Nat) : Int) (i + 1)).mul)), (Bv ((fln m ((R : Nat) : Int) (i + 1)).add)), (Rv ((fln m ((R : Nat) : Int) (i + 1)).add)), (Bv ((fln m ((R : Nat) : Int) (i + 1)).div)), (Rv ((fln m ((R : Nat) : Int) (i + 1)).div))])), (2, oM 24 m), (61, .row 3 1 (is .i64 (refU m k.toNat (i + 1) R)))] cL_len rfl Gd.none f118_ f104_ rfl rfl rfl rfl rfl (by simp only [List.length_append, List.length_cons, List.length_nil]; omega) (by simp only [List.length_append, List.length_cons, List.length_nil]; omega) rfl rfl ?_
    refine o_as (.row 203) rfl ?_
    refine aops_end (hK15 _ (awp_seq fun K17 hK17 => awp_region rfl (o_mv (Nv (i + 1)) rfl (o_mv (Iv k) rfl ?_))))
    refine o_eql (a := ((i + 1 : Nat) : Int)) (c := k) Gd.none rfl rfl ?_
    refine o_mv (bp (((i + 1 : Nat) : Int) = k)) rfl ?_
    refine o_splitP (q := ((i + 1 : Nat) : Int) = k) 47 rfl (fun h4 => ?_) (fun h4 => ?_)
    ·refine o_move (Nv (ffal m ((R : Nat) : Int) (i + 1))) (Gd.yes rfl rfl (decide_eq_true h4)) rfl ?_
     refine n_eql (ffal m ((R : Nat) : Int) (i + 1)) 0 (Gd.yes rfl rfl (decide_eq_true h4)) rfl rfl ?_
     refine o_pickT (bp ((ffal m ((R : Nat) : Int) (i + 1)) = 0)) Gd.none rfl (decide_eq_true h4) rfl ?_
     refine aops_end (hK17 _ ?_)
     refine awp_condQ (q := (ffal m ((R : Nat) : Int) (i + 1)) = 0) rfl (fun h5 => ?_) (fun h5 => ?_)
     ·refine awp_region rfl (o_mv (.row 61) rfl (o_mv (Nv R) rfl ?_))
      refine o_buildSlice 204 (is .i64 ([((R : Nat) : Int)])) [(0, [Nv R])] Gd.none f10_ rfl f26_ rfl rfl rfl rfl rfl rfl rfl ?_
      refine i_append 205 (refU m k.toNat (i + 1) R) ([((R : Nat) : Int)]) [(204, (.row 3 1 (is .i64 ([((R : Nat) : Int)])))), (203, (.row 40 6 (gcells cL (((refFi m i) ++ (rF m (i + 1) R)) ++ ([(falO ((i + 1 : Nat) : Int) ((R : Nat) : Int) (fln m ((R : Nat) : Int) (i + 1)))]))))), (202, (.row 40 6 (gcells cL ([(falO ((i + 1 : Nat) : Int) ((R : Nat) : Int) (fln m ((R : Nat) : Int) (i + 1)))])))), (201, (.var 67 [(Bv ((fln m ((R : Nat) : Int) (i + 1)).mul)), (Rv ((fln m ((R : Nat) : Int) (i + 1)).mul)), (Bv ((fln m ((R : Nat) : Int) (i + 1)).add)), (Rv ((fln m ((R : Nat) : Int) (i + 1)).add)), (Bv ((fln m ((R : Nat) : Int) (i + 1)).div)), (Rv ((fln m ((R : Nat) : Int) (i + 1)).div))])), (2, oM 24 m)] Gd.none f10_ f26_ rfl rfl rfl rfl rfl (by simp only [List.length_cons, List.length_nil]; omega) (by decide) rfl rfl ?_
      refine o_as (.row 205) rfl ?_
      refine aops_end (hK13 _ (awp_region rfl (o_mv (Nv R) rfl ?_)))
      refine n_add R 1 Gd.none rfl rfl (by simp only [topOf]; omega) ?_
      refine o_as (Nv (R + 1)) rfl ?_
      refine aops_end ?_
      refine ⟨_, _, ?lt, ⟨R + 1, (by omega), rfl, rfl⟩, ?wk⟩
      case lt => omega
      case wk => exact Wk.trans (Wk.sub (σ' := ⟨[(1, Iv k), (2, .ref 2 0), (6, .row 203), (7, .row 205), (8, Iv (m.mod ^ (i + 1))), (9, Nv (i + 1)), (10, Nv (R + 1))], [(2, oM 24 m), (203, (.row 40 6 (gcells cL (((refFi m i) ++ (rF m (i + 1) R)) ++ ([(falO ((i + 1 : Nat) : Int) ((R : Nat) : Int) (fln m ((R : Nat) : Int) (i + 1)))]))))), (205, (.row 3 1 (is .i64 ((refU m k.toNat (i + 1) R) ++ ([((R : Nat) : Int)])))))]⟩) ⟨rfl, rfl, rfl, rfl, rfl, rfl, rfl, trivial⟩ ⟨rfl, rfl, rfl, trivial⟩) (Wk.trans (Wk.ren (id := 203) (id' := 60) rfl) (Wk.trans (Wk.ren (id := 205) (id' := 61) rfl) (Wk.sub ⟨rfl, rfl, (by rfl), (by rfl), rfl, rfl, (by rfl), trivial⟩ ⟨rfl, (by (exact row_gs' (rF_y (by assumption)))), (by (exact row_is (refU_y (by assumption) (by assumption)))), trivial⟩)))
     ·refine awp_skip (hK13 _ (awp_region rfl (o_mv (Nv R) rfl ?_)))
      refine n_add R 1 Gd.none rfl rfl (by simp only [topOf]; omega) ?_
      refine o_as (Nv (R + 1)) rfl ?_
      refine aops_end ?_
      refine ⟨_, _, ?lt, ⟨R + 1, (by omega), rfl, rfl⟩, ?wk⟩
      case lt => omega
      case wk => exact Wk.trans (Wk.sub (σ' := ⟨[(1, Iv k), (2, .ref 2 0), (6, .row 203), (7, .row 61), (8, Iv (m.mod ^ (i + 1))), (9, Nv (i + 1)), (10, Nv (R + 1))], [(2, oM 24 m), (203, (.row 40 6 (gcells cL (((refFi m i) ++ (rF m (i + 1) R)) ++ ([(falO ((i + 1 : Nat) : Int) ((R : Nat) : Int) (fln m ((R : Nat) : Int) (i + 1)))]))))), (61, .row 3 1 (is .i64 (refU m k.toNat (i + 1) R)))]⟩) ⟨rfl, rfl, rfl, rfl, rfl, rfl, rfl, trivial⟩ ⟨rfl, rfl, rfl, trivial⟩) (Wk.trans (Wk.ren (id := 203) (id' := 60) rfl) (Wk.sub ⟨rfl, rfl, (by rfl), rfl, rfl, rfl, (by rfl), trivial⟩ ⟨rfl, (by (exact row_gs' (rF_y (by assumption)))), (by (exact row_is (refU_n2 (by assumption)))), trivial⟩))
    ·refine o_skip rfl rfl (decide_eq_false h4) ?_
     refine o_skip rfl rfl (decide_eq_false h4) ?_
     refine o_pickF Fv Gd.none rfl (decide_eq_false h4) rfl ?_
     refine aops_end (hK17 _ ?_)
     refine awp_condB (b := false) rfl (fun hh => absurd (hh.symm.trans rfl) (by decide)) (fun _ => ?_)
     refine awp_skip (hK13 _ (awp_region rfl (o_mv (Nv R) rfl ?_)))
     refine n_add R 1 Gd.none rfl rfl (by simp only [topOf]; omega) ?_
     refine o_as (Nv (R + 1)) rfl ?_
     refine aops_end ?_
     refine ⟨_, _, ?lt, ⟨R + 1, (by omega), rfl, rfl⟩, ?wk⟩
     case lt => omega
     case wk => exact Wk.trans (Wk.sub (σ' := ⟨[(1, Iv k), (2, .ref 2 0), (6, .row 203), (7, .row 61), (8, Iv (m.mod ^ (i + 1))), (9, Nv (i + 1)), (10, Nv (R + 1))], [(2, oM 24 m), (203, (.row 40 6 (gcells cL (((refFi m i) ++ (rF m (i + 1) R)) ++ ([(falO ((i + 1 : Nat) : Int) ((R : Nat) : Int) (fln m ((R : Nat) : Int) (i + 1)))]))))), (61, .row 3 1 (is .i64 (refU m k.toNat (i + 1) R)))]⟩) ⟨rfl, rfl, rfl, rfl, rfl, rfl, rfl, trivial⟩ ⟨rfl, rfl, rfl, trivial⟩) (Wk.trans (Wk.ren (id := 203) (id' := 60) rfl) (Wk.sub ⟨rfl, rfl, (by rfl), rfl, rfl, rfl, (by rfl), trivial⟩ ⟨rfl, (by (exact row_gs' (rF_y (by assumption)))), (by (exact row_is (refU_n1 hk1 (by assumption)))), trivial⟩))
   ·refine awp_skip (hK15 _ (awp_seq fun K18 hK18 => awp_region rfl (o_mv (Nv (i + 1)) rfl (o_mv (Iv k) rfl ?_))))
    refine o_eql (a := ((i + 1 : Nat) : Int)) (c := k) Gd.none rfl rfl ?_
    refine o_mv (bp (((i + 1 : Nat) : Int) = k)) rfl ?_
    refine o_splitP (q := ((i + 1 : Nat) : Int) = k) 47 rfl (fun h6 => ?_) (fun h6 => ?_)
    ·refine o_move (Nv (ffal m ((R : Nat) : Int) (i + 1))) (Gd.yes rfl rfl (decide_eq_true h6)) rfl ?_
     refine n_eql (ffal m ((R : Nat) : Int) (i + 1)) 0 (Gd.yes rfl rfl (decide_eq_true h6)) rfl rfl ?_
     refine o_pickT (bp ((ffal m ((R : Nat) : Int) (i + 1)) = 0)) Gd.none rfl (decide_eq_true h6) rfl ?_
     refine aops_end (hK18 _ ?_)
     refine awp_condQ (q := (ffal m ((R : Nat) : Int) (i + 1)) = 0) rfl (fun h7 => ?_) (fun h7 => ?_)
     ·refine awp_region rfl (o_mv (.row 61) rfl (o_mv (Nv R) rfl ?_))
      refine o_buildSlice 202 (is .i64 ([((R : Nat) : Int)])) [(0, [Nv R])] Gd.none f10_ rfl f26_ rfl rfl rfl rfl rfl rfl rfl ?_
      refine i_append 203 (refU m k.toNat (i + 1) R) ([((R : Nat) : Int)]) [(202, (.row 3 1 (is .i64 ([((R : Nat) : Int)])))), (201, (.var 67 [(Bv ((fln m ((R : Nat) : Int) (i + 1)).mul)), (Rv ((fln m ((R : Nat) : Int) (i + 1)).mul)), (Bv ((fln m ((R : Nat) : Int) (i + 1)).add)), (Rv ((fln m ((R : Nat) : Int) (i + 1)).add)), (Bv ((fln m ((R : Nat) : Int) (i + 1)).div)), (Rv ((fln m ((R : Nat) : Int) (i + 1)).div))])), (2, oM 24 m), (60, .row 40 6 (gcells cL ((refFi m i) ++ (rF m (i + 1) R))))] Gd.none f10_ f26_ rfl rfl rfl rfl rfl (by simp only [List.length_cons, List.length_nil]; omega) (by decide) rfl rfl ?_
      refine o_as (.row 203) rfl ?_
      refine aops_end (hK13 _ (awp_region rfl (o_mv (Nv R) rfl ?_)))
      refine n_add R 1 Gd.none rfl rfl (by simp only [topOf]; omega) ?_
      refine o_as (Nv (R + 1)) rfl ?_
      refine aops_end ?_
      refine ⟨_, _, ?lt, ⟨R + 1, (by omega), rfl, rfl⟩, ?wk⟩
      case lt => omega
      case wk => exact Wk.trans (Wk.sub (σ' := ⟨[(1, Iv k), (2, .ref 2 0), (6, .row 60), (7, .row 203), (8, Iv (m.mod ^ (i + 1))), (9, Nv (i + 1)), (10, Nv (R + 1))], [(2, oM 24 m), (60, .row 40 6 (gcells cL ((refFi m i) ++ (rF m (i + 1) R)))), (203, (.row 3 1 (is .i64 ((refU m k.toNat (i + 1) R) ++ ([((R : Nat) : Int)])))))]⟩) ⟨rfl, rfl, rfl, rfl, rfl, rfl, rfl, trivial⟩ ⟨rfl, rfl, rfl, trivial⟩) (Wk.trans (Wk.ren (id := 203) (id' := 61) rfl) (Wk.sub ⟨rfl, rfl, rfl, (by rfl), rfl, rfl, (by rfl), trivial⟩ ⟨rfl, (by (exact row_gs' (rF_n (by assumption)))), (by (exact row_is (refU_y (by assumption) (by assumption)))), trivial⟩))
     ·refine awp_skip (hK13 _ (awp_region rfl (o_mv (Nv R) rfl ?_)))
      refine n_add R 1 Gd.none rfl rfl (by simp only [topOf]; omega) ?_
      refine o_as (Nv (R + 1)) rfl ?_
      refine aops_end ?_
      refine ⟨_, _, ?lt, ⟨R + 1, (by omega), rfl, rfl⟩, ?wk⟩
      case lt => omega
      case wk => exact Wk.sub ⟨rfl, rfl, rfl, rfl, rfl, rfl, (by rfl), trivial⟩ ⟨rfl, (by (exact row_gs' (rF_n (by assumption)))), (by (exact row_is (refU_n2 (by assumption)))), trivial⟩
    ·refine o_skip rfl rfl (decide_eq_false h6) ?_
     refine o_skip rfl rfl (decide_eq_false h6) ?_
     refine o_pickF Fv Gd.none rfl (decide_eq_false h6) rfl ?_
     refine aops_end (hK18 _ ?_)
     refine awp_condB (b := false) rfl (fun hh => absurd (hh.symm.trans rfl) (by decide)) (fun _ => ?_)
     refine awp_skip (hK13 _ (awp_region rfl (o_mv (Nv R) rfl ?_)))
     refine n_add R 1 Gd.none rfl rfl (by simp only [topOf]; omega) ?_
     refine o_as (Nv (R + 1)) rfl ?_
     refine aops_end ?_
     refine ⟨_, _, ?lt, ⟨R + 1, (by omega), rfl, rfl⟩, ?wk⟩
     case lt => omega
     case wk => exact Wk.sub ⟨rfl, rfl, rfl, rfl, rfl, rfl, (by rfl), trivial⟩ ⟨rfl, (by (exact row_gs' (rF_n (by assumption)))), (by (exact row_is (refU_n1 hk1 (by assumption)))), trivial⟩
  ·refine awp_exit ?_
   refine hK8 _ (awp_region rfl (o_mv (Nv (i + 1)) rfl ?_))
   refine n_add (i + 1) 1 Gd.none rfl rfl (by simp only [topOf]; omega) ?_
   refine o_as (Nv ((i + 1) + 1)) rfl ?_
   refine aops_end ?_
   refine ⟨_, _, ?lt, ⟨i + 1, (by omega), rfl, rfl⟩, ?wk⟩
   case lt => omega
   case wk => exact Wk.sub ⟨rfl, rfl, rfl, rfl, (by rfl), (by rfl), trivial⟩ ⟨rfl, (by (exact row_gs' (by rw [show R = (m.mod ^ (i + 1)).toNat by omega]; rfl))), (by (exact row_is (by rw [show R = (m.mod ^ (i + 1)).toNat by omega]))), trivial⟩
 ·refine awp_exit ?_
  refine hK4 _ (awp_seq fun K19 hK19 => awp_region rfl (o_mv (.row 60) rfl (o_mv (.row 61) rfl ?_)))
  refine o_as (.row 60) rfl ?_
  refine o_as (.row 61) rfl ?_
  refine aops_end (hK19 _ ?_)
  refine awp_wk (σ' := ⟨[(4, .row 60), (5, .row 61)], [(60, .row 40 6 (gcells cL (refFi m i))), (61, .row 3 1 (is .i64 (refU m k.toNat i (m.mod ^ i).toNat)))]⟩) (Wk.sub ⟨rfl, rfl, trivial⟩ ⟨rfl, rfl, trivial⟩) ?_
  refine awp_wk (σ' := ⟨[(4, .sl 6 (gcells cL (refFi m i))), (5, .row 61)], [(61, .row 3 1 (is .i64 (refU m k.toNat i (m.mod ^ i).toNat)))]⟩) (Wk.freeze (id := 60) (e := 40) (sz := 6) (cs := (gcells cL (refFi m i))) rfl) ?_
  refine awp_wk (σ' := ⟨[(4, .sl 6 (gcells cL (refFi m i))), (5, Lv (refU m k.toNat i (m.mod ^ i).toNat))], []⟩) (Wk.freeze (id := 61) (e := 3) (sz := 1) (cs := (is .i64 (refU m k.toNat i (m.mod ^ i).toNat))) rfl) ?_
  refine awp_ret ?_
  refine post_ret ⟨[.sl 6 (gcells cL (refFi m i)), Lv (refU m k.toNat i (m.mod ^ i).toNat)], ⟨AV.le_refl _, AV.le_refl _, trivial⟩, rfl, ?_⟩
  have hki : k.toNat = i := by omega
  rw [hki]
  exact tup_eq2 rfl (congrArg (fun l => AV.sl 1 (is .i64 l)) (if_pos rfl).symm)

end Go.Proofs.YtjbaamfahkjhgaaGreatDoor

namespace Go.Mth
open Go Go.Ab
def fAt (m : MapM) (i : Nat) (x : Int) : Fal := falO ((i : Nat) : Int) x (lineZ m (wordZ m x i))
theorem visT_mem1 {g : Nat → List Fal × List Int} {f : Fal} : ∀ {T : Nat}, f ∈ (visT g T).1 ↔ ∃ t, t < T ∧ f ∈ (g t).1
 | 0 => by simp [visT]
 | T + 1 => by
  rw [visT]
  simp only [List.mem_append]
  rw [visT_mem1]
  constructor
  ·rintro (⟨t, h1, h2⟩ | h)
   ·exact ⟨t, by omega, h2⟩
   ·exact ⟨T, by omega, h⟩
  ·rintro ⟨t, h1, h2⟩
   rcases Nat.lt_or_ge t T with h | h
   ·exact .inl ⟨t, h, h2⟩
   ·right; rw [show T = t by omega]; exact h2
theorem visT_mem2 {g : Nat → List Fal × List Int} {f : Int} : ∀ {T : Nat}, f ∈ (visT g T).2 ↔ ∃ t, t < T ∧ f ∈ (g t).2
 | 0 => by simp [visT]
 | T + 1 => by
  rw [visT]
  simp only [List.mem_append]
  rw [visT_mem2]
  constructor
  ·rintro (⟨t, h1, h2⟩ | h)
   ·exact ⟨t, by omega, h2⟩
   ·exact ⟨T, by omega, h⟩
  ·rintro ⟨t, h1, h2⟩
   rcases Nat.lt_or_ge t T with h | h
   ·exact .inl ⟨t, h, h2⟩
   ·right; rw [show T = t by omega]; exact h2
theorem digit {b : Int} (hb : 2 ≤ b) (x : Int) (n : Nat) : ∃ t : Nat, t < b.toNat ∧ x % b ^ (n + 1) = x % b ^ n + ((t : Nat) : Int) * b ^ n := by
 have hp : 0 < b ^ n := Int.pow_pos (by omega)
 have hp1 : 0 < b ^ (n + 1) := Int.pow_pos (by omega)
 have hs : b ^ (n + 1) = b ^ n * b := Int.pow_succ b n
 have h0 := Int.emod_nonneg x (show b ^ (n + 1) ≠ 0 by omega)
 have h1 := Int.emod_lt_of_pos x hp1
 have hm : x % b ^ (n + 1) % b ^ n = x % b ^ n := Int.emod_emod_of_dvd _ ⟨b, hs⟩
 have he := Int.emod_add_mul_ediv (x % b ^ (n + 1)) (b ^ n)
 have q0 : 0 ≤ x % b ^ (n + 1) / b ^ n := Int.ediv_nonneg h0 (Int.le_of_lt hp)
 have q1 : x % b ^ (n + 1) / b ^ n < b := Int.ediv_lt_of_lt_mul hp (by rw [Int.mul_comm, ← hs]; exact h1)
 refine ⟨(x % b ^ (n + 1) / b ^ n).toNat, by omega, ?_⟩
 rw [Int.toNat_of_nonneg q0, Int.mul_comm, ← hm]
 omega
theorem ffal_n {m : MapM} {r : Int} {n : Nat} (hff : ∀ j, j + 1 = n → ffal m r j = 0) (h : ¬ fallN m r n) : ffal m r n = 0 := by
 cases n with
 | zero => rfl
 | succ j => exact ffal_next (hff j rfl) fun e => h ⟨by omega, e⟩
theorem at_n {m : MapM} {r x : Int} {n : Nat} (hx0 : 0 ≤ x) (hx1 : x < m.mod ^ n) (hr : x % m.mod ^ n = r) : x = r := by rw [← hr, Int.emod_eq_of_lt hx0 hx1]
theorem vis_mem {m : MapM} (hm : OkM m) : ∀ (d n : Nat) (r : Int), 0 ≤ r → r < m.mod ^ n → (∀ j, j + 1 = n → ffal m r j = 0) →
  (∀ f, f ∈ (visA m d n r).1 ↔ ∃ (i : Nat) (x : Int), (n ≤ i ∧ i ≤ n + d ∧ 1 ≤ i) ∧ (0 ≤ x ∧ x < m.mod ^ i) ∧ x % m.mod ^ n = r ∧ ffal m x i = i ∧ f = fAt m i x) ∧
  (∀ x, x ∈ (visA m d n r).2 ↔ (0 ≤ x ∧ x < m.mod ^ (n + d)) ∧ x % m.mod ^ n = r ∧ ffal m x (n + d) = 0) := by
 intro d
 induction d with
 | zero =>
  intro n r h0 h1 hff
  by_cases hf : fallN m r n
  ·rw [vis_fall hf]
   obtain ⟨j, rfl⟩ : ∃ j, n = j + 1 := ⟨n - 1, by have := hf.1; omega⟩
   have hh := ffal_hit (hff j rfl) hf.2 (Nat.le_refl _)
   refine ⟨fun f => ?_, fun x => ?_⟩
   ·constructor
    ·intro h
     rw [List.mem_singleton] at h
     exact ⟨j + 1, r, ⟨by omega, by omega, by omega⟩, ⟨h0, h1⟩, Int.emod_eq_of_lt h0 h1, hh, h⟩
    ·rintro ⟨i, x, ⟨a1, a2, a3⟩, ⟨x0, x1⟩, hr, hi, rfl⟩
     obtain rfl : i = j + 1 := by omega
     rw [at_n x0 x1 hr, List.mem_singleton]; rfl
   ·constructor
    ·intro h; simp at h
    ·rintro ⟨⟨x0, x1⟩, hr, hi⟩
     rw [at_n x0 x1 hr, Nat.add_zero, hh] at hi
     omega
  ·rw [vis_left hf rfl]
   have hz := ffal_n hff hf
   refine ⟨fun f => ?_, fun x => ?_⟩
   ·constructor
    ·intro h; simp at h
    ·rintro ⟨i, x, ⟨a1, a2, a3⟩, ⟨x0, x1⟩, hr, hi, rfl⟩
     obtain rfl : i = n := by omega
     rw [at_n x0 x1 hr, hz] at hi
     omega
   ·rw [List.mem_singleton]
    constructor
    ·rintro rfl; exact ⟨⟨h0, h1⟩, Int.emod_eq_of_lt h0 h1, hz⟩
    ·rintro ⟨⟨x0, x1⟩, hr, hi⟩; exact at_n x0 x1 hr
 | succ d ih =>
  intro n r h0 h1 hff
  have h2 := hm.1
  have hp : 0 < m.mod ^ n := Int.pow_pos (by omega)
  by_cases hf : fallN m r n
  ·rw [vis_fall hf]
   obtain ⟨j, rfl⟩ : ∃ j, n = j + 1 := ⟨n - 1, by have := hf.1; omega⟩
   have hh := ffal_hit (hff j rfl) hf.2 (Nat.le_refl _)
   have same : ∀ x : Int, x % m.mod ^ (j + 1) = r → fallsW m (wordZ m x (j + 1)) := fun x hx => by
    rw [← word_mod hm x (Nat.le_refl (j + 1)), hx]; exact hf.2
   refine ⟨fun f => ?_, fun x => ?_⟩
   ·constructor
    ·intro h
     rw [List.mem_singleton] at h
     exact ⟨j + 1, r, ⟨by omega, by omega, by omega⟩, ⟨h0, h1⟩, Int.emod_eq_of_lt h0 h1, hh, h⟩
    ·rintro ⟨i, x, ⟨a1, a2, a3⟩, ⟨x0, x1⟩, hr, hi, rfl⟩
     have hy := ffal_yes (m := m) (z := x) (k := i) (by omega)
     have : ¬ j + 1 < i := fun e => hy.2 (j + 1) (by omega) (by omega) (same x hr)
     obtain rfl : i = j + 1 := by omega
     rw [at_n x0 x1 hr, List.mem_singleton]; rfl
   ·constructor
    ·intro h; simp at h
    ·rintro ⟨⟨x0, x1⟩, hr, hi⟩
     exact absurd (same x hr) (ffal_zero hi (j + 1) (by omega) (by omega))
  ·rw [vis_more hf rfl]
   have hz := ffal_n hff hf
   unfold visU
   have hq : ∀ t : Nat, t < m.mod.toNat → (0 ≤ r + ((t : Nat) : Int) * m.mod ^ n ∧ r + ((t : Nat) : Int) * m.mod ^ n < m.mod ^ (n + 1)) ∧ (r + ((t : Nat) : Int) * m.mod ^ n) % m.mod ^ n = r ∧ ∀ j, j + 1 = n + 1 → ffal m (r + ((t : Nat) : Int) * m.mod ^ n) j = 0 := fun t ht => by
    have e : (r + ((t : Nat) : Int) * m.mod ^ n) % m.mod ^ n = r := by rw [Int.add_mul_emod_self_right, Int.emod_eq_of_lt h0 h1]
    refine ⟨vis_rest hm h0 h1 ht, e, fun j hj => ?_⟩
    obtain rfl : j = n := by omega
    rw [← ffal_mod hm, e]; exact hz
   have key : ∀ x : Int, ∃ t : Nat, t < m.mod.toNat ∧ x % m.mod ^ (n + 1) = x % m.mod ^ n + ((t : Nat) : Int) * m.mod ^ n := fun x => digit h2 x n
   refine ⟨fun f => ?_, fun x => ?_⟩
   ·rw [visT_mem1]
    constructor
    ·rintro ⟨t, ht, hft⟩
     obtain ⟨⟨q0, q1⟩, q2, q3⟩ := hq t ht
     obtain ⟨i, x, ⟨a1, a2, a3⟩, hx, hr, hi, he⟩ := ((ih (n + 1) _ q0 q1 q3).1 f).1 hft
     refine ⟨i, x, ⟨by omega, by omega, a3⟩, hx, ?_, hi, he⟩
     rw [← mod_mod x (show n ≤ n + 1 by omega), hr, q2]
    ·rintro ⟨i, x, ⟨a1, a2, a3⟩, ⟨x0, x1⟩, hr, hi, he⟩
     have hin : ¬ i = n := fun e => by
      subst e
      rw [at_n x0 x1 hr, hz] at hi
      omega
     obtain ⟨t, ht, ex⟩ := key x
     obtain ⟨⟨q0, q1⟩, q2, q3⟩ := hq t ht
     refine ⟨t, ht, ((ih (n + 1) _ q0 q1 q3).1 f).2 ⟨i, x, ⟨by omega, by omega, a3⟩, ⟨x0, x1⟩, by rw [ex, hr], hi, he⟩⟩
   ·rw [visT_mem2]
    constructor
    ·rintro ⟨t, ht, hft⟩
     obtain ⟨⟨q0, q1⟩, q2, q3⟩ := hq t ht
     obtain ⟨hx, hr, hi⟩ := ((ih (n + 1) _ q0 q1 q3).2 x).1 hft
     rw [show n + 1 + d = n + (d + 1) by omega] at hx hi
     refine ⟨hx, ?_, hi⟩
     rw [← mod_mod x (show n ≤ n + 1 by omega), hr, q2]
    ·rintro ⟨hx, hr, hi⟩
     obtain ⟨t, ht, ex⟩ := key x
     obtain ⟨⟨q0, q1⟩, q2, q3⟩ := hq t ht
     refine ⟨t, ht, ((ih (n + 1) _ q0 q1 q3).2 x).2 ?_⟩
     rw [show n + 1 + d = n + (d + 1) by omega]
     exact ⟨hx, by rw [ex, hr], hi⟩
theorem visT_pw1 {g : Nat → List Fal × List Int} {Q : Fal → Fal → Prop} : ∀ {T : Nat}, (∀ t, t < T → (g t).1.Pairwise Q) → (∀ s t, s < t → t < T → ∀ a ∈ (g s).1, ∀ b ∈ (g t).1, Q a b) → (visT g T).1.Pairwise Q
 | 0, _, _ => List.Pairwise.nil
 | T + 1, h1, h2 => by
  rw [visT]
  refine List.pairwise_append.2 ⟨visT_pw1 (fun t ht => h1 t (by omega)) (fun s t hs ht => h2 s t hs (by omega)), h1 T (by omega), fun a ha b hb => ?_⟩
  obtain ⟨s, hs, ha⟩ := visT_mem1.1 ha
  exact h2 s T hs (by omega) a ha b hb
theorem visT_pw2 {g : Nat → List Fal × List Int} {Q : Int → Int → Prop} : ∀ {T : Nat}, (∀ t, t < T → (g t).2.Pairwise Q) → (∀ s t, s < t → t < T → ∀ a ∈ (g s).2, ∀ b ∈ (g t).2, Q a b) → (visT g T).2.Pairwise Q
 | 0, _, _ => List.Pairwise.nil
 | T + 1, h1, h2 => by
  rw [visT]
  refine List.pairwise_append.2 ⟨visT_pw2 (fun t ht => h1 t (by omega)) (fun s t hs ht => h2 s t hs (by omega)), h1 T (by omega), fun a ha b hb => ?_⟩
  obtain ⟨s, hs, ha⟩ := visT_mem2.1 ha
  exact h2 s T hs (by omega) a ha b hb
theorem rt_ne {m : MapM} (hm : OkM m) {r : Int} {n s t : Nat} (h : s < t) : r + ((s : Nat) : Int) * m.mod ^ n ≠ r + ((t : Nat) : Int) * m.mod ^ n := fun e => by
 have hp : 0 < m.mod ^ n := Int.pow_pos (by have := hm.1; omega)
 have : ((s : Nat) : Int) = ((t : Nat) : Int) := Int.eq_of_mul_eq_mul_right (by omega) (show ((s : Nat) : Int) * m.mod ^ n = ((t : Nat) : Int) * m.mod ^ n by omega)
 omega
theorem vis_pw {m : MapM} (hm : OkM m) : ∀ (d n : Nat) (r : Int), 0 ≤ r → r < m.mod ^ n → (∀ j, j + 1 = n → ffal m r j = 0) →
  (visA m d n r).1.Pairwise (fun a b => a.rest ≠ b.rest) ∧ (visA m d n r).2.Pairwise (fun a b => a ≠ b) := by
 intro d
 induction d with
 | zero =>
  intro n r h0 h1 hff
  by_cases hf : fallN m r n
  ·rw [vis_fall hf]; exact ⟨by simp, by simp⟩
  ·rw [vis_left hf rfl]; exact ⟨by simp, by simp⟩
 | succ d ih =>
  intro n r h0 h1 hff
  by_cases hf : fallN m r n
  ·rw [vis_fall hf]; exact ⟨by simp, by simp⟩
  ·rw [vis_more hf rfl]
   have hz := ffal_n hff hf
   unfold visU
   have hq : ∀ t : Nat, t < m.mod.toNat → (0 ≤ r + ((t : Nat) : Int) * m.mod ^ n ∧ r + ((t : Nat) : Int) * m.mod ^ n < m.mod ^ (n + 1)) ∧ ∀ j, j + 1 = n + 1 → ffal m (r + ((t : Nat) : Int) * m.mod ^ n) j = 0 := fun t ht => by
    have e : (r + ((t : Nat) : Int) * m.mod ^ n) % m.mod ^ n = r := by rw [Int.add_mul_emod_self_right, Int.emod_eq_of_lt h0 h1]
    refine ⟨vis_rest hm h0 h1 ht, fun j hj => ?_⟩
    obtain rfl : j = n := by omega
    rw [← ffal_mod hm, e]; exact hz
   constructor
   ·refine visT_pw1 (fun t ht => (ih _ _ (hq t ht).1.1 (hq t ht).1.2 (hq t ht).2).1) fun s t hs ht a ha b hb e => ?_
    obtain ⟨i, x, -, -, hx, -, rfl⟩ := ((vis_mem hm d _ _ (hq s (by omega)).1.1 (hq s (by omega)).1.2 (hq s (by omega)).2).1 a).1 ha
    obtain ⟨j, y, -, -, hy, -, rfl⟩ := ((vis_mem hm d _ _ (hq t ht).1.1 (hq t ht).1.2 (hq t ht).2).1 b).1 hb
    have e : x = y := e
    rw [e, hy] at hx
    exact rt_ne hm hs hx.symm
   ·refine visT_pw2 (fun t ht => (ih _ _ (hq t ht).1.1 (hq t ht).1.2 (hq t ht).2).2) fun s t hs ht a ha b hb e => ?_
    have hx := ((vis_mem hm d _ _ (hq s (by omega)).1.1 (hq s (by omega)).1.2 (hq s (by omega)).2).2 a).1 ha
    have hy := ((vis_mem hm d _ _ (hq t ht).1.1 (hq t ht).1.2 (hq t ht).2).2 b).1 hb
    rw [e] at hx
    exact rt_ne hm hs (hx.2.1.symm.trans hy.2.1)
theorem insS_perm {α : Type} (key : α → Int) (x : α) : ∀ l : List α, (insS key x l).Perm (x :: l)
 | [] => List.Perm.refl _
 | y :: r => by
  rw [insS]
  split
  ·exact ((insS_perm key x r).cons y).trans (List.Perm.swap x y r)
  ·exact List.Perm.refl _
theorem srt_perm {α : Type} (key : α → Int) : ∀ l : List α, (srt key l).Perm l
 | [] => List.Perm.refl _
 | x :: r => (insS_perm key x _).trans ((srt_perm key r).cons x)
def lexF (a b : Fal) : Prop := a.steps < b.steps ∨ a.steps = b.steps ∧ a.rest < b.rest
theorem sieF_strict {m : MapM} (hm : OkM m) (k : Nat) : (sieF m k).Pairwise lexF := by
 have h := (vis_pw hm k 0 0 (Int.le_refl _) (by rw [Int.pow_zero]; decide) (fun j hj => by omega)).1
 have h1 : (sieF m k).Pairwise (fun a b => a.rest ≠ b.rest) := (((srt_perm _ _).trans (srt_perm _ _)).pairwise_iff (fun e => Ne.symm e)).2 h
 have h2 : (sieF m k).Pairwise (fun a b => a.steps < b.steps ∨ a.steps = b.steps ∧ a.rest ≤ b.rest) := srt_lex srt_srt
 refine (h1.and h2).imp fun {a b} h => ?_
 obtain ⟨q, e | ⟨e, e2⟩⟩ := h
 ·exact .inl e
 ·exact .inr ⟨e, by omega⟩
theorem sieL_strict {m : MapM} (hm : OkM m) (k : Nat) : (sieL m k).Pairwise (fun a b => a < b) := by
 have h := (vis_pw hm k 0 0 (Int.le_refl _) (by rw [Int.pow_zero]; decide) (fun j hj => by omega)).2
 have h1 : (sieL m k).Pairwise (fun a b => a ≠ b) := ((srt_perm _ _).pairwise_iff (fun e => Ne.symm e)).2 h
 have h2 : (sieL m k).Pairwise (fun a b => a ≤ b) := srt_srt (key := fun x : Int => x)
 exact (h1.and h2).imp fun {a b} h => by omega
theorem sieF_mem {m : MapM} (hm : OkM m) (k : Nat) (f : Fal) : f ∈ sieF m k ↔ ∃ (i : Nat) (x : Int), (1 ≤ i ∧ i ≤ k) ∧ (0 ≤ x ∧ x < m.mod ^ i) ∧ ffal m x i = i ∧ f = fAt m i x := by
 unfold sieF
 rw [srt_mem, srt_mem, (vis_mem hm k 0 0 (Int.le_refl _) (by rw [Int.pow_zero]; decide) (fun j hj => by omega)).1]
 constructor
 ·rintro ⟨i, x, ⟨a1, a2, a3⟩, hx, -, hi, he⟩; exact ⟨i, x, ⟨a3, by omega⟩, hx, hi, he⟩
 ·rintro ⟨i, x, ⟨a1, a2⟩, hx, hi, he⟩; exact ⟨i, x, ⟨by omega, by omega, a1⟩, hx, by rw [Int.pow_zero, Int.emod_one], hi, he⟩
theorem sieL_mem {m : MapM} (hm : OkM m) (k : Nat) (x : Int) : x ∈ sieL m k ↔ (0 ≤ x ∧ x < m.mod ^ k) ∧ ffal m x k = 0 := by
 unfold sieL
 rw [srt_mem, (vis_mem hm k 0 0 (Int.le_refl _) (by rw [Int.pow_zero]; decide) (fun j hj => by omega)).2, Nat.zero_add]
 constructor
 ·rintro ⟨hx, -, hi⟩; exact ⟨hx, hi⟩
 ·rintro ⟨hx, hi⟩; exact ⟨hx, by rw [Int.pow_zero, Int.emod_one], hi⟩
theorem rF_mem {m : MapM} {i : Nat} (hi : 1 ≤ i) {f : Fal} : ∀ {R : Nat}, f ∈ rF m i R ↔ ∃ x : Int, (0 ≤ x ∧ x < R) ∧ ffal m x i = i ∧ f = fAt m i x
 | 0 => by
  rw [rF]
  constructor
  ·intro h; simp at h
  ·rintro ⟨x, ⟨h1, h2⟩, -⟩; omega
 | R + 1 => by
  rw [rF, List.mem_append, rF_mem hi]
  constructor
  ·rintro (⟨x, ⟨h1, h2⟩, h3⟩ | h)
   ·exact ⟨x, ⟨h1, by omega⟩, h3⟩
   ·split at h
    ·rename_i e
     rw [List.mem_singleton] at h
     refine ⟨((R : Nat) : Int), ⟨by omega, by omega⟩, e, ?_⟩
     rw [h, fln_yes (by omega), e]; rfl
    ·simp at h
  ·rintro ⟨x, ⟨h1, h2⟩, h3, h4⟩
   by_cases e : x = ((R : Nat) : Int)
   ·right
    subst e
    rw [if_pos h3, List.mem_singleton, h4, fln_yes (by omega), h3]; rfl
   ·exact .inl ⟨x, ⟨h1, by omega⟩, h3, h4⟩
theorem rL_mem {m : MapM} {K : Nat} {x : Int} : ∀ {R : Nat}, x ∈ rL m K R ↔ (0 ≤ x ∧ x < R) ∧ ffal m x K = 0
 | 0 => by
  rw [rL]
  constructor
  ·intro h; simp at h
  ·rintro ⟨⟨h1, h2⟩, -⟩; omega
 | R + 1 => by
  rw [rL, List.mem_append, rL_mem]
  constructor
  ·rintro (⟨⟨h1, h2⟩, h3⟩ | h)
   ·exact ⟨⟨h1, by omega⟩, h3⟩
   ·split at h
    ·rename_i e
     rw [List.mem_singleton] at h
     subst h
     exact ⟨⟨by omega, by omega⟩, e⟩
    ·simp at h
  ·rintro ⟨⟨h1, h2⟩, h3⟩
   by_cases e : x = ((R : Nat) : Int)
   ·right
    subst e
    rw [if_pos h3, List.mem_singleton]
   ·exact .inl ⟨⟨h1, by omega⟩, h3⟩
theorem rF_strict {m : MapM} {i : Nat} (hi : 1 ≤ i) : ∀ R, (rF m i R).Pairwise lexF
 | 0 => List.Pairwise.nil
 | R + 1 => by
  rw [rF]
  refine List.pairwise_append.2 ⟨rF_strict hi R, by split <;> simp, fun a ha b hb => ?_⟩
  obtain ⟨x, ⟨h1, h2⟩, -, rfl⟩ := (rF_mem hi).1 ha
  split at hb
  ·rw [List.mem_singleton] at hb
   subst hb
   exact .inr ⟨rfl, h2⟩
  ·simp at hb
theorem rL_strict {m : MapM} {K : Nat} : ∀ R, (rL m K R).Pairwise (fun a b => a < b)
 | 0 => List.Pairwise.nil
 | R + 1 => by
  rw [rL]
  refine List.pairwise_append.2 ⟨rL_strict R, by split <;> simp, fun a ha b hb => ?_⟩
  have h := (rL_mem.1 ha).1
  split at hb
  ·rw [List.mem_singleton] at hb
   subst hb
   exact h.2
  ·simp at hb
theorem refFi_mem {m : MapM} (hm : OkM m) {f : Fal} : ∀ {k : Nat}, f ∈ refFi m k ↔ ∃ (i : Nat) (x : Int), (1 ≤ i ∧ i ≤ k) ∧ (0 ≤ x ∧ x < m.mod ^ i) ∧ ffal m x i = i ∧ f = fAt m i x
 | 0 => by
  rw [refFi]
  constructor
  ·intro h; simp at h
  ·rintro ⟨i, x, ⟨h1, h2⟩, -⟩; omega
 | k + 1 => by
  have hp : 0 < m.mod ^ (k + 1) := Int.pow_pos (by have := hm.1; omega)
  rw [refFi, List.mem_append, refFi_mem hm, rF_mem (by omega), Int.toNat_of_nonneg (Int.le_of_lt hp)]
  constructor
  ·rintro (⟨i, x, ⟨h1, h2⟩, h3⟩ | ⟨x, h1, h2, h3⟩)
   ·exact ⟨i, x, ⟨h1, by omega⟩, h3⟩
   ·exact ⟨k + 1, x, ⟨by omega, by omega⟩, h1, h2, h3⟩
  ·rintro ⟨i, x, ⟨h1, h2⟩, h3, h4, h5⟩
   by_cases e : i = k + 1
   ·subst e; exact .inr ⟨x, h3, h4, h5⟩
   ·exact .inl ⟨i, x, ⟨h1, by omega⟩, h3, h4, h5⟩
theorem refFi_strict {m : MapM} (hm : OkM m) : ∀ k, (refFi m k).Pairwise lexF
 | 0 => List.Pairwise.nil
 | k + 1 => by
  rw [refFi]
  refine List.pairwise_append.2 ⟨refFi_strict hm k, rF_strict (by omega) _, fun a ha b hb => ?_⟩
  obtain ⟨i, x, ⟨h1, h2⟩, -, -, rfl⟩ := (refFi_mem hm).1 ha
  obtain ⟨y, -, -, rfl⟩ := (rF_mem (by omega)).1 hb
  left
  show ((i : Nat) : Int) < ((k + 1 : Nat) : Int)
  omega
theorem sieF_ref {m : MapM} (hm : OkM m) (k : Nat) : sieF m k = refFi m k :=
 strict_eq (lt := lexF) (fun a h => by rcases h with h | ⟨h, h2⟩ <;> omega) (fun a b c h1 h2 => by
  rcases h1 with h1 | ⟨h1, h3⟩ <;> rcases h2 with h2 | ⟨h2, h4⟩
  ·exact .inl (by omega)
  ·exact .inl (by omega)
  ·exact .inl (by omega)
  ·exact .inr ⟨by omega, by omega⟩) (sieF_strict hm k) (refFi_strict hm k) fun f => by rw [sieF_mem hm, refFi_mem hm]
theorem sieL_ref {m : MapM} (hm : OkM m) (k : Nat) : sieL m k = rL m k (m.mod ^ k).toNat :=
 strict_eq (lt := fun a b : Int => a < b) (fun a h => by omega) (fun a b c h1 h2 => by omega) (sieL_strict hm k) (rL_strict _) fun x => by
  rw [sieL_mem hm, rL_mem, Int.toNat_of_nonneg (Int.le_of_lt (Int.pow_pos (by have := hm.1; omega)))]
end Go.Mth

namespace Go.Proofs.YtjbaamfahkjhgaaGreatDoor
open Go Go.Ab Go.Mth
theorem f170_ : callable cx.P 9 = true := by kernel_rfl
theorem f171_ : callable cx.P 11 = true := by kernel_rfl
theorem f172_ : callable cx.P 14 = true := by kernel_rfl
theorem f173_ : callable cx.P 15 = true := by kernel_rfl
theorem f174_ : callable cx.P 13 = true := by kernel_rfl
theorem c_SieveTells_y (m : MapM) (K : Nat) (hM : OkM m) (hmy : mayS m (K : Int)) (h1m : m.mul.length ≤ 17592186044416) (h2m : m.add.length ≤ 17592186044416) : ECalls cx 3 [mapV m, Nv K] (.lit (.bool true)) := by
 refine ecalls_of_awp Tryz.func3 (c := _) rfl (Nat.le_of_ble_eq_true rfl) ?_
 show awp cx 98 _ (postF cx Tryz.f3 _) ⟨[(0, mapV m), (1, Nv K)], []⟩
 have hkp : m.mod ^ K ≤ 65536 := hmy.2.2
 have hk16 : K ≤ 16 := may_16 hM hkp
 have hVl := vis_len hM K 0 0
 have hpd : m.mod.toNat ^ K ≤ 65536 := toNat_pow hM hkp
 have hFl : (sieF m K).length ≤ 65536 := by unfold sieF; rw [srt_len, srt_len]; omega
 refine awp_seq fun K0 hK0 => awp_region rfl ?_
 refine o_box 2 [Iv m.mod, Lv m.mul, Lv m.add] Gd.none rfl rfl ?_
 refine o_as Fv rfl ?_
 refine aops_end (hK0 _ (awp_seq fun K1 hK1 => awp_region rfl ?_))
 refine o_loadA [Iv m.mod, Lv m.mul, Lv m.add] Gd.none f64_ rfl rfl rfl rfl rfl ?_
 refine o_ct (c_gTwin m (by omega) (by omega)) Gd.none f170_ rfl ?_
 refine o_alloc 3 [Nv 0, Zv, Zv] Gd.none f68_ rfl rfl rfl ?_
 refine o_store [(3, oM 24 m), (2, oM 24 m)] Gd.none f70_ rfl rfl rfl rfl rfl rfl ?_
 refine aops_end (hK1 _ (awp_seq fun K2 hK2 => awp_region rfl ?_))
 refine o_loadA [Iv m.mod, Lv m.mul, Lv m.add] Gd.none f64_ rfl rfl rfl rfl rfl ?_
 refine o_mv (Nv K) rfl ?_
 refine o_ct (c_sSieveL m K hM hmy) Gd.none f164_ rfl ?_
 refine o_mv (.tup [.sl 6 (gcells cL (sieF m K)), Lv (sieL m K), Nv 0]) rfl ?_
 refine o_extract (.sl 6 (gcells cL (sieF m K))) Gd.none rfl rfl ?_
 refine o_extract (Lv (sieL m K)) Gd.none rfl rfl ?_
 refine o_extract (Nv 0) Gd.none rfl rfl ?_
 refine o_as (.sl 6 (gcells cL (sieF m K))) rfl ?_
 refine o_as (Lv (sieL m K)) rfl ?_
 refine o_as (Nv 0) rfl ?_
 refine aops_end (hK2 _ (awp_seq fun K3 hK3 => ?_))
 refine awp_block ?_
 refine awp_seq fun K4 hK4 => awp_region rfl ?_
 refine o_loadA [Iv m.mod, Lv m.mul, Lv m.add] Gd.none f64_ rfl rfl rfl rfl rfl ?_
 refine o_loadA [Iv m.mod, Lv m.mul, Lv m.add] Gd.none f64_ rfl rfl rfl rfl rfl ?_
 refine o_ct (c_gSame m m) Gd.none f171_ rfl ?_
 refine o_notP (q := m = m) Gd.none rfl ?_
 refine o_as (bp (¬ (m = m))) rfl ?_
 refine aops_end (hK4 _ ?_)
 refine awp_condB (b := decide (¬ (m = m))) rfl (fun hh => absurd (hh.symm.trans (decide_eq_false (fun h => h rfl))) (by decide)) (fun _ => ?_)
 refine awp_seq fun K5 hK5 => awp_region rfl ?_
 refine o_loadA [Iv m.mod, Lv m.mul, Lv m.add] Gd.none f64_ rfl rfl rfl rfl rfl ?_
 refine o_ct (c_gValid m) Gd.none f116_ rfl ?_
 refine n_as (v' := Tv) (by exact congrArg (fun b => AV.lit (.bool b)) (okM_iff.2 hM)) ?_
 refine o_not (b := true) Gd.none rfl ?_
 refine o_as Fv rfl ?_
 refine aops_end (hK5 _ ?_)
 refine awp_condB (b := false) rfl (fun hh => absurd (hh.symm.trans rfl) (by decide)) (fun _ => ?_)
 refine awp_seq fun K6 hK6 => awp_region rfl ?_
 refine o_loadA [Iv m.mod, Lv m.mul, Lv m.add] Gd.none f64_ rfl rfl rfl rfl rfl ?_
 refine o_mv (Nv K) rfl ?_
 refine o_ct (c_may m ((K : Nat) : Int) (by omega)) Gd.none f172_ rfl ?_
 refine n_as (v' := Tv) (by exact bpy ⟨okM_iff.2 hM, hmy⟩) ?_
 refine o_not (b := true) Gd.none rfl ?_
 refine o_as Fv rfl ?_
 refine aops_end (hK6 _ ?_)
 refine awp_condB (b := false) rfl (fun hh => absurd (hh.symm.trans rfl) (by decide)) (fun _ => ?_)
 refine awp_skip (hK3 _ (awp_seq fun K7 hK7 => awp_region rfl ?_))
 refine o_loadA [Iv m.mod, Lv m.mul, Lv m.add] Gd.none f64_ rfl rfl rfl rfl rfl ?_
 refine o_mv (Nv K) rfl ?_
 refine o_call [mapV m, Nv K] (.tup [.sl 6 (gcells cL (sieF m K)), Lv (sieL m K)]) Gd.none f173_ rfl (by have h := c_vSieve m (K : Int) hM hmy; rw [Int.toNat_natCast, ← sieF_ref hM, ← sieL_ref hM] at h; exact h) ?_
 refine o_mv (.tup [.sl 6 (gcells cL (sieF m K)), Lv (sieL m K)]) rfl ?_
 refine o_extract (.sl 6 (gcells cL (sieF m K))) Gd.none rfl rfl ?_
 refine o_extract (Lv (sieL m K)) Gd.none rfl rfl ?_
 refine o_as (.sl 6 (gcells cL (sieF m K))) rfl ?_
 refine o_as (Lv (sieL m K)) rfl ?_
 refine aops_end (hK7 _ (awp_seq fun K8 hK8 => awp_seq fun K9 hK9 => awp_region rfl (o_mv (Nv 0) rfl ?_)))
 refine n_neq 0 0 Gd.none rfl rfl ?_
 refine n_as (v' := Fv) (by exact bpn (fun h => h rfl)) ?_
 refine o_mv Fv rfl ?_
 refine o_move (Lv (sieL m K)) (Gd.yes rfl rfl rfl) rfl ?_
 refine o_move (Lv (sieL m K)) (Gd.yes rfl rfl rfl) rfl ?_
 refine o_ct (c_gAlike (sieL m K) (sieL m K)) (Gd.yes rfl rfl rfl) f67_ rfl ?_
 refine n_as (v' := Tv) (by exact bpy rfl) ?_
 refine o_not (b := true) (Gd.yes rfl rfl rfl) rfl ?_
 refine o_pickF Fv Gd.none rfl rfl rfl ?_
 refine o_mv Fv rfl ?_
 refine o_move (.sl 6 (gcells cL (sieF m K))) (Gd.yes rfl rfl rfl) rfl ?_
 refine g_len cL (sieF m K) cL_len (Gd.yes rfl rfl rfl) f135_ rfl ?_
 refine o_move (.sl 6 (gcells cL (sieF m K))) (Gd.yes rfl rfl rfl) rfl ?_
 refine g_len cL (sieF m K) cL_len (Gd.yes rfl rfl rfl) f135_ rfl ?_
 refine n_neq ((sieF m K).length) ((sieF m K).length) (Gd.yes rfl rfl rfl) rfl rfl ?_
 refine n_as (v' := Fv) (by exact bpn (fun h => h rfl)) ?_
 refine o_pickF Fv Gd.none rfl rfl rfl ?_
 refine aops_end (hK9 _ ?_)
 refine awp_condB (b := false) rfl (fun hh => absurd (hh.symm.trans rfl) (by decide)) (fun _ => ?_)
 refine awp_skip (hK8 _ (awp_seq fun K10 hK10 => awp_seq fun K11 hK11 => awp_region rfl ?_))
 refine o_as (Nv 0) rfl ?_
 refine aops_end (hK11 _ ?_)
 refine awp_block ?_
 refine awp_loopR (fun κ σ => ∃ (i : Nat), (i ≤ (sieF m K).length) ∧ ((sieF m K).length - i) = κ ∧ σ = ⟨[(6, .sl 6 (gcells cL (sieF m K))), (9, .sl 6 (gcells cL (sieF m K))), (11, Nv i)], []⟩) ⟨_, _, ⟨0, Nat.zero_le _, rfl, rfl⟩, ?wk0⟩ ?rd0
 case wk0 =>
  exact Wk.sub ⟨rfl, rfl, (by rfl), trivial⟩ trivial
 rintro κ _ ⟨i, hi, rfl, rfl⟩
 refine awp_seq fun K12 hK12 => awp_seq fun K13 hK13 => awp_region rfl (o_mv (Nv i) rfl (o_mv (.sl 6 (gcells cL (sieF m K))) rfl ?_))
 refine g_len cL (sieF m K) cL_len Gd.none f135_ rfl ?_
 refine n_lss i ((sieF m K).length) Gd.none rfl rfl ?_
 refine aops_end (hK13 _ ?_)
 refine awp_condQ (q := i < ((sieF m K).length)) rfl (fun h1 => ?_) (fun h1 => ?_)
 ·refine awp_skip (hK12 _ (awp_seq fun K14 hK14 => ?_))
  refine awp_block ?_
  refine awp_seq fun K15 hK15 => awp_regionD rfl (o_mv (.sl 6 (gcells cL (sieF m K))) rfl (o_mv (Nv i) rfl ?_))
  refine g_index cL (sieF m K) i cL_len rfl Gd.none f118_ rfl rfl (by omega) ?_
  refine g_loadA cL (sieF m K) i default cL_len Gd.none f109_ rfl (by omega) ?_
  refine o_mv (.sl 6 (gcells cL (sieF m K))) rfl (o_mv (Nv i) rfl ?_)
  refine g_index cL (sieF m K) i cL_len rfl Gd.none f118_ rfl rfl (by omega) ?_
  refine g_loadA cL (sieF m K) i default cL_len Gd.none f109_ rfl (by omega) ?_
  refine o_neqA [.int .i64 (((sieF m K).getD i default).steps), .int .i64 (((sieF m K).getD i default).rest), .string (((sieF m K).getD i default).lmul), .string (((sieF m K).getD i default).ladd), .string (((sieF m K).getD i default).ldiv), .string (((sieF m K).getD i default).bound)] [.int .i64 (((sieF m K).getD i default).steps), .int .i64 (((sieF m K).getD i default).rest), .string (((sieF m K).getD i default).lmul), .string (((sieF m K).getD i default).ladd), .string (((sieF m K).getD i default).ldiv), .string (((sieF m K).getD i default).bound)] ((((sieF m K).getD i default).steps) = (((sieF m K).getD i default).steps) ∧ (((sieF m K).getD i default).rest) = (((sieF m K).getD i default).rest) ∧ (((sieF m K).getD i default).lmul) = (((sieF m K).getD i default).lmul) ∧ (((sieF m K).getD i default).ladd) = (((sieF m K).getD i default).ladd) ∧ (((sieF m K).getD i default).ldiv) = (((sieF m K).getD i default).ldiv) ∧ (((sieF m K).getD i default).bound) = (((sieF m K).getD i default).bound)) Gd.none rfl rfl (eq_api_Fall _ _ _ _ _ _ _ _ _ _ _ _) ?_
  refine n_as (v' := Fv) (by exact bpn (fun h => h ⟨rfl, rfl, rfl, rfl, rfl, rfl⟩)) ?_
  refine aops_end ⟨by kernel_rfl, ?_⟩
  refine hK15 _ ?_
  refine awp_condB (b := false) rfl (fun hh => absurd (hh.symm.trans rfl) (by decide)) (fun _ => ?_)
  refine awp_skip (hK14 _ (awp_region rfl (o_mv (Nv i) rfl ?_)))
  refine n_add i 1 Gd.none rfl rfl (by simp only [topOf]; omega) ?_
  refine o_as (Nv (i + 1)) rfl ?_
  refine aops_end ?_
  refine ⟨_, _, ?lt, ⟨i + 1, (by omega), rfl, rfl⟩, ?wk⟩
  case lt => omega
  case wk => exact Wk.sub ⟨rfl, rfl, (by rfl), trivial⟩ trivial
 ·refine awp_exit ?_
  refine hK10 _ (awp_seq fun K16 hK16 => awp_region rfl ?_)
  refine o_ct c_awake4 Gd.none f174_ rfl ?_
  refine o_as Tv rfl ?_
  refine aops_end (hK16 _ ?_)
  refine awp_ret ?_
  refine post_ret ⟨[Tv], ⟨AV.le_refl _, trivial⟩, rfl, ?_⟩
  rfl

theorem c_SieveTells_n (m : MapM) (k : Int) (hkb : k ≤ 9223372036854775807) (hE : chkE m k ≠ 0) (h1m : m.mul.length ≤ 17592186044416) (h2m : m.add.length ≤ 17592186044416) : ECalls cx 3 [mapV m, Iv k] (.lit (.bool true)) := by
 refine ecalls_of_awp Tryz.func3 (c := _) rfl (Nat.le_of_ble_eq_true rfl) ?_
 show awp cx 98 _ (postF cx Tryz.f3 _) ⟨[(0, mapV m), (1, Iv k)], []⟩
 refine awp_seq fun K0 hK0 => awp_region rfl ?_
 refine o_box 2 [Iv m.mod, Lv m.mul, Lv m.add] Gd.none rfl rfl ?_
 refine o_as Fv rfl ?_
 refine aops_end (hK0 _ (awp_seq fun K1 hK1 => awp_region rfl ?_))
 refine o_loadA [Iv m.mod, Lv m.mul, Lv m.add] Gd.none f64_ rfl rfl rfl rfl rfl ?_
 refine o_ct (c_gTwin m (by omega) (by omega)) Gd.none f170_ rfl ?_
 refine o_alloc 3 [Nv 0, Zv, Zv] Gd.none f68_ rfl rfl rfl ?_
 refine o_store [(3, oM 24 m), (2, oM 24 m)] Gd.none f70_ rfl rfl rfl rfl rfl rfl ?_
 refine aops_end (hK1 _ (awp_seq fun K2 hK2 => awp_region rfl ?_))
 refine o_loadA [Iv m.mod, Lv m.mul, Lv m.add] Gd.none f64_ rfl rfl rfl rfl rfl ?_
 refine o_mv (Iv k) rfl ?_
 refine o_ct (c_sSieveE m k hkb hE) Gd.none f164_ rfl ?_
 refine o_mv (.tup [Zv, Zv, Nv (chkE m k)]) rfl ?_
 refine o_extract Zv Gd.none rfl rfl ?_
 refine o_extract Zv Gd.none rfl rfl ?_
 refine o_extract (Nv (chkE m k)) Gd.none rfl rfl ?_
 refine o_as Zv rfl ?_
 refine o_as Zv rfl ?_
 refine o_as (Nv (chkE m k)) rfl ?_
 refine aops_end (hK2 _ (awp_seq fun K3 hK3 => ?_))
 refine awp_block ?_
 refine awp_seq fun K4 hK4 => awp_region rfl ?_
 refine o_loadA [Iv m.mod, Lv m.mul, Lv m.add] Gd.none f64_ rfl rfl rfl rfl rfl ?_
 refine o_loadA [Iv m.mod, Lv m.mul, Lv m.add] Gd.none f64_ rfl rfl rfl rfl rfl ?_
 refine o_ct (c_gSame m m) Gd.none f171_ rfl ?_
 refine o_notP (q := m = m) Gd.none rfl ?_
 refine o_as (bp (¬ (m = m))) rfl ?_
 refine aops_end (hK4 _ ?_)
 refine awp_condB (b := decide (¬ (m = m))) rfl (fun hh => absurd (hh.symm.trans (decide_eq_false (fun h => h rfl))) (by decide)) (fun _ => ?_)
 refine awp_seq fun K5 hK5 => awp_region rfl ?_
 refine o_loadA [Iv m.mod, Lv m.mul, Lv m.add] Gd.none f64_ rfl rfl rfl rfl rfl ?_
 refine o_ct (c_gValid m) Gd.none f116_ rfl ?_
 refine o_not (b := okM m) Gd.none rfl ?_
 refine o_as (.lit (.bool (!(okM m)))) rfl ?_
 refine aops_end (hK5 _ ?_)
 refine awp_condB (b := !(okM m)) rfl (fun h1 => ?_) (fun h1 => ?_)
 ·refine awp_seq fun K6 hK6 => ?_
  have hM' : ¬ okM m = true := by have q := h1; simpa using q
  have hc := chk_1 (k := k) hM'
  refine awp_region rfl (o_mv Zv rfl ?_)
  refine o_lenNil Gd.none f135_ rfl ?_
  refine o_mv Zv rfl ?_
  refine o_lenNil Gd.none f2_ rfl ?_
  refine n_add 0 0 Gd.none rfl rfl (by simp only [topOf]; omega) ?_
  refine n_eql (0 + 0) 0 Gd.none rfl rfl ?_
  refine n_as (v' := Tv) (by exact bpy rfl) ?_
  refine o_mv Tv rfl ?_
  refine o_move (Nv (chkE m k)) (Gd.yes rfl rfl rfl) rfl ?_
  refine n_as (v' := (Nv 1)) (by exact congrArg (nm _) hc) ?_
  refine n_eql 1 1 (Gd.yes rfl rfl rfl) rfl rfl ?_
  refine n_as (v' := Tv) (by exact bpy rfl) ?_
  refine o_pickT Tv Gd.none rfl rfl rfl ?_
  refine o_mv Tv rfl ?_
  refine o_ct c_awake4 (Gd.yes rfl rfl rfl) f174_ rfl ?_
  refine o_pickT Tv Gd.none rfl rfl rfl ?_
  refine o_as Tv rfl ?_
  refine aops_end (hK6 _ ?_)
  refine awp_ret ?_
  refine post_ret ⟨[Tv], ⟨AV.le_refl _, trivial⟩, rfl, ?_⟩
  rfl
 ·refine awp_seq fun K7 hK7 => awp_region rfl ?_
  refine o_loadA [Iv m.mod, Lv m.mul, Lv m.add] Gd.none f64_ rfl rfl rfl rfl rfl ?_
  refine o_mv (Iv k) rfl ?_
  refine o_ct (c_may m k (by assumption)) Gd.none f172_ rfl ?_
  refine n_as (v' := Fv) (by exact bpn (fun e => hE (chk_0 e.1 e.2))) ?_
  refine o_not (b := false) Gd.none rfl ?_
  refine o_as Tv rfl ?_
  refine aops_end (hK7 _ ?_)
  refine awp_condB (b := true) rfl (fun _ => ?_) (fun hh => absurd (hh.symm.trans rfl) (by decide))
  refine awp_seq fun K8 hK8 => ?_
  have hM' : okM m = true := by have q := h1; simpa using q
  have hc := chk_2 (k := k) hM' (fun e => hE (chk_0 hM' e))
  refine awp_region rfl (o_mv Zv rfl ?_)
  refine o_lenNil Gd.none f135_ rfl ?_
  refine o_mv Zv rfl ?_
  refine o_lenNil Gd.none f2_ rfl ?_
  refine n_add 0 0 Gd.none rfl rfl (by simp only [topOf]; omega) ?_
  refine n_eql (0 + 0) 0 Gd.none rfl rfl ?_
  refine n_as (v' := Tv) (by exact bpy rfl) ?_
  refine o_mv Tv rfl ?_
  refine o_move (Nv (chkE m k)) (Gd.yes rfl rfl rfl) rfl ?_
  refine n_as (v' := (Nv 2)) (by exact congrArg (nm _) hc) ?_
  refine n_eql 2 2 (Gd.yes rfl rfl rfl) rfl rfl ?_
  refine n_as (v' := Tv) (by exact bpy rfl) ?_
  refine o_pickT Tv Gd.none rfl rfl rfl ?_
  refine o_mv Tv rfl ?_
  refine o_ct c_awake4 (Gd.yes rfl rfl rfl) f174_ rfl ?_
  refine o_pickT Tv Gd.none rfl rfl rfl ?_
  refine o_as Tv rfl ?_
  refine aops_end (hK8 _ ?_)
  refine awp_ret ?_
  refine post_ret ⟨[Tv], ⟨AV.le_refl _, trivial⟩, rfl, ?_⟩
  rfl

end Go.Proofs.YtjbaamfahkjhgaaGreatDoor

namespace Go.Proofs.YtjbaamfahkjhgaaGreatDoor.sieveTells
open Go Go.Ab Go.Mth Go.ChangeShapes Go.WideShapes Go.ChangeAt Go.RowKit
theorem c_SieveTells (m : MapM) (k : Int) (h1m : m.mul.length ≤ 17592186044416) (h2m : m.add.length ≤ 17592186044416) (hkb : -9223372036854775808 ≤ k ∧ k ≤ 9223372036854775807) : ECalls cx 3 [(mapV m), (AV.lit (.int .i64 (k)))] (.lit (.bool true)) := by
 by_cases h : okM m = true ∧ mayS m k
 ·have hk1 := h.2.2.1
  obtain ⟨K, rfl⟩ : ∃ K : Nat, k = (K : Int) := ⟨k.toNat, by omega⟩
  exact c_SieveTells_y m K (okM_iff.1 h.1) h.2 h1m h2m
 ·refine c_SieveTells_n m k hkb.2 (fun e => ?_) h1m h2m
  by_cases hm : okM m = true
  ·rw [chk_2 hm (fun q => h ⟨hm, q⟩)] at e; cases e
  ·rw [chk_1 hm] at e; cases e
theorem reads (os : Os) {H : Type} (enc : TypeId × Value → H) : ∃ places, DataW.whole enc Tryz.prog ((World.laidAll Tryz.prog os laid5).forCall (fun _ _ => 0) ⟨#[], #[.agg #[.int .i64 0, .slice none 0 0, .slice none 0 0], .int .i64 0], []⟩).memory Tryz.f3.params.toList Rows.sieveTellsSpec.vars false (#[.agg #[.int .i64 0, .slice none 0 0, .slice none 0 0], .int .i64 0] : Array Value).toList 8 = some ([.agg [.lit (.int .i64 0), .nil, .nil], .lit (.int .i64 0)], [], places) := ⟨[], by kernel_rfl⟩
theorem met (os : Os) : laidMetH Tryz.prog laid5 ((World.laidAll Tryz.prog os laid5).forCall (fun _ _ => 0) ⟨#[], #[.agg #[.int .i64 0, .slice none 0 0, .slice none 0 0], .int .i64 0], []⟩).memory := (MakeChecks.laidMetH_plain _ _ _ (by kernel_rfl)).mpr (laidMet_laidAll _ (by kernel_rfl) (by kernel_rfl))
theorem specs {H : Type} (ds : List (DataW H)) (h : ds.length = 2) : (Rows.sieveTellsSpec.fn H ds).results = [.lit (.bool true)] ∧ (Rows.sieveTellsSpec.fn H ds).args = ds ∧ (Rows.sieveTellsSpec.fn H ds).vars = [] := by
 rcases ds with _ | ⟨d0, _ | ⟨d1, _ | ⟨e, t⟩⟩⟩ <;> simp at h <;> exact ⟨rfl, rfl, rfl⟩
set_option maxRecDepth 100000 in
theorem opened {H : Type} (enc : TypeId × Value → H) (W : World) (base : Nat) (args : Array Value) (ds : List (DataW H)) (ps : List MemPlace) (hval : ∀ (j : Nat) t v, (#[24, 3] : Array TypeId)[j]? = some t → args[j]? = some v → Value.okWide Tryz.prog W .any base t v)
  (hA : DataW.TrodAll enc Tryz.prog W 0 (fun _ => true) true [24, 3] args.toList ds ps) (hsz : (DataW.weightsEach Tryz.prog [24, 3] ds).all (· ≤ reachBytes) = true) : ∃ xs, RepL (memOf W) xs noLoc args.toList ∧ ECalls cx 3 xs (.lit (.bool true)) := by
 obtain ⟨v0, vs0, d0, ds0, p0, q0, hargs, rfl, rfl, h0, r0⟩ := trodAll_cons hA
 obtain ⟨v1, vs1, d1, ds1, p1, q1, rfl, rfl, rfl, h1, r1⟩ := trodAll_cons r0
 obtain ⟨rfl, rfl, rfl⟩ := trodAll_nil r1
 obtain rfl : args = #[v0, v1] := by cases args; simp_all
 obtain ⟨m0, e0, b0, c0⟩ := rep_map (hval 0 24 v0 rfl rfl) h0 (fun n hn => by simpa using List.all_eq_true.1 hsz n (DataW.weights_mem_each (j := 0) rfl rfl n hn))
 obtain ⟨k1, e1, b1⟩ := rep_int (hval 1 3 v1 rfl rfl) h1
 exact ⟨[mapV m0, .lit (.int .i64 k1)], RepL.cons e0 (RepL.cons e1 (by simp only [RepL])), c_SieveTells m0 k1 b0 c0 b1⟩
set_option maxRecDepth 100000 in
theorem lifted (os : Os) (started : os.Started) (H : Type) (enc : TypeId × Value → H) (F : Stop.Interp) :
  ReturnsInHanded {} Tryz.checked os 3 .any ((OpenSpec.ofChange Rows.sieveTellsSpec).preRow enc Tryz.prog Tryz.f3 Rows.sieveTellsRow.domain false Rows.sieveTellsRow.laid) (((OpenSpec.ofChange Rows.sieveTellsSpec).at F).post enc Tryz.prog Tryz.f3 false true false false) := by
 obtain ⟨places, hx⟩ := reads os enc
 refine lifted_of (C := Tryz.checked) started cx rfl ownT (by kernel_rfl) Tryz.func3 (witness_laid #[.agg #[.int .i64 0, .slice none 0 0, .slice none 0 0], .int .i64 0] (by kernel_rfl) (by kernel_rfl) (by kernel_rfl) (OpenSpec.preRow_of_cond 8 hx (by kernel_rfl) (fun k hk => by cases hk) (by kernel_rfl) (met os))) laidOutT (by kernel_rfl) (tb := 4) (by kernel_rfl) u4T rfl (fun ds h => specs ds (h.trans (by kernel_rfl))) (fun W h => tabG_of h) ?_
 intro W base args ds ps hval hA hsz
 exact opened enc W base args ds ps hval hA hsz
theorem said : Rows.SieveTellsSaid :=
 OpenClaim.holds_of_cond 3 Tryz.f3 rfl rfl rfl rfl rfl rfl rfl ⟨rfl, rfl, rfl, rfl, rfl⟩ rfl rfl rfl rfl rfl (by kernel_rfl) Tryz.func3 (by kernel_rfl)
  (of_decide_eq_true (by kernel_rfl)) (by unfold Func.isWrapper; first | (rw [if_pos (by decide +kernel)]; kernel_rfl) | (rw [if_neg (by decide +kernel)]; exact ⟨rfl, rfl⟩))
  (fun os started H enc _ F => by rw [OpenClaim.pre_eq_preRow]; exact lifted os started H enc F)
theorem plain (f : FuncId) (fn : Func) (hf : Tryz.pinned.checked.prog.funcNamed "katabasis/katabasislaw04.SieveTells" = some f) (hfn : Tryz.pinned.checked.prog.funcs[f]? = some fn) :
  true = Tryz.pinned.checked.prog.looks [] ∧ ∀ (j : Nat) t, fn.params[j]? = some t → Tryz.pinned.checked.prog.wantsStandIn t = false := by
 obtain rfl : f = 3 := Option.some.inj ((show Tryz.prog.funcNamed "katabasis/katabasislaw04.SieveTells" = some 3 by kernel_rfl).symm.trans hf) |>.symm
 obtain rfl : fn = Tryz.f3 := (Option.some.inj (Tryz.func3.symm.trans hfn)).symm
 refine ⟨by kernel_rfl, fun j t ht => ?_⟩
 rw [Tryz.params3] at ht
 have : t = 24 ∨ t = 3 := by have h := Array.mem_of_getElem? ht; simp at h; first | exact h | (rcases h with h | h | h | h <;> simp [h]) | (rcases h with h | h | h <;> simp [h]) | (rcases h with h | h <;> simp [h])
 rcases this with rfl | rfl
 ·exact (show Tryz.prog.wantsStandIn 24 = false by kernel_rfl)
 ·exact (show Tryz.prog.wantsStandIn 3 = false by kernel_rfl)
end Go.Proofs.YtjbaamfahkjhgaaGreatDoor.sieveTells
namespace Go.Proofs.YtjbaamfahkjhgaaGreatDoor
open Go
theorem sieveTells_holds : Rows.SieveTellsCardSaid :=
 Claim7.holds_tied_plain_at .later [] _ _ _ _ sieveTells.said (fun _ h => by cases h) (by kernel_rfl) (fun _ h => by cases h) sieveTells_row_tie rfl ⟨rfl, rfl⟩ (by kernel_rfl) rfl sieveTells.plain (by kernel_rfl)
#print axioms sieveTells_holds
end Go.Proofs.YtjbaamfahkjhgaaGreatDoor

