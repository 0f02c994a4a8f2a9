/- What the proof of a row of this seat leans on (part 5 of 6): a library of abstract values, walks of functions, and plain laws. -/
import Derived.Shelf.LaysM
import Derived.Shelf.LaysC
import Derived.Shelf.SlSortCmp.Whole1
import Derived.Shelf.SlSortCmp.NoneTotal
import Derived.Ground.SlsfProg
import Derived.Test.YtdmkejloknejdaaGreatDoorProg
import Derived.Lib.QuietBelow
import Derived.Test.YtdmkejloknejdaaGreatDoorPkCycleLoopsd
set_option linter.unusedVariables false
set_option linter.unusedSimpArgs false
namespace Go.Proofs.YtdmkejloknejdaaGreatDoor
open Go Go.Ab Go.Mth
theorem f116_ : callable cx.P 143 = true := by kernel_rfl
theorem f117_ : callable cx.P 115 = true := by kernel_rfl
theorem f118_ : cx.P.underlying 96 = some (.slice 90) := by kernel_rfl
theorem f119_ : tyElem cx.P 96 = some (90, 2, 32) := by kernel_rfl
theorem f120_ : callable cx.P 90 = true := by kernel_rfl
theorem f121_ : callable cx.P 89 = true := by kernel_rfl
theorem f122_ : callable cx.P 96 = true := by kernel_rfl
theorem f123_ : callable cx.P 50 = true := by kernel_rfl
theorem f124_ : callable cx.P 97 = true := by kernel_rfl
theorem c_isNaN (x : Int) : ECalls cx 143 [Iv x] Fv := by
 refine ecalls_of_awp Tryz.func143 (c := _) rfl (Nat.le_of_ble_eq_true rfl) ?_
 show awp cx 6 _ (postF cx Tryz.f143 _) ⟨[(0, Iv x)], []⟩
 refine awp_seq fun K0 hK0 => awp_region rfl (o_as Fv rfl (aops_end (hK0 _ (awp_seq fun K1 hK1 => awp_region rfl (o_mv (Iv x) rfl (o_mv (Iv x) rfl ?_))))))
 refine o_neq (a := x) (c := x) gn rfl rfl ?_
 refine n_as (v' := Fv) (by exact bpn (fun h => h rfl)) ?_
 refine o_as Fv rfl (aops_end (hK1 _ ?_))
 refine awp_ret ?_
 refine post_ret ⟨[Fv], ⟨AV.le_refl _, trivial⟩, rfl, ?_⟩
 rfl

theorem c_cmpInt (x y : Int) : ECalls cx 115 [Iv x, Iv y] (.lit (.int .i64 (cmpZ x y))) := by
 refine ecalls_of_awp Tryz.func115 (c := _) rfl (Nat.le_of_ble_eq_true rfl) ?_
 show awp cx 20 _ (postF cx Tryz.f115 _) ⟨[(0, Iv x), (1, Iv y)], []⟩
 refine awp_seq fun K0 hK0 => awp_region rfl (o_as (Nv 0) rfl (aops_end (hK0 _ (awp_seq fun K1 hK1 => awp_region rfl (o_mv (Iv x) rfl ?_)))))
 refine o_ct (c_isNaN _) gn f116_ rfl ?_
 refine o_as Fv rfl (aops_end (hK1 _ (awp_seq fun K2 hK2 => awp_region rfl (o_mv (Iv y) rfl ?_))))
 refine o_ct (c_isNaN _) gn f116_ rfl ?_
 refine o_as Fv rfl (aops_end (hK2 _ (awp_seq fun K3 hK3 => awp_seq fun K4 hK4 => awp_region rfl (o_mv Fv rfl (aops_end (hK4 _ ?_))))))
 refine awp_condB (b := false) rfl (fun hh => absurd (hh.symm.trans rfl) (by decide)) (fun _ => ?_)
 refine awp_skip (hK3 _ (awp_seq fun K5 hK5 => awp_seq fun K6 hK6 => awp_region rfl (o_mv Fv rfl (aops_end (hK6 _ ?_)))))
 refine awp_condB (b := false) rfl (fun hh => absurd (hh.symm.trans rfl) (by decide)) (fun _ => ?_)
 refine awp_skip (hK5 _ (awp_seq fun K7 hK7 => awp_seq fun K8 hK8 => awp_region rfl (o_mv (Iv x) rfl (o_mv (Iv y) rfl ?_))))
 refine o_lss (a := x) (c := y) gn rfl rfl ?_
 refine aops_end (hK8 _ ?_)
 refine awp_condQ (q := x < y) rfl (fun h1 => ?_) (fun h1 => ?_)
 ·refine awp_seq fun K9 hK9 => awp_region rfl (o_as (Iv (-1)) rfl (aops_end (hK9 _ ?_)))
  refine awp_ret ?_
  refine post_ret ⟨[Iv (-1)], ⟨AV.le_refl _, trivial⟩, rfl, ?_⟩
  exact congrArg (fun z => AV.lit (.int .i64 z)) (by unfold cmpZ; rw [if_pos (by assumption)]; all_goals rfl)
 ·refine awp_skip (hK7 _ (awp_seq fun K10 hK10 => awp_seq fun K11 hK11 => awp_region rfl (o_mv (Iv x) rfl (o_mv (Iv y) rfl ?_))))
  refine o_gtr (a := x) (c := y) gn rfl rfl ?_
  refine aops_end (hK11 _ ?_)
  refine awp_condQ (q := y < x) rfl (fun h2 => ?_) (fun h2 => ?_)
  ·refine awp_seq fun K12 hK12 => awp_region rfl (o_as (Nv 1) rfl (aops_end (hK12 _ ?_)))
   refine awp_ret ?_
   refine post_ret ⟨[Nv 1], ⟨AV.le_refl _, trivial⟩, rfl, ?_⟩
   exact congrArg (fun z => AV.lit (.int .i64 z)) (by unfold cmpZ; rw [if_neg (by assumption), if_pos (by assumption)]; all_goals rfl)
  ·refine awp_skip (hK10 _ (awp_seq fun K13 hK13 => awp_region rfl (o_as (Nv 0) rfl (aops_end (hK13 _ ?_)))))
   refine awp_ret ?_
   refine post_ret ⟨[Nv 0], ⟨AV.le_refl _, trivial⟩, rfl, ?_⟩
   exact congrArg (fun z => AV.lit (.int .i64 z)) (by unfold cmpZ; rw [if_neg (by assumption), if_neg (by assumption)]; all_goals rfl)

theorem c_cmpL (x y : List Int) : ECalls cx 89 [Lv x, Lv y] (.lit (.int .i64 (cmpL x y))) := by
 refine ecalls_of_awp Tryz.func89 (c := _) rfl (Nat.le_of_ble_eq_true rfl) ?_
 show awp cx 36 _ (postF cx Tryz.f89 _) ⟨[(0, Lv x), (1, Lv y)], []⟩
 refine awp_bound (i := 0) rfl fun hxl => ?_
 replace hxl := is_bnd hxl
 refine awp_bound (i := 1) rfl fun hyl => ?_
 replace hyl := is_bnd hyl
 refine awp_seq fun K0 hK0 => awp_region rfl (o_as (Nv 0) rfl (aops_end (hK0 _ (awp_seq fun K1 hK1 => awp_seq fun K2 hK2 => awp_region rfl (o_mv (Lv x) rfl ?_)))))
 refine i_len x gn f2_ rfl ?_
 refine o_mv (Nv 0) rfl (aops_end (hK2 _ ?_))
 refine awp_block ?_
 refine awp_loopR (fun κ σ => ∃ (i : Nat), (i ≤ x.length) ∧ (cmpL x y = cmpL (x.drop i) (y.drop i)) ∧ (x.length - i) = κ ∧ σ = ⟨[(0, Lv x), (1, Lv y), (9, Lv x), (10, Nv (x.length)), (11, Nv i)], []⟩) ⟨_, _, ⟨0, Nat.zero_le _, rfl, rfl, rfl⟩, ?wk0⟩ ?rd0
 case wk0 =>
  exact Wk.sub ⟨rfl, rfl, rfl, rfl, (by first | rfl | exact nm_int (by omega)), trivial⟩ trivial
 rintro κ _ ⟨i, hi, hc, rfl, rfl⟩
 refine awp_seq fun K3 hK3 => awp_region rfl ?_
 refine n_lss i (x.length) gn rfl rfl ?_
 refine aops_end (hK3 _ (awp_seq fun K4 hK4 => ?_))
 refine awp_condQ (q := i < (x.length)) rfl (fun h1 => ?_) (fun h1 => ?_)
 ·refine awp_skip (hK4 _ (awp_seq fun K5 hK5 => ?_))
  refine awp_block ?_
  refine awp_seq fun K6 hK6 => awp_region rfl (o_mv (Nv i) rfl ?_)
  refine i_index x i gn f10_ rfl rfl (by omega) ?_
  refine i_loadI x i gn f11_ rfl (by omega) ?_
  refine o_as (Nv i) rfl (o_as (Iv (x.getD i 0)) rfl (aops_end (hK6 _ (awp_seq fun K7 hK7 => awp_seq fun K8 hK8 => awp_region rfl (o_mv (Nv i) rfl (o_mv (Lv y) rfl ?_))))))
  refine i_len y gn f2_ rfl ?_
  refine n_geq i (y.length) gn rfl rfl ?_
  refine aops_end (hK8 _ ?_)
  refine awp_condQ (q := (y.length) ≤ i) rfl (fun h2 => ?_) (fun h2 => ?_)
  ·refine awp_seq fun K9 hK9 => awp_region rfl (o_as (Nv 1) rfl (aops_end (hK9 _ ?_)))
   refine awp_ret ?_
   refine post_ret ⟨[Nv 1], ⟨AV.le_refl _, trivial⟩, rfl, ?_⟩
   exact congrArg (fun z => AV.lit (.int .i64 z)) (hc.trans (cmpL_s1 (by assumption) (by omega)))
  ·refine awp_skip (hK7 _ (awp_seq fun K10 hK10 => awp_region rfl (o_mv (Lv y) rfl (o_mv (Nv i) rfl ?_))))
   refine i_index y i gn f10_ rfl rfl (by omega) ?_
   refine i_loadI y i gn f11_ rfl (by omega) ?_
   refine o_as (Iv (y.getD i 0)) rfl (aops_end (hK10 _ (awp_seq fun K11 hK11 => awp_region rfl (o_mv (Iv (x.getD i 0)) rfl (o_mv (Iv (y.getD i 0)) rfl ?_)))))
   refine o_ct (c_cmpInt (x.getD i 0) (y.getD i 0)) gn f117_ rfl ?_
   refine o_as (Iv (cmpZ (x.getD i 0) (y.getD i 0))) rfl (aops_end (hK11 _ (awp_seq fun K12 hK12 => awp_region rfl (o_mv (Iv (cmpZ (x.getD i 0) (y.getD i 0))) rfl ?_))))
   refine o_neq (a := (cmpZ (x.getD i 0) (y.getD i 0))) (c := ((0 : Nat) : Int)) gn rfl rfl ?_
   refine aops_end (hK12 _ ?_)
   refine awp_condQ (q := (cmpZ (x.getD i 0) (y.getD i 0)) ≠ ((0 : Nat) : Int)) rfl (fun h3 => ?_) (fun h3 => ?_)
   ·refine awp_seq fun K13 hK13 => awp_region rfl (o_mv (Iv (cmpZ (x.getD i 0) (y.getD i 0))) rfl (o_as (Iv (cmpZ (x.getD i 0) (y.getD i 0))) rfl (aops_end (hK13 _ ?_))))
    refine awp_ret ?_
    refine post_ret ⟨[Iv (cmpZ (x.getD i 0) (y.getD i 0))], ⟨AV.le_refl _, trivial⟩, rfl, ?_⟩
    exact congrArg (fun z => AV.lit (.int .i64 z)) (hc.trans ((cmpL_s2 (by assumption) (by omega)).trans (if_neg (by assumption))))
   ·refine awp_skip (hK5 _ (awp_region rfl ?_))
    refine n_add i 1 gn rfl rfl (by simp only [topOf]; omega) ?_
    refine o_mv (Nv (i + 1)) rfl (aops_end ?_)
    refine ⟨_, _, ?lt, ⟨i + 1, (by omega), (hc.trans ((cmpL_s2 (by assumption) (by omega)).trans (if_pos (Decidable.not_not.1 (by assumption))))), rfl, rfl⟩, ?wk⟩
    case lt => omega
    case wk => exact Wk.sub ⟨rfl, rfl, rfl, rfl, (by first | rfl | exact nm_int (by omega)), trivial⟩ trivial
 ·refine awp_exit ?_
  refine hK1 _ (awp_seq fun K14 hK14 => awp_seq fun K15 hK15 => awp_region rfl (o_mv (Lv x) rfl ?_))
  refine i_len x gn f2_ rfl ?_
  refine o_mv (Lv y) rfl ?_
  refine i_len y gn f2_ rfl ?_
  refine n_lss (x.length) (y.length) gn rfl rfl ?_
  refine aops_end (hK15 _ ?_)
  refine awp_condQ (q := (x.length) < (y.length)) rfl (fun h4 => ?_) (fun h4 => ?_)
  ·refine awp_seq fun K16 hK16 => awp_region rfl (o_as (Iv (-1)) rfl (aops_end (hK16 _ ?_)))
   refine awp_ret ?_
   refine post_ret ⟨[Iv (-1)], ⟨AV.le_refl _, trivial⟩, rfl, ?_⟩
   exact congrArg (fun z => AV.lit (.int .i64 z)) (hc.trans (cmpL_e1 (by omega) (by omega)))
  ·refine awp_skip (hK14 _ (awp_seq fun K17 hK17 => awp_region rfl (o_as (Nv 0) rfl (aops_end (hK17 _ ?_)))))
   refine awp_ret ?_
   refine post_ret ⟨[Nv 0], ⟨AV.le_refl _, trivial⟩, rfl, ?_⟩
   exact congrArg (fun z => AV.lit (.int .i64 z)) (hc.trans (cmpL_e2 (by omega) (by omega)))

theorem c_clone (l : List Int) (hl : 0 < l.length) (hb : l.length ≤ 1000) : ECallsM cx 90 [Lv l] (.row 701) 701 3 1 (is .i64 l) := by
 refine ecallsM_of_awp Tryz.func90 (c := _) rfl (Nat.le_of_ble_eq_true rfl) ?_
 show awp cx 8 _ (postM cx Tryz.f90 _ 701 3 1 (is .i64 l)) ⟨[(0, Lv l)], []⟩
 refine awp_seq fun K0 hK0 => awp_region rfl (o_as Zv rfl (aops_end (hK0 _ (awp_seq fun K1 hK1 => awp_seq fun K2 hK2 => awp_region rfl (o_mv (Lv l) rfl ?_)))))
 refine o_eqlNilSl gn f2_ rfl rfl (by simp [is, ns]; omega) ?_
 refine aops_end (hK2 _ ?_)
 refine awp_condB (b := false) rfl (fun hh => absurd (hh.symm.trans rfl) (by decide)) (fun _ => ?_)
 refine awp_skip (hK1 _ (awp_seq fun K3 hK3 => awp_region rfl ?_))
 refine o_buildSlice 2 (is .i64 ([])) [] gn f10_ rfl f26_ rfl rfl rfl rfl rfl rfl rfl ?_
 refine o_mv (Lv l) rfl ?_
 refine i_appendSl 3 ([]) l [] gn f10_ f26_ rfl rfl rfl rfl (by simp only [List.length_append, List.length_cons, List.length_nil]; omega) (by decide) rfl rfl ?_
 refine o_as (.row 3) rfl (aops_end (hK3 _ ?_))
 refine awp_wk (σ' := ⟨[(2, .row 3)], [(3, .row 3 1 (is .i64 l))]⟩) (Wk.sub ⟨rfl, trivial⟩ ⟨rfl, trivial⟩) ?_
 refine awp_wk (σ' := ⟨[(2, .row 701)], [(701, .row 3 1 (is .i64 l))]⟩) (Wk.ren (id := 3) (id' := 701) rfl) ?_
 refine awp_ret ?_
 refine postM_ret ⟨[.row 701], ⟨AV.le_refl _, trivial⟩, rfl, rfl, ?_⟩
 rfl

theorem c_cloneW (l : List Int) (hl : 0 < l.length) (hb : l.length ≤ 1000) : ECallsM cx 97 [.sl 2 (gcells cW l)] (.row 701) 701 90 2 (gcells cW l) := by
 refine ecallsM_of_awp Tryz.func97 (c := _) rfl (Nat.le_of_ble_eq_true rfl) ?_
 show awp cx 8 _ (postM cx Tryz.f97 _ 701 90 2 (gcells cW l)) ⟨[(0, .sl 2 (gcells cW l))], []⟩
 refine awp_seq fun K0 hK0 => awp_region rfl (o_as Zv rfl (aops_end (hK0 _ (awp_seq fun K1 hK1 => awp_seq fun K2 hK2 => awp_region rfl (o_mv (.sl 2 (gcells cW l)) rfl ?_)))))
 refine o_eqlNilSl gn f118_ rfl rfl (by rw [gcells_len cW_len]; omega) ?_
 refine aops_end (hK2 _ ?_)
 refine awp_condB (b := false) rfl (fun hh => absurd (hh.symm.trans rfl) (by decide)) (fun _ => ?_)
 refine awp_skip (hK1 _ (awp_seq fun K3 hK3 => awp_region rfl ?_))
 refine o_buildSlice 2 (gcells cW ([])) [] gn f119_ rfl f15_ rfl rfl rfl rfl rfl rfl rfl ?_
 refine o_mv (.sl 2 (gcells cW l)) rfl ?_
 refine g_appendSl cW 3 ([]) l [] cW_len rfl gn f119_ f15_ rfl rfl rfl rfl (by simp only [List.length_append, List.length_cons, List.length_nil]; omega) (by simp only [List.length_append, List.length_cons, List.length_nil]; omega) rfl rfl ?_
 refine o_as (.row 3) rfl (aops_end (hK3 _ ?_))
 refine awp_wk (σ' := ⟨[(2, .row 3)], [(3, .row 90 2 (gcells cW l))]⟩) (Wk.sub ⟨rfl, trivial⟩ ⟨rfl, trivial⟩) ?_
 refine awp_wk (σ' := ⟨[(2, .row 701)], [(701, .row 90 2 (gcells cW l))]⟩) (Wk.ren (id := 3) (id' := 701) rfl) ?_
 refine awp_ret ?_
 refine postM_ret ⟨[.row 701], ⟨AV.le_refl _, trivial⟩, rfl, rfl, ?_⟩
 rfl

theorem c_first (w : List Int) (hl : w.length ≤ 1000) : ECalls cx 48 [Lv w] (bp (firstP w)) := by
 refine ecalls_of_awp Tryz.func48 (c := _) rfl (Nat.le_of_ble_eq_true rfl) ?_
 show awp cx 21 _ (postF cx Tryz.f48 _) ⟨[(0, Lv w)], []⟩
 refine awp_seq fun K0 hK0 => awp_region rfl (o_as Fv rfl (aops_end (hK0 _ (awp_seq fun K1 hK1 => awp_seq fun K2 hK2 => awp_region rfl (o_as (Nv 1) rfl (aops_end (hK2 _ ?_)))))))
 refine awp_block ?_
 refine awp_loopR (fun κ σ => ∃ (i : Nat), (1 ≤ i) ∧ (∀ j, j < i → 0 < j → ¬ cmpL (rotL w j) w ≤ 0) ∧ (w.length - i) = κ ∧ σ = ⟨[(0, Lv w), (3, Nv i)], []⟩) ⟨_, _, ⟨1, (by omega), (fun j h1 h2 => by omega), rfl, rfl⟩, ?wk0⟩ ?rd0
 case wk0 =>
  exact Wk.sub ⟨rfl, (by first | rfl | exact nm_int (by omega)), trivial⟩ trivial
 rintro κ _ ⟨i, hi0, hf, rfl, rfl⟩
 refine awp_seq fun K3 hK3 => awp_seq fun K4 hK4 => awp_region rfl (o_mv (Nv i) rfl (o_mv (Lv w) rfl ?_))
 refine i_len w gn f2_ rfl ?_
 refine n_lss i (w.length) gn rfl rfl ?_
 refine aops_end (hK4 _ ?_)
 refine awp_condQ (q := i < (w.length)) rfl (fun h1 => ?_) (fun h1 => ?_)
 ·refine awp_skip (hK3 _ (awp_seq fun K5 hK5 => ?_))
  refine awp_block ?_
  refine awp_seq fun K6 hK6 => awp_regionD rfl (o_mv (Lv w) rfl (o_mv (Nv i) rfl ?_))
  refine i_slice w i (w.length) gn f10_ rfl (lo_nm rfl) rfl trivial (by omega) (by omega) ?_
  refine o_callM 701 [Lv ((w.drop i).take (w.length - i))] gn f120_ rfl (c_clone ((w.drop i).take (w.length - i)) (by simp only [List.length_take, List.length_drop]; omega) (by simp only [List.length_take, List.length_drop]; omega)) rfl ?_
  refine o_mv (Lv w) rfl (o_mv (Nv i) rfl ?_)
  refine i_slice w 0 i gn f10_ rfl rfl (hi_nm rfl) trivial (by omega) (by omega) ?_
  refine i_appendSl 101 ((w.drop i).take (w.length - i)) ((w.drop 0).take (i - 0)) [] gn f10_ f26_ rfl rfl rfl rfl (by simp only [List.length_append, List.length_take, List.length_drop]; omega) (by decide) rfl rfl ?_
  refine o_mv (Lv w) rfl ?_
  refine o_callG [(101, 1, is .i64 (((w.drop i).take (w.length - i)) ++ ((w.drop 0).take (i - 0))))] [Lv (((w.drop i).take (w.length - i)) ++ ((w.drop 0).take (i - 0))), Lv w] _ (Iv (cmpL (((w.drop i).take (w.length - i)) ++ ((w.drop 0).take (i - 0))) w)) [] gn f121_ rfl ⟨⟨_, rfl⟩, trivial⟩ rfl rfl (LeL.cons (AV.le_refl _) (LeL.cons (AV.le_refl _) LeL.nil)) (c_cmpL (((w.drop i).take (w.length - i)) ++ ((w.drop 0).take (i - 0))) w) rfl ?_
  refine n_as (v' := (Iv (cmpL (rotL w i) w))) (by exact congrArg (fun z => AV.lit (.int .i64 z)) (congrArg (fun l => cmpL l w) (rot_cut w (by omega)))) ?_
  refine o_leq (a := (cmpL (rotL w i) w)) (c := ((0 : Nat) : Int)) gn rfl rfl ?_
  refine aops_end ⟨by kernel_rfl, ?_⟩
  refine hK6 _ ?_
  refine awp_condQ (q := (cmpL (rotL w i) w) ≤ ((0 : Nat) : Int)) rfl (fun h2 => ?_) (fun h2 => ?_)
  ·refine awp_seq fun K7 hK7 => awp_region rfl (o_as Fv rfl (aops_end (hK7 _ ?_)))
   refine awp_ret ?_
   refine post_ret ⟨[Fv], ⟨AV.le_refl _, trivial⟩, rfl, ?_⟩
   exact bpn (fun h => h i (by assumption) (by omega) (by assumption))
  ·refine awp_skip (hK5 _ (awp_region rfl (o_mv (Nv i) rfl ?_)))
   refine n_add i 1 gn rfl rfl (by simp only [topOf]; omega) ?_
   refine o_as (Nv (i + 1)) rfl (aops_end ?_)
   refine ⟨_, _, ?lt, ⟨i + 1, (by omega), (fun j h8 h9 => by rcases Nat.lt_or_ge j i with e | e; exact hf j e h9; rw [show j = i by omega]; assumption), rfl, rfl⟩, ?wk⟩
   case lt => omega
   case wk => exact Wk.sub ⟨rfl, (by first | rfl | exact nm_int (by omega)), trivial⟩ trivial
 ·refine awp_exit ?_
  refine hK1 _ (awp_seq fun K8 hK8 => awp_region rfl (o_as Tv rfl (aops_end (hK8 _ ?_))))
  refine awp_ret ?_
  refine post_ret ⟨[Tv], ⟨AV.le_refl _, trivial⟩, rfl, ?_⟩
  exact bpy (fun j h8 h9 => hf j (by omega) h9)

theorem c_loop (m : MapM) (x : Int) (n : Nat) (hM : OkM m) (hn1 : 1 ≤ n) (hn : n ≤ 200) (hx : (digs x.natAbs).length ≤ 1000) : ECalls cx 52 [mapV m, intW x, Nv n] (.sl 2 (gcells cW (cyc m x n))) := by
 refine ecalls_of_awp Tryz.func52 (c := _) rfl (Nat.le_of_ble_eq_true rfl) ?_
 show awp cx 58 _ (postF cx Tryz.f52 _) ⟨[(0, mapV m), (1, intW x), (2, Nv n)], []⟩
 refine awp_seq fun K0 hK0 => awp_region rfl ?_
 refine o_box 2 [Iv m.mod, Lv m.mul, Lv m.add] gn rfl rfl ?_
 refine o_box 3 [bp (x < 0), .sl 1 (ns .u32 (digs x.natAbs))] gn rfl rfl ?_
 refine o_as Zv rfl (aops_end (hK0 _ (awp_seq fun K1 hK1 => awp_region rfl ?_)))
 refine o_loadA [bp (x < 0), .sl 1 (ns .u32 (digs x.natAbs))] gn f20_ rfl rfl rfl rfl rfl ?_
 refine o_buildSlice 4 (gcells cW ([x])) [(0, [bp (x < 0), .sl 1 (ns .u32 (digs x.natAbs))])] gn f119_ rfl f15_ rfl rfl rfl rfl rfl rfl rfl ?_
 refine o_as (.row 4) rfl (aops_end (hK1 _ (awp_seq fun K2 hK2 => ?_)))
 refine awp_block ?_
 refine awp_loopR (fun κ σ => ∃ (j : Nat), (j + 1 ≤ n) ∧ (n - j) = κ ∧ σ = ⟨[(2, Nv n), (3, .ref 2 0), (7, .row 50)], [(2, oM 24 m), (50, .row 90 2 (gcells cW (orbL m x (j + 1))))]⟩) ⟨_, _, ⟨0, (by omega), rfl, rfl⟩, ?wk0⟩ ?rd0
 case wk0 =>
  exact Wk.trans (Wk.sub (σ' := ⟨[(2, Nv n), (3, .ref 2 0), (7, .row 4)], [(2, oM 24 m), (4, .row 90 2 (gcells cW ([x])))]⟩) ⟨rfl, rfl, rfl, trivial⟩ ⟨rfl, rfl, trivial⟩) (Wk.trans (Wk.ren (id := 4) (id' := 50) rfl) (Wk.sub ⟨rfl, rfl, (by first | rfl | simp), trivial⟩ ⟨(by first | rfl | (first | exact row_gs' (orbL_s m x _) | exact row_gs' (by rfl) | exact row_gs' (by rw [show j + 1 = n by omega]))), (by first | rfl | exact row_ns (by simp) | (first | exact row_gs' (orbL_s m x _) | exact row_gs' (by rfl) | exact row_gs' (by rw [show j + 1 = n by omega]))), trivial⟩))
 rintro κ _ ⟨j, hj, rfl, rfl⟩
 have k1 := orbL_len m x (j + 1)
 have k2 := iter_len hM x j
 refine awp_seq fun K3 hK3 => awp_seq fun K4 hK4 => awp_region rfl (o_mv (.row 50) rfl ?_)
 refine g_lenRow cW (orbL m x (j + 1)) cW_len gn f118_ rfl rfl ?_
 refine o_mv (Nv n) rfl ?_
 refine n_lss ((orbL m x (j + 1)).length) n gn rfl rfl ?_
 refine aops_end (hK4 _ ?_)
 refine awp_condQ (q := ((orbL m x (j + 1)).length) < n) rfl (fun h1 => ?_) (fun h1 => ?_)
 ·refine awp_skip (hK3 _ ?_)
  refine awp_block ?_
  refine awp_seq fun K5 hK5 => awp_regionD rfl ?_
  refine o_loadA [Iv m.mod, Lv m.mul, Lv m.add] gn f63_ rfl rfl rfl rfl rfl ?_
  refine o_mv (.row 50) rfl (o_mv (.row 50) rfl ?_)
  refine g_lenRow cW (orbL m x (j + 1)) cW_len gn f118_ rfl rfl ?_
  refine n_sub ((orbL m x (j + 1)).length) 1 gn rfl rfl (by omega) (by simp only [topOf]; omega) ?_
  refine g_indexRow cW (orbL m x (j + 1)) (((orbL m x (j + 1)).length) - 1) cW_len rfl gn f119_ rfl rfl rfl (by omega) ?_
  refine g_loadRowA cW (orbL m x (j + 1)) (((orbL m x (j + 1)).length) - 1) default cW_len gn f20_ rfl rfl (by omega) ?_
  refine n_as (v' := (intW (iterZ m j x))) (by exact congrArg intW ((congrArg (fun i => (orbL m x (j + 1)).getD i default) (by rw [orbL_len]; rfl)).trans (orbL_get (Nat.lt_succ_self j)))) ?_
  refine o_ct (c_sNext m (iterZ m j x) (by first | assumption | exact okM_iff.1 (by assumption)) (by first | omega | assumption | (simp only [Int.natAbs_neg]; omega))) gn f122_ rfl ?_
  refine o_mv (.tup [intW (stepZ m (iterZ m j x)), Iv ((iterZ m j x) % m.mod)]) rfl (o_extract (intW (stepZ m (iterZ m j x))) gn rfl rfl ?_)
  refine n_as (v' := (intW (iterZ m (j + 1) x))) (by exact rfl) ?_
  refine o_extract (Iv ((iterZ m j x) % m.mod)) gn rfl rfl ?_
  refine o_alloc 101 [Fv, Zv] gn f15_ rfl rfl rfl ?_
  refine o_store [(101, oZ 90 .u32 (iterZ m (j + 1) x)), (2, oM 24 m), (50, .row 90 2 (gcells cW (orbL m x (j + 1))))] gn f19_ rfl rfl rfl rfl rfl rfl ?_
  refine o_as (Iv ((iterZ m j x) % m.mod)) rfl ?_
  refine aops_end ⟨by kernel_rfl, ?_⟩
  refine hK5 _ (awp_region rfl (o_mv (.row 50) rfl ?_))
  refine o_loadA [bp ((iterZ m (j + 1) x) < 0), .sl 1 (ns .u32 (digs (iterZ m (j + 1) x).natAbs))] gn f20_ rfl rfl rfl rfl rfl ?_
  refine o_buildSlice 102 (gcells cW ([iterZ m (j + 1) x])) [(0, [bp ((iterZ m (j + 1) x) < 0), .sl 1 (ns .u32 (digs (iterZ m (j + 1) x).natAbs))])] gn f119_ rfl f15_ rfl rfl rfl rfl rfl rfl rfl ?_
  refine g_append cW 103 (orbL m x (j + 1)) ([iterZ m (j + 1) x]) [(102, .row 90 2 (gcells cW ([iterZ m (j + 1) x]))), (101, oZ 90 .u32 (iterZ m (j + 1) x)), (2, oM 24 m)] cW_len rfl gn f119_ f15_ rfl rfl rfl rfl rfl (by simp only [List.length_append, List.length_cons, List.length_nil]; omega) (by simp only [List.length_append, List.length_cons, List.length_nil]; omega) rfl rfl ?_
  refine o_as (.row 103) rfl (aops_end ?_)
  refine ⟨_, _, ?lt, ⟨j + 1, (by omega), rfl, rfl⟩, ?wk⟩
  case lt => omega
  case wk => exact Wk.trans (Wk.sub (σ' := ⟨[(2, Nv n), (3, .ref 2 0), (7, .row 103)], [(2, oM 24 m), (103, .row 90 2 (gcells cW ((orbL m x (j + 1)) ++ ([iterZ m (j + 1) x]))))]⟩) ⟨rfl, rfl, rfl, trivial⟩ ⟨rfl, rfl, trivial⟩) (Wk.trans (Wk.ren (id := 103) (id' := 50) rfl) (Wk.sub ⟨rfl, rfl, (by first | rfl | simp), trivial⟩ ⟨rfl, (by first | rfl | exact row_ns (by simp) | (first | exact row_gs' (orbL_s m x _) | exact row_gs' (by rfl) | exact row_gs' (by rw [show j + 1 = n by omega]))), trivial⟩))
 ·refine awp_exit ?_
  refine hK2 _ (awp_seq fun K6 hK6 => awp_region rfl (o_as (Nv 0) rfl ?_))
  refine n_as (v' := (Nv (leastI (orbL m x n) 0))) (by exact congrArg (nm _) (by first | rfl | exact (least_y (cmpZ_lt.1 (by assumption))).symm)) ?_
  refine aops_end (hK6 _ (awp_seq fun K7 hK7 => awp_seq fun K8 hK8 => awp_region rfl (o_mv (.row 50) rfl ?_)))
  refine g_lenRow cW (orbL m x (j + 1)) cW_len gn f118_ rfl rfl ?_
  refine n_as (v' := (Nv n)) (congrArg (nm _) (by rw [orbL_len]; omega)) ?_
  refine o_mv (Nv 0) rfl (aops_end (hK8 _ ?_))
  refine awp_block ?_
  refine awp_loopR (fun κ σ => ∃ (i : Nat), (i ≤ n) ∧ (n - i) = κ ∧ σ = ⟨[(7, .row 50), (10, Nv (leastI (orbL m x n) i)), (34, Nv n), (35, Nv i)], [(50, .row 90 2 (gcells cW (orbL m x n)))]⟩) ⟨_, _, ⟨0, (by omega), rfl, rfl⟩, ?wk1⟩ ?rd1
  case wk1 =>
   exact Wk.sub ⟨rfl, (by first | rfl | exact nm_int (by omega)), rfl, (by first | rfl | exact nm_int (by omega)), trivial⟩ ⟨(by first | rfl | exact row_ns (by simp) | (first | exact row_gs' (orbL_s m x _) | exact row_gs' (by rfl) | exact row_gs' (by rw [show j + 1 = n by omega]))), trivial⟩
  rintro κ _ ⟨i, hi, rfl, rfl⟩
  have k1 := orbL_len m x n
  have k3 := least_lt (l := orbL m x n) (by omega) i (by omega)
  refine awp_seq fun K9 hK9 => awp_region rfl ?_
  refine n_lss i n gn rfl rfl ?_
  refine aops_end (hK9 _ (awp_seq fun K10 hK10 => ?_))
  refine awp_condQ (q := i < n) rfl (fun h2 => ?_) (fun h2 => ?_)
  ·refine awp_skip (hK10 _ (awp_seq fun K11 hK11 => ?_))
   refine awp_block ?_
   refine awp_seq fun K12 hK12 => awp_region rfl (o_mv (Nv i) rfl (o_as (Nv i) rfl (aops_end (hK12 _ (awp_seq fun K13 hK13 => awp_regionD rfl (o_mv (.row 50) rfl (o_mv (Nv i) rfl ?_)))))))
   refine g_indexRow cW (orbL m x n) i cW_len rfl gn f119_ rfl rfl rfl (by omega) ?_
   refine g_loadRowA cW (orbL m x n) i default cW_len gn f20_ rfl rfl (by omega) ?_
   refine o_mv (.row 50) rfl (o_mv (Nv (leastI (orbL m x n) i)) rfl ?_)
   refine g_indexRow cW (orbL m x n) (leastI (orbL m x n) i) cW_len rfl gn f119_ rfl rfl rfl (by omega) ?_
   refine g_loadRowA cW (orbL m x n) (leastI (orbL m x n) i) default cW_len gn f20_ rfl rfl (by omega) ?_
   refine o_ct (c_wCmp ((orbL m x n).getD i default) ((orbL m x n).getD (leastI (orbL m x n) i) default)) gn f123_ rfl ?_
   refine o_lss (a := (cmpZ ((orbL m x n).getD i default) ((orbL m x n).getD (leastI (orbL m x n) i) default))) (c := ((0 : Nat) : Int)) gn rfl rfl ?_
   refine aops_end ⟨by kernel_rfl, ?_⟩
   refine hK13 _ ?_
   refine awp_condQ (q := (cmpZ ((orbL m x n).getD i default) ((orbL m x n).getD (leastI (orbL m x n) i) default)) < ((0 : Nat) : Int)) rfl (fun h3 => ?_) (fun h3 => ?_)
   ·refine awp_region rfl (o_mv (Nv i) rfl (o_as (Nv i) rfl ?_))
    refine n_as (v' := (Nv (leastI (orbL m x n) (i + 1)))) (by exact congrArg (nm _) (by first | rfl | exact (least_y (cmpZ_lt.1 (by assumption))).symm)) ?_
    refine aops_end (hK11 _ (awp_region rfl ?_))
    refine n_add i 1 gn rfl rfl (by simp only [topOf]; omega) ?_
    refine o_mv (Nv (i + 1)) rfl (aops_end ?_)
    refine ⟨_, _, ?lt, ⟨i + 1, (by omega), rfl, rfl⟩, ?wk⟩
    case lt => omega
    case wk => exact Wk.sub ⟨rfl, (by first | rfl | exact nm_int (by omega)), rfl, (by first | rfl | exact nm_int (by omega)), trivial⟩ ⟨rfl, trivial⟩
   ·refine awp_wk (Wk.slot (i := 10) (y := (Nv (leastI (orbL m x n) (i + 1)))) (AV.le_eq (by exact congrArg (nm _) (least_n (fun e => absurd (cmpZ_lt.2 e) (by assumption))).symm))) ?_
    refine awp_skip (hK11 _ (awp_region rfl ?_))
    refine n_add i 1 gn rfl rfl (by simp only [topOf]; omega) ?_
    refine o_mv (Nv (i + 1)) rfl (aops_end ?_)
    refine ⟨_, _, ?lt, ⟨i + 1, (by omega), rfl, rfl⟩, ?wk⟩
    case lt => omega
    case wk => exact Wk.sub ⟨rfl, (by first | rfl | exact nm_int (by omega)), rfl, (by first | rfl | exact nm_int (by omega)), trivial⟩ ⟨rfl, trivial⟩
  ·refine awp_exit ?_
   refine hK7 _ (awp_seq fun K14 hK14 => ?_)
   refine awp_wk (σ' := ⟨[(7, .row 50), (10, Nv (leastI (orbL m x n) i)), (35, Nv i)], [(50, .row 90 2 (gcells cW (orbL m x n)))]⟩) (Wk.sub ⟨rfl, rfl, rfl, trivial⟩ ⟨rfl, trivial⟩) ?_
   refine awp_wk (σ' := ⟨[(7, .sl 2 (gcells cW (orbL m x n))), (10, Nv (leastI (orbL m x n) i)), (35, Nv i)], []⟩) (Wk.freeze (id := 50) (e := 90) (sz := 2) (cs := (gcells cW (orbL m x n))) rfl) ?_
   refine awp_regionD rfl (o_mv (.sl 2 (gcells cW (orbL m x n))) rfl (o_mv (Nv (leastI (orbL m x n) i)) rfl ?_))
   refine g_slice cW (orbL m x n) (leastI (orbL m x n) i) ((orbL m x n).length) cW_len gn f119_ rfl (lo_nm rfl) rfl trivial (by omega) (by omega) ?_
   refine o_callM 701 [.sl 2 (gcells cW (((orbL m x n).drop (leastI (orbL m x n) i)).take ((orbL m x n).length - leastI (orbL m x n) i)))] gn f124_ rfl (c_cloneW (((orbL m x n).drop (leastI (orbL m x n) i)).take ((orbL m x n).length - leastI (orbL m x n) i)) (by simp only [List.length_take, List.length_drop]; omega) (by simp only [List.length_take, List.length_drop]; omega)) rfl ?_
   refine o_mv (.sl 2 (gcells cW (orbL m x n))) rfl (o_mv (Nv (leastI (orbL m x n) i)) rfl ?_)
   refine g_slice cW (orbL m x n) 0 (leastI (orbL m x n) i) cW_len gn f119_ rfl rfl (hi_nm rfl) trivial (by omega) (by omega) ?_
   refine g_appendSl cW 201 (((orbL m x n).drop (leastI (orbL m x n) i)).take ((orbL m x n).length - leastI (orbL m x n) i)) (((orbL m x n).drop 0).take (leastI (orbL m x n) i - 0)) [] cW_len rfl gn f119_ f15_ rfl rfl rfl rfl (by simp only [List.length_append, List.length_take, List.length_drop]; omega) (by simp only [List.length_append, List.length_take, List.length_drop]; omega) rfl rfl ?_
   refine o_as (.row 201) rfl ?_
   refine aops_end ⟨by kernel_rfl, ?_⟩
   refine hK14 _ ?_
   refine awp_wk (σ' := ⟨[(6, .row 201)], [(201, .row 90 2 (gcells cW ((((orbL m x n).drop (leastI (orbL m x n) i)).take ((orbL m x n).length - leastI (orbL m x n) i)) ++ (((orbL m x n).drop 0).take (leastI (orbL m x n) i - 0)))))]⟩) (Wk.sub ⟨rfl, trivial⟩ ⟨rfl, trivial⟩) ?_
   refine awp_wk (σ' := ⟨[(6, .sl 2 (gcells cW ((((orbL m x n).drop (leastI (orbL m x n) i)).take ((orbL m x n).length - leastI (orbL m x n) i)) ++ (((orbL m x n).drop 0).take (leastI (orbL m x n) i - 0)))))], []⟩) (Wk.freeze (id := 201) (e := 90) (sz := 2) (cs := (gcells cW ((((orbL m x n).drop (leastI (orbL m x n) i)).take ((orbL m x n).length - leastI (orbL m x n) i)) ++ (((orbL m x n).drop 0).take (leastI (orbL m x n) i - 0))))) rfl) ?_
   refine awp_ret ?_
   refine post_ret ⟨[.sl 2 (gcells cW ((((orbL m x n).drop (leastI (orbL m x n) i)).take ((orbL m x n).length - leastI (orbL m x n) i)) ++ (((orbL m x n).drop 0).take (leastI (orbL m x n) i - 0))))], ⟨AV.le_refl _, trivial⟩, rfl, ?_⟩
   have hin : i = n := by omega
   subst hin
   exact gs_as (((congrArg (fun q => rotL (orbL m x i) (leastI (orbL m x i) q)) k1).trans rfl).trans (rot_cut _ (by omega)).symm)

end Go.Proofs.YtdmkejloknejdaaGreatDoor

namespace Go.Mth
open Go Go.Ab
structure Fal where
 steps : Int
 rest : Int
 lmul : ByteArray
 ladd : ByteArray
 ldiv : ByteArray
 bound : ByteArray
 deriving Inhabited, DecidableEq
def cL (f : Fal) : List AV := [.lit (.int .i64 f.steps), .lit (.int .i64 f.rest), .lit (.string f.lmul), .lit (.string f.ladd), .lit (.string f.ldiv), .lit (.string f.bound)]
def falV (f : Fal) : AV := .agg (cL f)
def zFal : Fal := ⟨0, 0, noS, noS, noS, noS⟩
def bndZ (l : LinZ) : Int := l.add / (l.div - l.mul)
def falO (s r : Int) (l : LinZ) : Fal := ⟨s, r, txt l.mul, txt l.add, txt l.div, txt (bndZ l)⟩
def fallsW (m : MapM) (w : List Int) : Prop := (lineZ m w).mul < (lineZ m w).div
instance (m : MapM) (w : List Int) : Decidable (fallsW m w) := by unfold fallsW; infer_instance
def ffal (m : MapM) (z : Int) : Nat → Nat
 | 0 => 0
 | k + 1 => if ffal m z k ≠ 0 then ffal m z k else if fallsW m (wordZ m z (k + 1)) then k + 1 else 0
def fndF (m : MapM) (z : Int) (k : Nat) : Fal := if ffal m z k = 0 then zFal else falO (ffal m z k) (z % m.mod ^ ffal m z k) (lineZ m (wordZ m z (ffal m z k)))
def fndB (m : MapM) (z : Int) (k : Nat) : Prop := ffal m z k ≠ 0
instance (m : MapM) (z : Int) (k : Nat) : Decidable (fndB m z k) := by unfold fndB; infer_instance
def mayS (m : MapM) (k : Int) : Prop := freeM m ∧ 1 ≤ k ∧ m.mod ^ k.toNat ≤ 65536
noncomputable instance (m : MapM) (k : Int) : Decidable (mayS m k) := Classical.propDecidable _
noncomputable def chkE (m : MapM) (k : Int) : Nat := if okM m = true then (if mayS m k then 0 else 2) else 1
theorem may_16 {m : MapM} (hm : OkM m) {k : Nat} (h : m.mod ^ k ≤ 65536) : k ≤ 16 := by
 refine Decidable.byContradiction fun e => ?_
 have h1 : (2 : Int) ^ k ≤ m.mod ^ k := by
  have a : (2 : Int) = ((2 : Nat) : Int) := rfl
  have b : m.mod = ((m.mod.toNat : Nat) : Int) := (Int.toNat_of_nonneg (by have := hm.1; omega)).symm
  rw [a, b, ← Int.natCast_pow, ← Int.natCast_pow]
  have : (2 : Nat) ^ k ≤ m.mod.toNat ^ k := Nat.pow_le_pow_left (by have := hm.1; omega) k
  omega
 have h2 : (2 : Nat) ^ 17 ≤ 2 ^ k := Nat.pow_le_pow_right (by decide) (by omega)
 have h3 : ((2 : Nat) ^ k : Nat) = ((2 : Int) ^ k) := by rw [Int.natCast_pow]; rfl
 have h4 : (2 : Nat) ^ 17 = 131072 := by decide
 omega
theorem pow_le_of {m : MapM} (hm : OkM m) {j k : Nat} (h : j ≤ k) : m.mod ^ j ≤ m.mod ^ k := by
 have b : m.mod = ((m.mod.toNat : Nat) : Int) := (Int.toNat_of_nonneg (by have := hm.1; omega)).symm
 rw [b, ← Int.natCast_pow, ← Int.natCast_pow]
 have : m.mod.toNat ^ j ≤ m.mod.toNat ^ k := Nat.pow_le_pow_right (by have := hm.1; omega) h
 omega
theorem chk_1 {m : MapM} {k : Int} (h : ¬ okM m = true) : chkE m k = 1 := if_neg h
theorem chk_2 {m : MapM} {k : Int} (h : okM m = true) (h2 : ¬ mayS m k) : chkE m k = 2 := (if_pos h).trans (if_neg h2)
theorem chk_0 {m : MapM} {k : Int} (h : okM m = true) (h2 : mayS m k) : chkE m k = 0 := (if_pos h).trans (if_pos h2)
theorem may_big {m : MapM} {k : Int} {i : Nat} (hm : OkM m) (h : 65536 < m.mod ^ (i + 1)) (hi : ((i : Nat) : Int) < k) : ¬ mayS m k := fun e => by
 have := pow_le_of hm (j := i + 1) (k := k.toNat) (by omega)
 have := e.2.2
 omega
noncomputable def fdE (m : MapM) (a : ByteArray) (k : Int) : Nat := if okM m = true ∧ okS a = true then chkE m k else 1
noncomputable def fdF (m : MapM) (a : ByteArray) (k : Int) : Fal := if fdE m a k = 0 then fndF m (numS a) k.toNat else zFal
def fdB (m : MapM) (a : ByteArray) (k : Int) : Prop := fdE m a k = 0 ∧ fndB m (numS a) k.toNat
noncomputable instance (m : MapM) (a : ByteArray) (k : Int) : Decidable (fdB m a k) := Classical.propDecidable _
noncomputable def rstN (m : MapM) (k : Int) : Int := if 1 ≤ k ∧ m.mod ^ k.toNat ≤ 65536 then m.mod ^ k.toNat else 0
theorem rst_pos {m : MapM} (hm : OkM m) {k : Int} : 0 < rstN m k ↔ 1 ≤ k ∧ m.mod ^ k.toNat ≤ 65536 := by
 unfold rstN
 split
 ·rename_i h; exact ⟨fun _ => h, fun _ => Int.pow_pos (by have := hm.1; omega)⟩
 ·rename_i h; exact ⟨fun e => absurd e (by decide), fun e => absurd e h⟩
theorem rst_big {m : MapM} {k : Int} {i : Nat} (hm : OkM m) (h : 65536 < m.mod ^ (i + 1)) (hi : ((i : Nat) : Int) < k) : rstN m k = 0 := if_neg fun e => by
 have := pow_le_of hm (j := i + 1) (k := k.toNat) (by omega)
 omega
def fln (m : MapM) (z : Int) (k : Nat) : LinZ := lineZ m (wordZ m z (if ffal m z k = 0 then k else ffal m z k))
theorem may_iff {m : MapM} (hm : OkM m) {k : Int} : freeM m ∧ 0 < rstN m k ↔ mayS m k := by rw [rst_pos hm]; exact Iff.rfl
end Go.Mth

namespace Go.Proofs
open Go.Shelf
def Tryz.sortW_ren : Go.Shelf.Ren := ⟨fun | 6 => 53 | 15 => 99 | 14 => 98 | 28 => 129 | 29 => 130 | 20 => 121 | 21 => 122 | 22 => 123 | 23 => 124 | 24 => 125 | 25 => 126 | 26 => 127 | 27 => 128 | 46 => 145 | 47 => 146 | 48 => 147 | 49 => 148 | 50 => 149 | 57 => 162 | n => n, fun | 22 => 84 | 24 => 96 | 25 => 99 | 3 => 3 | 39 => 151 | 0 => 0 | 53 => 145 | 55 => 144 | 4 => 4 | 46 => 175 | 45 => 174 | 50 => 166 | 5 => 5 | 9 => 9 | 66 => 192 | 70 => 196 | 76 => 208 | 77 => 209 | n => n, fun | n => n⟩
theorem Tryz.sortW : Go.Proofs.SlLaysF.n6 Tryz.prog Tryz.sortW_ren := {
 mixed := by kernel_rfl
 f6 := ⟨Tryz.f53.name, by decide, Tryz.func53.trans (congrArg some (by kernel_rfl))⟩
 f14 := ⟨Tryz.f98.name, by decide, Tryz.func98.trans (congrArg some (by kernel_rfl))⟩
 f15 := Tryz.func99.trans (congrArg some (by kernel_rfl))
 f20 := ⟨Tryz.f121.name, by decide, Tryz.func121.trans (congrArg some (by kernel_rfl))⟩
 f21 := ⟨Tryz.f122.name, by decide, Tryz.func122.trans (congrArg some (by kernel_rfl))⟩
 f22 := ⟨Tryz.f123.name, by decide, Tryz.func123.trans (congrArg some (by kernel_rfl))⟩
 f23 := ⟨Tryz.f124.name, by decide, Tryz.func124.trans (congrArg some (by kernel_rfl))⟩
 f24 := ⟨Tryz.f125.name, by decide, Tryz.func125.trans (congrArg some (by kernel_rfl))⟩
 f25 := ⟨Tryz.f126.name, by decide, Tryz.func126.trans (congrArg some (by kernel_rfl))⟩
 f26 := ⟨Tryz.f127.name, by decide, Tryz.func127.trans (congrArg some (by kernel_rfl))⟩
 f27 := ⟨Tryz.f128.name, by decide, Tryz.func128.trans (congrArg some (by kernel_rfl))⟩
 f28 := Tryz.func129.trans (congrArg some (by kernel_rfl))
 f29 := Tryz.func130.trans (congrArg some (by kernel_rfl))
 f46 := ⟨Tryz.f145.name, by decide, Tryz.func145.trans (congrArg some (by kernel_rfl))⟩
 f47 := Tryz.func146.trans (congrArg some (by kernel_rfl))
 f48 := Tryz.func147.trans (congrArg some (by kernel_rfl))
 f49 := ⟨Tryz.f148.name, by decide, Tryz.func148.trans (congrArg some (by kernel_rfl))⟩
 f50 := ⟨Tryz.f149.name, by decide, Tryz.func149.trans (congrArg some (by kernel_rfl))⟩
 f57 := ⟨Tryz.f162.name, by decide, Tryz.func162.trans (congrArg some (by kernel_rfl))⟩
 t0 := Tryz.underlying0
 a0 := Tryz.isAgg0
 z0 := Tryz.sizeOf0
 v0 := Tryz.zeroValue0
 t3 := Tryz.underlying3
 a3 := Tryz.isAgg3
 z3 := Tryz.sizeOf3
 v3 := Tryz.zeroValue3
 t4 := Tryz.underlying4
 a4 := Tryz.isAgg4
 z4 := Tryz.sizeOf4
 v4 := Tryz.zeroValue4
 t5 := Tryz.underlying5
 a5 := Tryz.isAgg5
 z5 := Tryz.sizeOf5
 v5 := Tryz.zeroValue5
 t9 := Tryz.underlying9
 a9 := Tryz.isAgg9
 z9 := Tryz.sizeOf9
 v9 := Tryz.zeroValue9
 t22 := Tryz.underlying84
 a22 := Tryz.isAgg84
 z22 := Tryz.sizeOf84
 v22 := Tryz.zeroValue84
 a24 := Tryz.isAgg96
 z24 := Tryz.sizeOf96
 t25 := Tryz.underlying99
 a25 := Tryz.isAgg99
 z25 := Tryz.sizeOf99
 v25 := Tryz.zeroValue99
 t39 := Tryz.underlying151
 a39 := Tryz.isAgg151
 z39 := Tryz.sizeOf151
 v39 := Tryz.zeroValue151
 t45 := Tryz.underlying174
 a45 := Tryz.isAgg174
 z45 := Tryz.sizeOf174
 v45 := Tryz.zeroValue174
 t46 := Tryz.underlying175
 a46 := Tryz.isAgg175
 z46 := Tryz.sizeOf175
 v46 := Tryz.zeroValue175
 t50 := Tryz.underlying166
 a50 := Tryz.isAgg166
 z50 := Tryz.sizeOf166
 v50 := Tryz.zeroValue166
 t53 := Tryz.underlying145
 a53 := Tryz.isAgg145
 z53 := Tryz.sizeOf145
 v53 := Tryz.zeroValue145
 t55 := Tryz.underlying144
 a55 := Tryz.isAgg144
 z55 := Tryz.sizeOf144
 v55 := Tryz.zeroValue144
 t66 := Tryz.underlying192
 a66 := Tryz.isAgg192
 z66 := Tryz.sizeOf192
 v66 := Tryz.zeroValue192
 t70 := Tryz.underlying196
 a70 := Tryz.isAgg196
 z70 := Tryz.sizeOf196
 v70 := Tryz.zeroValue196
 t76 := Tryz.underlying208
 a76 := Tryz.isAgg208
 z76 := Tryz.sizeOf208
 v76 := Tryz.zeroValue208
 t77 := Tryz.underlying209
 a77 := Tryz.isAgg209
 z77 := Tryz.sizeOf209
 v77 := Tryz.zeroValue209 }
end Go.Proofs

namespace Go.Mth
open Go.Ab
def hdL (l : List Int) : Int := l.getD 0 default
def insK (x : List Int) : List (List Int) → List (List Int)
 | [] => [x]
 | y :: l => if hdL x ≤ hdL y then x :: y :: l else y :: insK x l
def sortK (l : List (List Int)) : List (List Int) := l.foldr insK []
theorem insK_perm (x : List Int) : ∀ l, (insK x l).Perm (x :: l)
 | [] => List.Perm.refl _
 | y :: l => by
  rw [insK]
  split
  ·exact List.Perm.refl _
  ·exact ((insK_perm x l).cons y).trans (List.Perm.swap x y l)
theorem sortK_perm : ∀ l, (sortK l).Perm l
 | [] => List.Perm.refl _
 | x :: l => (insK_perm x _).trans ((sortK_perm l).cons x)
theorem insK_srt (x : List Int) : ∀ l : List (List Int), l.Pairwise (fun a b => hdL a ≤ hdL b) → (insK x l).Pairwise (fun a b => hdL a ≤ hdL b)
 | [], _ => by simp [insK]
 | y :: l, h => by
  obtain ⟨h1, h2⟩ := List.pairwise_cons.1 h
  rw [insK]
  split
  ·rename_i e
   refine List.pairwise_cons.2 ⟨fun b hb => ?_, h⟩
   rcases List.mem_cons.1 hb with q | q
   ·rw [q]; exact e
   ·have := h1 b q; omega
  ·rename_i e
   refine List.pairwise_cons.2 ⟨fun b hb => ?_, insK_srt x l h2⟩
   rcases List.mem_cons.1 ((insK_perm x l).mem_iff.1 hb) with q | q
   ·rw [q]; omega
   ·exact h1 b q
theorem sortK_srt : ∀ l : List (List Int), (sortK l).Pairwise (fun a b => hdL a ≤ hdL b)
 | [] => List.Pairwise.nil
 | x :: l => insK_srt x _ (sortK_srt l)
theorem sortK_uniq {l l' : List (List Int)} (hp : l'.Perm l) (hs : l'.Pairwise (fun a b => hdL a ≤ hdL b)) (hinj : ∀ a ∈ l, ∀ b ∈ l, hdL a = hdL b → a = b) : l' = sortK l :=
 List.Perm.eq_of_pairwise (fun a b ha hb h1 h2 => hinj a (hp.mem_iff.1 ha) b ((sortK_perm l).mem_iff.1 hb) (Int.le_antisymm h1 h2)) hs (sortK_srt l) (hp.trans (sortK_perm l).symm)
end Go.Mth
namespace Go.Ab
open Go.RowKit Go.Mth Go.Sort
abbrev TldV (H : Heap) : Type := { p : List Int × Value // p.1 ≠ [] ∧ RepV H (.sl 2 (gcells cW p.1)) noLoc p.2 }
theorem told_ex {H : Heap} : ∀ (ls : List (List Int)) (vs : List Value), RepL H (gcells cV ls) noLoc vs → (∀ l ∈ ls, l ≠ []) → ∃ ds : List (TldV H), ds.map (fun p => p.1.1) = ls ∧ ds.map (fun p => p.1.2) = vs
 | [], vs, h, _ => by
  simp only [gcells, List.flatMap_nil, RepL] at h
  exact ⟨[], rfl, by rw [h]; rfl⟩
 | l :: ls, vs, h, hne => by
  have h' : RepL H (AV.sl 2 (gcells cW l) :: gcells cV ls) noLoc vs := h
  rw [RepL] at h'
  obtain ⟨v, r, rfl, h1, h2⟩ := h'
  obtain ⟨ds, e1, e2⟩ := told_ex ls r h2 fun x hx => hne x (by simp [hx])
  exact ⟨⟨(l, v), hne l (by simp), h1⟩ :: ds, by simp [e1], by simp [e2]⟩
theorem told_rep {H : Heap} : ∀ ds : List (TldV H), RepL H (gcells cV (ds.map fun p => p.1.1)) noLoc (ds.map fun p => p.1.2)
 | [] => by simp [gcells, RepL]
 | p :: ds => by
  show RepL H (AV.sl 2 (gcells cW p.1.1) :: gcells cV (ds.map fun p => p.1.1)) noLoc (p.1.2 :: ds.map fun p => p.1.2)
  rw [RepL]
  exact ⟨_, _, rfl, p.2.2, told_rep ds⟩
theorem told_one {H : Heap} (p : TldV H) : p.1.2.oneCell' = true := by
 have h := p.2.2
 simp only [RepV] at h
 obtain ⟨A, n, cap, e, _⟩ := h
 rw [e]; rfl
theorem heap_putRow_other {α : Type} [Inhabited α] (enc : α → Value) (w : World) (g off : Nat) (d : Array α) {k : Nat} (hk : k ≠ g) : (putRow enc w g off d).heap[k]? = w.heap[k]? := by
 simp only [putRow, mapBlock, Array.getElem?_modify]
 rw [if_neg (fun e => hk e.symm)]
theorem heap_putRow_same {α : Type} [Inhabited α] (enc : α → Value) (w : World) (g off : Nat) (d : Array α) {cur : Array Value} {e : TypeId} {fr : Nat × Nat} (h : w.heap[g]? = some (.cells cur e fr)) : (putRow enc w g off d).heap[g]? = some (.cells (putCells enc off d cur) e fr) := by
 simp only [putRow, mapBlock, Array.getElem?_modify]
 rw [if_pos trivial, h]; rfl
theorem heap_grow {w : World} {os : Array Obj} {k : Nat} (hk : k < w.heap.size) : (grow w os).heap[k]? = w.heap[k]? := by
 simp only [grow]
 rw [Array.getElem?_append_left hk]
theorem SWO_hd {α : Type} (f : α → Int) : SWO (Proofs.ltOf fun x y => cmpZ (f x) (f y)) := by
 have e : ∀ x y : α, Proofs.ltOf (fun x y => cmpZ (f x) (f y)) x y = decide (f x < f y) := fun x y => by unfold Proofs.ltOf; exact decide_eq_decide.2 cmpZ_lt
 exact ⟨fun x => by rw [e]; simp, fun x y z h1 h2 => by rw [e] at *; simp at *; omega, fun x y z h1 h2 => by rw [e] at *; simp at *; omega⟩
end Go.Ab
namespace Go.Proofs.YtdmkejloknejdaaGreatDoor
open Go Go.Ab Go.Mth Go.RowKit Go.Sort
def LessOk (f : FuncId) : Prop := ∀ a b : List Int, a ≠ [] → b ≠ [] → ECalls cx f [.sl 2 (gcells cW a), .sl 2 (gcells cW b)] (.lit (.int .i64 (cmpZ (hdL a) (hdL b))))
theorem cmp_lays {f : FuncId} (hf : LessOk f) {H : Heap} [Inhabited (TldV H)] {w : World} (hG : cx.G H) (hH : ∀ b o, H b = some o → w.heap[b]? = some o) {g off size : Nat} (hg : H g = none) :
  CmpLays1 Tryz.prog f #[] (fun p : TldV H => p.1.2) (fun x y => cmpZ (hdL x.1.1) (hdL y.1.1)) g off size w := fun mm os dk hdk x y => by
 have hW : ∀ b o, H b = some o → (sortWorld (fun p : TldV H => p.1.2) w g off mm dk os).heap[b]? = some o := fun b o hb => by
  have hlt := (Array.getElem?_eq_some_iff.1 (hH b o hb)).1
  have hne : b ≠ g := fun e => by rw [e, hg] at hb; cases hb
  unfold sortWorld
  rw [heap_grow (by rw [size_putRow]; exact hlt), heap_putRow_other _ _ _ _ _ hne]
  exact hH b o hb
 have h := hf x.1.1 y.1.1 x.2.1 y.2.1 H noLoc [x.1.2, y.1.2] _ hG hW (RepL.cons x.2.2 (RepL.cons y.2.2 (by simp [RepL])))
 refine Calls.mono h ?_
 rintro e w' ⟨H', v, rfl, hv, _, _, hb⟩
 simp only [RepV] at hv
 subst hv
 obtain ⟨p, hp⟩ := regrown_of_below hb.low
 refine ⟨rfl, p.d - (sortWorld (fun p : TldV H => p.1.2) w g off mm dk os).drawn, p.os, ?_⟩
 have hd := hb.drawn
 rw [hp] at hd ⊢
 have hd' : (sortWorld (fun p : TldV H => p.1.2) w g off mm dk os).drawn ≤ p.d := hd
 unfold World.drewN redrawn
 rw [Nat.add_sub_cancel' hd']
theorem c_sort (mk : List Deferred) {f : FuncId} (hf : LessOk f) (hfc : callable cx.P f = true) {n : Nat} {so : List (Nat × AV)} {m m' : List (Nat × AO)} (id : Nat) (ls : List (List Int)) (ho : lookO m id = some (.row 96 1 (gcells cV ls)))
  (hm : ∀ i, lookO m' i = if i = id then some (.row 96 1 (gcells cV (sortK ls))) else lookO m i) (hne : ∀ l ∈ ls, l ≠ []) (hinj : ∀ a ∈ ls, ∀ b ∈ ls, hdL a = hdL b → a = b) (hlen : ls.length ≤ 1000000) :
  SCalls { cx with marks := mk } n 53 [.row id, .clo f []] so m (.tup []) m' := by
 intro w0 H L a w vals hr hra
 simp only [RepL, RepV] at hra
 obtain ⟨v, _, rfl, ⟨hl, hv1⟩, _, _, rfl, ⟨vs0, rfl, rfl⟩, rfl⟩ := hra
 obtain ⟨v', vs, k, hl', hlen', hown, hrl, h1c, hsz, hmx, hH⟩ := hr.objs id _ ho
 rw [hl] at hl'
 cases hl'
 rw [gcells_len cV_len] at hlen'
 have hk : k = ls.length := by omega
 subst hk
 by_cases hls : ls = []
 ·subst hls
  have hv : ∃ p cap, v = .slice p 0 cap := by
   rcases hown.2 with ⟨rfl, _⟩ | ⟨g, cap, cur, rfl, _⟩
   ·exact ⟨none, 0, rfl⟩
   ·exact ⟨some ⟨g, 0, none⟩, cap, rfl⟩
  obtain ⟨p, cap, rfl⟩ := hv
  have h := AnyF.slices_SortFunc_none (P := Tryz.prog) (ρ := Tryz.sortW_ren) { Tryz.sortW with } p cap (.func (.func f) #[] #[]) w
  refine Calls.mono h ?_
  rintro e w' ⟨rfl, rfl⟩
  refine ⟨.tuple #[], H, L, rfl, Ext.refl _ _, by simp only [RepV]; exact ⟨[], rfl, by simp [RepL]⟩, ?_⟩
  exact hr.fewer (μ := lookO m') fun i o hi => by
   rw [hm i] at hi
   by_cases hid : i = id
   ·subst hid; rw [if_pos rfl] at hi; rw [← hi]; exact ho
   ·rw [if_neg hid] at hi; exact hi
 ·rcases hown.2 with ⟨rfl, hk0⟩ | ⟨g, cap, cur, rfl, hB, hh, hnc, hcm, hcs, htake⟩
  ·exact absurd (List.eq_nil_of_length_eq_zero hk0) hls
  obtain ⟨ds, e1, e2⟩ := told_ex ls vs hrl hne
  have hdl : ds.length = ls.length := by rw [← e1, List.length_map]
  obtain ⟨x0, _, hx0⟩ : ∃ x l, ds = x :: l := by
   cases ds with
   | nil => exact absurd (by rw [← e1]; rfl) hls
   | cons x l => exact ⟨x, l, rfl⟩
  haveI : Inhabited (TldV H) := ⟨x0⟩
  have hgn : H g = none := hH g rfl
  have hglt := (Array.getElem?_eq_some_iff.1 hh).1
  have hget : ∀ (j : Nat), j < ds.length → vs[j]? = some (ds.toArray[j]!).1.2 := fun j hj => by
   have e8 : ds.toArray[j]! = ds[j] := by
    rw [getElem!_pos ds.toArray j (by simpa using hj)]
    exact List.getElem_toArray _
   rw [← e2, List.getElem?_map, List.getElem?_eq_getElem hj, Option.map_some, e8]
  have hHd : Holds (fun p : TldV H => p.1.2) w g 0 ds.toArray := fun j hj => by
   have hj' : j < ds.length := by simpa using hj
   refine ⟨?_, by unfold World.frozen?; simp only [hh]; simp⟩
   unfold World.cell?
   simp only [hh]
   have := hget j hj'
   rw [← htake, List.getElem?_take] at this
   split at this
   ·simpa using this
   ·cases this
  have h := Any.slices_SortFunc (P := Tryz.prog) (ρ := Tryz.sortW_ren) Tryz.sortW (fun p : TldV H => p.1.2) told_one (fun x y => cmpZ (hdL x.1.1) (hdL y.1.1)) (SWO_hd fun p : TldV H => hdL p.1.1) f #[] g 0 cap ds.toArray w
   (fun args w => run_callFunc hfc args w) (cmp_lays hf hr.glob hr.heap hgn) hHd hglt (by have h9 : ds.toArray.size = ds.length := List.size_toArray; omega)
  have hsz2 : ds.toArray.size = ls.length := by simp [hdl]
  rw [hsz2] at h
  refine Calls.mono h ?_
  rintro e w' ⟨rfl, d', q, os, hp, hs, rfl⟩
  have hds : d'.size = ls.length := hp.1.trans hsz2
  have hp2 : d'.toList.Perm ds := by
   have := hp.2.2
   rw [show d'.extract 0 ls.length = d' by rw [← hds]; exact Array.extract_size, show ds.toArray.extract 0 ls.length = ds.toArray by rw [← hsz2]; exact Array.extract_size] at this
   exact this
  have hls' : d'.toList.map (fun p => p.1.1) = sortK ls := by
   refine sortK_uniq (by rw [← e1]; exact hp2.map _) ?_ hinj
   rw [List.pairwise_map, List.pairwise_iff_getElem]
   intro i j hi hj hij
   have h1 := hs i j (Nat.zero_le _) hij (by have h9 : j < d'.size := (by simpa using hj); omega)
   have e9 : ∀ x y : TldV H, Proofs.ltOf (fun x y => cmpZ (hdL x.1.1) (hdL y.1.1)) x y = decide (hdL x.1.1 < hdL y.1.1) := fun x y => by unfold Proofs.ltOf; exact decide_eq_decide.2 cmpZ_lt
   rw [e9] at h1
   have h2 := of_decide_eq_false h1
   have hi' : i < d'.size := by simpa using hi
   have hj' : j < d'.size := by simpa using hj
   rw [getElem!_pos d' i hi', getElem!_pos d' j hj'] at h2
   simp only [Array.getElem_toList]
   omega
  have hrl' := told_rep d'.toList
  rw [hls'] at hrl'
  have hsl : (sortK ls).length = ls.length := (sortK_perm ls).length_eq
  have hw1 := hr.wrote (ob' := .row 96 1 (gcells cV (sortK ls))) ho hl rfl (w' := putRow (fun p : TldV H => p.1.2) (Sort.ahead w q) g 0 d') (fun k hk => heap_putRow_other _ _ _ _ _ hk)
   ⟨rfl, rfl, rfl, by rw [size_putRow]; exact Nat.le_refl _, fun k hk => heap_putRow_other _ _ _ _ _ (by omega), Nat.le_add_right _ _⟩
   ⟨_, d'.toList.map (fun p => p.1.2), ls.length, hl, by rw [gcells_len cV_len, hsl], ⟨by rw [List.length_map, Array.length_toList, hds, Nat.mul_one], .inr ⟨g, cap, putCells (fun p : TldV H => p.1.2) 0 d' cur, rfl, hB, heap_putRow_same _ (Sort.ahead w q) _ _ _ hh, hnc, hcm, by simp [putCells, hcs], ?_⟩⟩, hrl', fun u hu => ?_, hsz, by rw [gcells_len cV_len, hsl]; rw [gcells_len cV_len] at hmx; exact hmx, hH⟩
  ·refine ⟨.tuple #[], H, L, rfl, Ext.refl _ _, by simp only [RepV]; exact ⟨[], rfl, by simp [RepL]⟩, ?_⟩
   have hg2 := hw1.grow (Ext.refl _ _) (w' := grow (putRow (fun p : TldV H => p.1.2) (Sort.ahead w q) g 0 d') os) (fun b o hb => by rw [heap_grow (Array.getElem?_eq_some_iff.1 (hw1.heap b o hb)).1]; exact hw1.heap b o hb)
    ⟨rfl, rfl, rfl, by simp [grow], fun k hk => heap_grow hk, Nat.le_refl _⟩
   exact hg2.fewer (μ := lookO m') fun i o hi => by
    rw [hm i] at hi
    exact hi
  ·apply List.ext_getElem?
   intro j
   rw [List.getElem?_take, List.getElem?_map]
   by_cases hj : j < ls.length * 1
   ·have hj2 : j < d'.size := by omega
    have hj3 : j < cur.size := by rw [hcs]; omega
    rw [if_pos hj]
    simp only [putCells, Array.getElem?_toList, Array.getElem?_mapIdx]
    rw [Array.getElem?_eq_getElem hj3, Array.getElem?_eq_getElem hj2]
    simp only [Option.map_some]
    rw [if_pos ⟨Nat.zero_le _, by omega⟩, Nat.sub_zero, getElem!_pos d' j hj2]
   ·rw [if_neg hj, Array.getElem?_toList, Array.getElem?_eq_none (by omega)]; rfl
  ·obtain ⟨p, _, rfl⟩ := List.mem_map.1 hu
   exact told_one p
end Go.Proofs.YtdmkejloknejdaaGreatDoor

namespace Go.Mth
open Go.Ab
theorem iterZ_add (m : MapM) (x : Int) (a : Nat) : ∀ k, iterZ m k (iterZ m a x) = iterZ m (k + a) x
 | 0 => by rw [Nat.zero_add]; rfl
 | k + 1 => by rw [Nat.succ_add]; show stepZ m _ = stepZ m _; rw [iterZ_add m x a k]
theorem iterZ_per {m : MapM} {x : Int} {n : Nat} (h : iterZ m n x = x) (k : Nat) : iterZ m (k + n) x = iterZ m k x := by rw [← iterZ_add, h]
theorem iterZ_mul {m : MapM} {x : Int} {n : Nat} (h : iterZ m n x = x) : ∀ q, iterZ m (q * n) x = x
 | 0 => by rw [Nat.zero_mul]; rfl
 | q + 1 => by rw [Nat.succ_mul, iterZ_per h, iterZ_mul h q]
theorem iterZ_mod {m : MapM} {x : Int} {n : Nat} (h : iterZ m n x = x) (k : Nat) : iterZ m k x = iterZ m (k % n) x := by
 have e := Nat.div_add_mod k n
 have h2 := iterZ_add m x (n * (k / n)) (k % n)
 rw [Nat.mul_comm, iterZ_mul h] at h2
 rw [h2]; congr 1; rw [Nat.mul_comm]; omega
theorem rot_get {l : List Int} {a k : Nat} (ha : a ≤ l.length) (hk : k < l.length) : (rotL l a).getD k default = if a + k < l.length then l.getD (a + k) default else l.getD (a + k - l.length) default := by
 unfold rotL
 simp only [List.getD_eq_getElem?_getD]
 split
 ·rename_i h
  rw [List.getElem?_append_left (by rw [List.length_drop]; omega), List.getElem?_drop]
 ·rename_i h
  rw [List.getElem?_append_right (by rw [List.length_drop]; omega), List.length_drop, List.getElem?_take_of_lt (by omega)]
  congr 2; omega
theorem listI_ext {x y : List Int} (hl : x.length = y.length) (h : ∀ k, k < x.length → x.getD k default = y.getD k default) : x = y := by
 refine List.ext_getElem hl fun k h1 h2 => ?_
 have := h k h1
 simpa [List.getD_eq_getElem?_getD, List.getElem?_eq_getElem h1, List.getElem?_eq_getElem h2] using this
theorem cyc_orb {m : MapM} {x : Int} {n : Nat} (h : iterZ m n x = x) (hn : 0 < n) : cyc m x n = orbL m (iterZ m (leastI (orbL m x n) n) x) n := by
 have hl := orbL_len m x n
 have ha := least_lt (l := orbL m x n) (by omega) n (by omega)
 unfold cyc rotM
 rw [hl] at ha ⊢
 refine listI_ext (by rw [rot_len, hl, orbL_len]) fun k hk => ?_
 rw [rot_len, hl] at hk
 rw [rot_get (by omega) (by omega), hl, orbL_get hk, iterZ_add]
 split
 ·rename_i e; rw [orbL_get (by omega), Nat.add_comm]
 ·rename_i e
  rw [orbL_get (by omega), ← iterZ_per h]
  congr 1; omega
def hitW (m : MapM) (w : List Int) : Prop := firstP w ∧ (fixZ m w).den = 1
instance (m : MapM) (w : List Int) : Decidable (hitW m w) := inferInstanceAs (Decidable (firstP w ∧ (fixZ m w).den = 1))
def cyT (m : MapM) (n t : Nat) : List Int := cyc m (fixZ m (wordT m.mod.toNat n t)).num n
def lsT (m : MapM) (n t : Nat) : List (List Int) := ((List.range t).filter fun t => decide (hitW m (wordT m.mod.toNat n t))).map (cyT m n)
def lpN (m : MapM) (n : Nat) : List (List Int) := sortK (lsT m n (m.mod.toNat ^ n))
def cyU (m : MapM) : Nat → List (List Int)
 | 0 => []
 | k + 1 => cyU m k ++ lpN m (k + 1)
noncomputable def lpL (m : MapM) (k : Int) : List (List Int) := if chkE m k = 0 then cyU m k.toNat else []
theorem lsT_y {m : MapM} {n t : Nat} (h1 : firstP (wordT m.mod.toNat n t)) (h2 : (fixZ m (wordT m.mod.toNat n t)).den = 1) : lsT m n t ++ [cyT m n t] = lsT m n (t + 1) := by
 have h : hitW m (wordT m.mod.toNat n t) := ⟨h1, h2⟩
 unfold lsT
 rw [List.range_succ, List.filter_append, List.filter_cons, if_pos (decide_eq_true h), List.filter_nil, List.map_append]; rfl
theorem lsT_n {m : MapM} {n t : Nat} (h : ¬ (firstP (wordT m.mod.toNat n t) ∧ (fixZ m (wordT m.mod.toNat n t)).den = 1)) : lsT m n t = lsT m n (t + 1) := by
 have h : ¬ hitW m (wordT m.mod.toNat n t) := h
 unfold lsT
 rw [List.range_succ, List.filter_append, List.filter_cons, if_neg (by simp [h]), List.filter_nil, List.append_nil]
theorem lsT_len (m : MapM) (n t : Nat) : (lsT m n t).length ≤ t := by
 unfold lsT
 rw [List.length_map]
 have := List.length_filter_le (fun t => decide (hitW m (wordT m.mod.toNat n t))) (List.range t)
 rw [List.length_range] at this
 exact this
theorem lpN_len (m : MapM) (n : Nat) : (lpN m n).length ≤ m.mod.toNat ^ n := by unfold lpN; rw [(sortK_perm _).length_eq]; exact lsT_len _ _ _
structure Loo (m : MapM) (n : Nat) (l : List Int) : Prop where
 pos : 0 < n
 back : iterZ m n (hdL l) = hdL l
 orb : l = orbL m (hdL l) n
 low : ∀ i, i < n → hdL l ≤ iterZ m i (hdL l)
 alone : ∀ i, 0 < i → i < n → iterZ m i (hdL l) ≠ hdL l
 fit : Fit (hdL l)
theorem valW_pos_rot {m : MapM} (hm : OkM m) {x : Int} {n d : Nat} (h : iterZ m n x = x) (hd : d ≤ n) : rotL (wordZ m x n) d = wordZ m (iterZ m d x) n := by
 have hl := wordZ_len m x n
 refine list_extZ (by rw [rot_len, wordZ_len, wordZ_len]) fun k hk => ?_
 rw [rot_len, hl] at hk
 have h1 := rot_get (l := wordZ m x n) (a := d) (k := k) (by omega) (by omega)
 rw [show (default : Int) = 0 from rfl] at h1
 rw [h1, hl, wordZ_get m _ _ k hk, iterZ_add]
 split
 ·rw [wordZ_get m _ _ _ (by omega), Nat.add_comm]
 ·rw [wordZ_get m _ _ _ (by omega), ← iterZ_per h]
  congr 2; omega
theorem first_alone {m : MapM} (hm : OkM m) {x : Int} {n : Nat} (h : iterZ m n x = x) (hf : firstP (wordZ m x n)) : ∀ i, 0 < i → i < n → iterZ m i x ≠ x := fun i h1 h2 e => by
 have h3 := (first_val hm (wordZ_is hm x n)).1 hf i (by rw [wordZ_len]; exact h2) h1
 rw [valW_pos_rot hm h (by omega), e] at h3
 exact absurd h3 (Int.lt_irrefl _)
theorem iter_alone {m : MapM} {x : Int} {n : Nat} (h : iterZ m n x = x) (ha : ∀ i, 0 < i → i < n → iterZ m i x ≠ x) {a : Nat} (hn : a < n) : ∀ i, 0 < i → i < n → iterZ m i (iterZ m a x) ≠ iterZ m a x := fun i h1 h2 e => by
 refine ha i h1 h2 ?_
 have e2 := congrArg (iterZ m (n - a)) e
 rw [iterZ_add, iterZ_add, iterZ_add, show n - a + a = n by omega, h, show n - a + i + a = i + n by omega, iterZ_per h] at e2
 exact e2
theorem hd_orb (m : MapM) (x : Int) {n : Nat} (hn : 0 < n) : hdL (orbL m x n) = x := by unfold hdL; rw [orbL_get hn]; rfl
theorem cyc_loo {m : MapM} (hm : OkM m) {x : Int} {n : Nat} (h : iterZ m n x = x) (hn : 0 < n) (hn2 : n ≤ 200) (ha : ∀ i, 0 < i → i < n → iterZ m i x ≠ x) {E : Nat} (hE : 6 ≤ E ∧ E ≤ 1000) (hx : x.natAbs < 10 ^ E) : Loo m n (cyc m x n) := by
 have hl := orbL_len m x n
 have hlt := least_lt (l := orbL m x n) (by omega) n (by omega)
 rw [hl] at hlt
 have hc := cyc_orb h hn
 have hh : hdL (cyc m x n) = iterZ m (leastI (orbL m x n) n) x := by rw [hc, hd_orb m _ hn]
 have hb : iterZ m n (iterZ m (leastI (orbL m x n) n) x) = iterZ m (leastI (orbL m x n) n) x := by rw [iterZ_add, Nat.add_comm, iterZ_per h]
 refine ⟨hn, by rw [hh]; exact hb, by rw [hh]; exact hc, fun i hi => ?_, fun i h1 h2 => by rw [hh]; exact iter_alone h ha hlt i h1 h2, ?_⟩
 ·rw [hh, iterZ_add, iterZ_mod h (i + leastI (orbL m x n) n)]
  have h3 := least_le (l := orbL m x n) n ((i + leastI (orbL m x n) n) % n) (Nat.mod_lt _ hn)
  rw [orbL_get hlt, orbL_get (Nat.mod_lt _ hn)] at h3
  exact h3
 ·rw [hh]
  exact fit_of_pow' (iter_abs hm hE.1 hx _) (by omega) (by omega)
theorem lsT_mem {m : MapM} (hm : OkM m) (hf : freeM m) {n t : Nat} (hn : 0 < n) (hn2 : n ≤ 100) {l : List Int} (h : l ∈ lsT m n t) : ∃ t', t' < t ∧ hitW m (wordT m.mod.toNat n t') ∧ l = cyT m n t' ∧ iterZ m n (fixZ m (wordT m.mod.toNat n t')).num = (fixZ m (wordT m.mod.toNat n t')).num ∧ wordZ m (fixZ m (wordT m.mod.toNat n t')).num n = wordT m.mod.toNat n t' ∧ Loo m n l := by
 obtain ⟨t', h1, rfl⟩ := List.mem_map.1 h
 obtain ⟨h2, h3⟩ := List.mem_filter.1 h1
 have h4 := of_decide_eq_true h3
 have hw := wordT_is hm n t'
 have hl := wordT_len m.mod.toNat n t'
 have hne : wordT m.mod.toNat n t' ≠ [] := fun e => by rw [e] at hl; simp at hl; omega
 obtain ⟨_, e1, e2⟩ := fix_int hm hf hw h4.2
 rw [hl] at e1 e2
 refine ⟨t', by simpa using h2, h4, rfl, e1, e2, cyc_loo hm e1 hn (by omega) (first_alone hm e1 (by rw [e2]; exact h4.1)) (E := 3 * n + 7) (by omega) ?_⟩
 obtain ⟨a1, _⟩ := redZ_abs (n := (lineZ m (wordT m.mod.toNat n t')).add) (line_ne hm hf hw hne)
 obtain ⟨l1, l2, l3⟩ := line_abs hm _ hw
 rw [hl] at l2
 exact Nat.lt_of_le_of_lt a1 l2
theorem loo_inj {m : MapM} {n : Nat} {a b : List Int} (ha : Loo m n a) (hb : Loo m n b) (h : hdL a = hdL b) : a = b := by rw [ha.orb, hb.orb, h]
theorem loo_len {m : MapM} {n : Nat} {l : List Int} (h : Loo m n l) : l.length = n := by rw [h.orb, orbL_len]
theorem loo_get {m : MapM} {n : Nat} {l : List Int} (h : Loo m n l) {i : Nat} (hi : i < n) : l.getD i default = iterZ m i (hdL l) := by
 have e := h.orb
 rw [congrArg (fun x : List Int => x.getD i default) e]
 exact orbL_get hi
theorem lsT_ne {m : MapM} (hm : OkM m) (hf : freeM m) {n t : Nat} (hn : 0 < n) (hn2 : n ≤ 100) : ∀ l ∈ lsT m n t, l ≠ [] := fun l hl e => by
 obtain ⟨_, _, _, _, _, _, h⟩ := lsT_mem hm hf hn hn2 hl
 have := loo_len h
 rw [e] at this; simp at this; omega
theorem lsT_inj {m : MapM} (hm : OkM m) (hf : freeM m) {n t : Nat} (hn : 0 < n) (hn2 : n ≤ 100) : ∀ a ∈ lsT m n t, ∀ b ∈ lsT m n t, hdL a = hdL b → a = b := fun a ha b hb e => by
 obtain ⟨_, _, _, _, _, _, h1⟩ := lsT_mem hm hf hn hn2 ha
 obtain ⟨_, _, _, _, _, _, h2⟩ := lsT_mem hm hf hn hn2 hb
 exact loo_inj h1 h2 e
theorem lpN_loo {m : MapM} (hm : OkM m) (hf : freeM m) {n : Nat} (hn : 0 < n) (hn2 : n ≤ 100) {l : List Int} (h : l ∈ lpN m n) : Loo m n l := by
 obtain ⟨_, _, _, _, _, _, h1⟩ := lsT_mem hm hf hn hn2 ((sortK_perm _).mem_iff.1 h)
 exact h1
theorem getD_memL {l : List (List Int)} {i : Nat} (h : i < l.length) : l.getD i default ∈ l := by rw [List.getD_eq_getElem?_getD, List.getElem?_eq_getElem h]; exact List.getElem_mem h
theorem loo_dig {m : MapM} (hm : OkM m) {n : Nat} (hn2 : n ≤ 100) {l : List Int} (h : Loo m n l) {i : Nat} (hi : i < n) : (digs (l.getD i default).natAbs).length ≤ 1000 := by
 rw [loo_get h hi]
 have := iter_len hm (hdL l) i
 have := fit_len h.fit
 omega
theorem cyU_len (m : MapM) (hm : OkM m) : ∀ k, (cyU m k).length ≤ k * m.mod.toNat ^ k
 | 0 => by simp [cyU]
 | k + 1 => by
  have h1 := cyU_len m hm k
  have h2 := lpN_len m (k + 1)
  have h3 : m.mod.toNat ^ k ≤ m.mod.toNat ^ (k + 1) := Nat.pow_le_pow_right (by have := hm.1; omega) (by omega)
  have h4 := Nat.mul_le_mul_left k h3
  rw [cyU, List.length_append, Nat.succ_mul]
  omega
theorem toNat_pw {m : MapM} (hM : OkM m) (k : Nat) : ((m.mod.toNat ^ k : Nat) : Int) = m.mod ^ k := by rw [Int.natCast_pow, Int.toNat_of_nonneg (by have := hM.1; omega)]
theorem lpL_no {m : MapM} {k : Int} (h : chkE m k ≠ 0) : lpL m k = [] := if_neg h
theorem lpL_ok {m : MapM} {k : Int} (h : chkE m k = 0) : lpL m k = cyU m k.toNat := if_pos h
theorem ns_rep (n : Nat) : ns .i64 (List.replicate n 0) = is .i64 (List.replicate n (0 : Int)) := by simp [ns, is, nm, im]
theorem wordT_0 (M : Nat) : ∀ n, wordT M n 0 = List.replicate n (0 : Int)
 | 0 => rfl
 | n + 1 => by rw [wordT, Nat.zero_div, wordT_0 M n, Nat.zero_mod, List.replicate_succ']; rfl
theorem next_tot {m : MapM} (hm : OkM m) {n t q : Nat} {w : List Int} (h : nextP m n t w q) (hq : ¬ q < n) (ht : (t : Int) < m.mod ^ n) : t + 1 = m.mod.toNat ^ n := by
 have h3 := h.2.2.1
 have e : q = n := by omega
 subst e
 have h1 := next_n hm h ht
 have h2 := toNat_pw hm q
 omega
theorem out_s {A L : List (List Int)} {i q : Nat} (hi : i < L.length) (hq : (L.getD i default).length ≤ q) : (A ++ L.take i) ++ [(L.getD i default).take q] = A ++ L.take (i + 1) := by
 rw [List.take_of_length_le hq, List.append_assoc, List.take_add_one, List.getD_eq_getElem?_getD, List.getElem?_eq_getElem hi]; rfl
theorem strs_take {l : List Int} {q : Nat} (hq : q < l.length) : sbs ((l.take q).map txt) ++ [.lit (.string (txt (l.getD q default)))] = sbs ((l.take (q + 1)).map txt) := by
 rw [List.take_add_one, List.getD_eq_getElem?_getD, List.getElem?_eq_getElem hq]
 unfold sbs
 rw [List.map_append, List.map_append]; rfl
theorem row_is' {e : TypeId} {k : IntKind} {xs ys : List Int} (h : xs = ys) : (some (AO.row e 1 (is k xs)) : Option AO) = some (AO.row e 1 (is k ys)) := by rw [h]
theorem row_start (e : TypeId) (M n : Nat) : (some (AO.row e 1 (ns .i64 (List.replicate n 0))) : Option AO) = some (AO.row e 1 (is .i64 (wordT M n 0))) := by rw [ns_rep, wordT_0]
end Go.Mth

namespace Go.Mth
open Go.Ab
theorem per_min {m : MapM} {x : Int} : ∀ k, 0 < k → iterZ m k x = x → ∃ p, 0 < p ∧ p ≤ k ∧ iterZ m p x = x ∧ ∀ i, 0 < i → i < p → iterZ m i x ≠ x := by
 intro k
 induction k using Nat.strongRecOn with
 | ind k ih =>
  intro hk h
  by_cases hh : ∃ i, 0 < i ∧ i < k ∧ iterZ m i x = x
  ·obtain ⟨i, h1, h2, h3⟩ := hh
   obtain ⟨p, a, b, c, d⟩ := ih i h2 h1 h3
   exact ⟨p, a, by omega, c, d⟩
  ·exact ⟨k, hk, Nat.le_refl _, h, fun i h1 h2 h3 => hh ⟨i, h1, h2, h3⟩⟩
theorem arg_min (f : Nat → Int) : ∀ n, 0 < n → ∃ d, d < n ∧ ∀ i, i < n → f d ≤ f i
 | 0, h => absurd h (by decide)
 | 1, _ => ⟨0, by decide, fun i hi => by rw [show i = 0 by omega]; exact Int.le_refl _⟩
 | n + 2, _ => by
  obtain ⟨d, h1, h2⟩ := arg_min f (n + 1) (by omega)
  by_cases h : f d ≤ f (n + 1)
  ·exact ⟨d, by omega, fun i hi => by
    by_cases e : i = n + 1
    ·rw [e]; exact h
    ·exact h2 i (by omega)⟩
  ·exact ⟨n + 1, by omega, fun i hi => by
    by_cases e : i = n + 1
    ·rw [e]; exact Int.le_refl _
    ·have := h2 i (by omega)
     omega⟩
theorem word_inj {m : MapM} (hm : OkM m) (hf : freeM m) {y z : Int} {p : Nat} (hp : 0 < p) (hy : iterZ m p y = y) (hz : iterZ m p z = z) (h : wordZ m y p = wordZ m z p) : y = z := by
 have a := int_fix hm hf hp hy
 rw [h, int_fix hm hf hp hz] at a
 exact (congrArg FrZ.num a).symm
theorem iter_back {m : MapM} {x : Int} {p : Nat} (h : iterZ m p x = x) (d : Nat) : iterZ m p (iterZ m d x) = iterZ m d x := by rw [iterZ_add, Nat.add_comm, iterZ_per h]
theorem first_rot {m : MapM} (hm : OkM m) (hf : freeM m) {x : Int} {p : Nat} (hp : 0 < p) (h : iterZ m p x = x) (ha : ∀ i, 0 < i → i < p → iterZ m i x ≠ x) : ∃ d, d < p ∧ firstP (wordZ m (iterZ m d x) p) := by
 obtain ⟨d, hd, hmin⟩ := arg_min (fun d => valW m.mod (wordZ m (iterZ m d x) p)) p hp
 refine ⟨d, hd, (first_val hm (wordZ_is hm _ _)).2 fun i hi h0 => ?_⟩
 rw [wordZ_len] at hi
 rw [valW_pos_rot hm (iter_back h d) (Nat.le_of_lt hi)]
 have h1 := hmin ((i + d) % p) (Nat.mod_lt _ hp)
 have h2 : iterZ m i (iterZ m d x) = iterZ m ((i + d) % p) x := by rw [iterZ_add, iterZ_mod h]
 rcases Int.lt_or_eq_of_le h1 with e | e
 ·rw [h2]; exact e
 ·have e2 := valW_inj hm (wordZ_is hm _ _) (wordZ_is hm _ _) (by rw [wordZ_len, wordZ_len]) e
  have e3 := word_inj hm hf hp (iter_back h d) (iter_back h _) e2
  exact absurd (h2.trans e3.symm) (iter_alone h ha hd i h0 hi)
theorem rot_mem {α : Type} {l : List α} {i : Nat} {y : α} : y ∈ rotL l i ↔ y ∈ l := by
 unfold rotL
 rw [List.mem_append]
 constructor
 ·rintro (h | h)
  ·exact List.mem_of_mem_drop h
  ·exact List.mem_of_mem_take h
 ·intro h
  rw [← List.take_append_drop i l, List.mem_append] at h
  exact h.symm
theorem orb_mem {m : MapM} {x y : Int} {n : Nat} : y ∈ orbL m x n ↔ ∃ i, i < n ∧ y = iterZ m i x := by
 unfold orbL
 rw [List.mem_map]
 constructor
 ·rintro ⟨i, h, rfl⟩; exact ⟨i, List.mem_range.1 h, rfl⟩
 ·rintro ⟨i, h, rfl⟩; exact ⟨i, List.mem_range.2 h, rfl⟩
theorem cyc_mem {m : MapM} {x y : Int} {n : Nat} : y ∈ cyc m x n ↔ ∃ i, i < n ∧ y = iterZ m i x := by unfold cyc rotM; rw [rot_mem, orb_mem]
theorem lsT_has {m : MapM} (hm : OkM m) (hf : freeM m) {n : Nat} (hn : 0 < n) {y : Int} (h : iterZ m n y = y) (h1 : firstP (wordZ m y n)) : cyc m y n ∈ lsT m n (m.mod.toNat ^ n) := by
 have hw := wordZ_is hm y n
 have hl := wordZ_len m y n
 have hwt : wordT m.mod.toNat n (valW m.mod (wordZ m y n)).toNat = wordZ m y n := by
  have := wordT_valW hm _ hw
  rwa [hl] at this
 have hb := valW_bd hm _ hw
 rw [hl, ← toNat_pw hm n] at hb
 have e := int_fix hm hf hn h
 unfold lsT
 refine List.mem_map.2 ⟨(valW m.mod (wordZ m y n)).toNat, List.mem_filter.2 ⟨List.mem_range.2 (by omega), decide_eq_true ?_⟩, ?_⟩
 ·rw [hwt]; exact ⟨h1, by rw [e]⟩
 ·unfold cyT; rw [hwt, e]
theorem lpN_mem {m : MapM} {n : Nat} {l : List Int} : l ∈ lpN m n ↔ l ∈ lsT m n (m.mod.toNat ^ n) := (sortK_perm _).mem_iff
theorem cyU_mem {m : MapM} {l : List Int} : ∀ K, l ∈ cyU m K ↔ ∃ n, 0 < n ∧ n ≤ K ∧ l ∈ lpN m n
 | 0 => ⟨fun h => (by cases h), fun ⟨n, h1, h2, _⟩ => by omega⟩
 | K + 1 => by
  rw [cyU, List.mem_append, cyU_mem K]
  constructor
  ·rintro (⟨n, h1, h2, h3⟩ | h)
   ·exact ⟨n, h1, by omega, h3⟩
   ·exact ⟨K + 1, by omega, Nat.le_refl _, h⟩
  ·rintro ⟨n, h1, h2, h3⟩
   by_cases e : n = K + 1
   ·subst e; exact .inr h3
   ·exact .inl ⟨n, h1, by omega, h3⟩
theorem cyU_loo {m : MapM} (hm : OkM m) (hf : freeM m) {K : Nat} (hK : K ≤ 100) {l : List Int} (h : l ∈ cyU m K) : l.length ≤ K ∧ Loo m l.length l := by
 obtain ⟨n, h1, h2, h3⟩ := (cyU_mem K).1 h
 have h4 := lpN_loo hm hf h1 (by omega) h3
 rw [loo_len h4]
 exact ⟨h2, h4⟩
theorem loo_mem {m : MapM} {n : Nat} {l : List Int} (h : Loo m n l) {z : Int} (hz : z ∈ l) : ∃ i, i < n ∧ z = iterZ m i (hdL l) := by
 rw [h.orb] at hz
 exact orb_mem.1 hz
theorem loo_per {m : MapM} {n : Nat} {l : List Int} (h : Loo m n l) {z : Int} (hz : z ∈ l) : iterZ m n z = z := by
 obtain ⟨i, _, rfl⟩ := loo_mem h hz
 exact iter_back h.back i
theorem loo_alone {m : MapM} {n : Nat} {l : List Int} (h : Loo m n l) {z : Int} (hz : z ∈ l) : ∀ i, 0 < i → i < n → iterZ m i z ≠ z := by
 obtain ⟨i, hi, rfl⟩ := loo_mem h hz
 exact iter_alone h.back h.alone hi
theorem cyU_has {m : MapM} (hm : OkM m) (hf : freeM m) {K k : Nat} (h1 : 0 < k) (h2 : k ≤ K) {x : Int} (h : iterZ m k x = x) : ∃ l, l ∈ cyU m K ∧ x ∈ l := by
 obtain ⟨p, hp, hpk, hb, ha⟩ := per_min k h1 h
 obtain ⟨d, hd, h3⟩ := first_rot hm hf hp hb ha
 refine ⟨cyc m (iterZ m d x) p, (cyU_mem K).2 ⟨p, hp, by omega, lpN_mem.2 (lsT_has hm hf hp (iter_back hb d) h3)⟩, cyc_mem.2 ⟨(p - d) % p, Nat.mod_lt _ hp, ?_⟩⟩
 rw [← iterZ_mod (iter_back hb d), iterZ_add, show p - d + d = p by omega, hb]
theorem mem_orb {m : MapM} {x : Int} {n : Nat} (h : iterZ m n x = x) {i : Nat} (hi : i < n) : ∃ j, j < n ∧ x = iterZ m j (iterZ m i x) := by
 refine ⟨(n - i) % n, Nat.mod_lt _ (by omega), ?_⟩
 rw [← iterZ_mod (iter_back h i), iterZ_add, show n - i + i = n by omega, h]
theorem lsT_nod {m : MapM} (hm : OkM m) (hf : freeM m) {n : Nat} (hn : 0 < n) (hn2 : n ≤ 100) : (lsT m n (m.mod.toNat ^ n)).Pairwise (· ≠ ·) := by
 have hM0 : 0 < m.mod.toNat := by have := hm.1; omega
 have hMM : ((m.mod.toNat : Nat) : Int) = m.mod := Int.toNat_of_nonneg (by have := hm.1; omega)
 unfold lsT
 rw [List.pairwise_map]
 refine (List.pairwise_lt_range.filter _).imp_of_mem ?_
 intro a b ha hb hab e
 obtain ⟨a1, a2⟩ := List.mem_filter.1 ha
 obtain ⟨b1, b2⟩ := List.mem_filter.1 hb
 have a3 := of_decide_eq_true a2
 have b3 := of_decide_eq_true b2
 have hwa := wordT_is hm n a
 have hwb := wordT_is hm n b
 have hla := wordT_len m.mod.toNat n a
 have hlb := wordT_len m.mod.toNat n b
 obtain ⟨_, ea1, ea2⟩ := fix_int hm hf hwa a3.2
 obtain ⟨_, eb1, eb2⟩ := fix_int hm hf hwb b3.2
 rw [hla] at ea1 ea2
 rw [hlb] at eb1 eb2
 unfold cyT at e
 generalize hy : (fixZ m (wordT m.mod.toNat n a)).num = y at *
 generalize hz : (fixZ m (wordT m.mod.toNat n b)).num = z at *
 have hyz : y = z := by
  have my : y ∈ cyc m z n := by rw [← e]; exact cyc_mem.2 ⟨0, hn, rfl⟩
  obtain ⟨i, hi, e1⟩ := cyc_mem.1 my
  obtain ⟨j, hj, e2⟩ := mem_orb eb1 hi
  rw [← e1] at e2
  by_cases h0 : i = 0
  ·rw [e1, h0]; rfl
  by_cases h1 : j = 0
  ·rw [e2, h1]; rfl
  have f1 := (first_val hm hwb).1 b3.1 i (by omega) (by omega)
  have f2 := (first_val hm hwa).1 a3.1 j (by omega) (by omega)
  rw [← eb2, valW_pos_rot hm eb1 (Nat.le_of_lt hi), ← e1] at f1
  rw [← ea2, valW_pos_rot hm ea1 (Nat.le_of_lt hj), ← e2] at f2
  omega
 have e3 : wordT m.mod.toNat n a = wordT m.mod.toNat n b := by rw [← ea2, ← eb2, hyz]
 have va := valW_wordT m.mod.toNat hM0 n a (List.mem_range.1 a1)
 have vb := valW_wordT m.mod.toNat hM0 n b (List.mem_range.1 b1)
 rw [e3, vb] at va
 omega
def ordL (a b : List Int) : Prop := a.length < b.length ∨ a.length = b.length ∧ hdL a < hdL b
instance (a b : List Int) : Decidable (ordL a b) := inferInstanceAs (Decidable (a.length < b.length ∨ a.length = b.length ∧ hdL a < hdL b))
theorem lpN_ord {m : MapM} (hm : OkM m) (hf : freeM m) {n : Nat} (hn : 0 < n) (hn2 : n ≤ 100) : (lpN m n).Pairwise ordL := by
 have h1 : (lpN m n).Pairwise (· ≠ ·) := (sortK_perm (lsT m n (m.mod.toNat ^ n))).symm.pairwise (lsT_nod hm hf hn hn2) (fun h => Ne.symm h)
 refine ((sortK_srt _).and h1).imp_of_mem ?_
 intro a b ha hb hab
 have la := lpN_loo hm hf hn hn2 ha
 have lb := lpN_loo hm hf hn hn2 hb
 refine .inr ⟨(loo_len la).trans (loo_len lb).symm, ?_⟩
 rcases Int.lt_or_eq_of_le hab.1 with e | e
 ·exact e
 ·exact absurd (loo_inj la lb e) hab.2
theorem cyU_ord {m : MapM} (hm : OkM m) (hf : freeM m) : ∀ K, K ≤ 100 → (cyU m K).Pairwise ordL
 | 0, _ => List.Pairwise.nil
 | K + 1, h => by
  rw [cyU, List.pairwise_append]
  refine ⟨cyU_ord hm hf K (by omega), lpN_ord hm hf (by omega) h, fun a ha b hb => .inl ?_⟩
  have h1 := (cyU_loo hm hf (by omega) ha).1
  have h2 := loo_len (lpN_loo hm hf (by omega) h hb)
  omega
theorem ord_ne {a b : List Int} (h : ordL a b) : a ≠ b := fun e => by
 subst e
 rcases h with h | h <;> omega
theorem ord_tr {a b c : List Int} (h : ordL a b) (h2 : ordL b c) : ordL a c := by
 unfold ordL at *
 omega
end Go.Mth

namespace Go.Mth
open Go.Ab
def lstF (m : MapM) (x : Int) (i : Nat) : Nat := leastI (orbL m x i) i
theorem least_bd (l : List Int) : ∀ i, leastI l i ≤ i - 1
 | 0 => Nat.le_refl _
 | i + 1 => by
  rw [leastI]
  split
  ·omega
  ·have := least_bd l i; omega
theorem least_pre {l l' : List Int} : ∀ i, (∀ j, j < i → l.getD j default = l'.getD j default) → leastI l i = leastI l' i
 | 0, _ => rfl
 | 1, h => by
  rw [leastI, leastI, leastI, leastI]
  split <;> split <;> rfl
 | i + 2, h => by
  have ih := least_pre (i + 1) (fun j hj => h j (by omega))
  have h1 := least_bd l' (i + 1)
  rw [leastI, ih, h (i + 1) (by omega), h (leastI l' (i + 1)) (by omega)]
  conv => rhs; rw [leastI]
theorem lst_pre (m : MapM) (x : Int) {i n : Nat} (h : i ≤ n) : leastI (orbL m x n) i = lstF m x i := least_pre i fun j hj => by rw [orbL_get (by omega), orbL_get hj]
theorem lst_1 (m : MapM) (x : Int) : lstF m x 1 = 0 := by
 have := least_bd (orbL m x 1) 1
 unfold lstF
 omega
theorem lst_lt (m : MapM) (x : Int) (j : Nat) : lstF m x (j + 1) < j + 1 := by
 have := least_bd (orbL m x (j + 1)) (j + 1)
 unfold lstF
 omega
theorem lst_y {m : MapM} {x : Int} {j : Nat} (h : iterZ m (j + 1) x < iterZ m (lstF m x (j + 1)) x) : lstF m x (j + 2) = j + 1 := by
 have h1 := lst_lt m x j
 have h2 := lst_pre m x (i := j + 1) (n := j + 2) (by omega)
 refine least_y ?_
 rw [h2, orbL_get (by omega), orbL_get (by omega)]
 exact h
theorem lst_n {m : MapM} {x : Int} {j : Nat} (h : ¬ iterZ m (j + 1) x < iterZ m (lstF m x (j + 1)) x) : lstF m x (j + 2) = lstF m x (j + 1) := by
 have h1 := lst_lt m x j
 have h2 := lst_pre m x (i := j + 1) (n := j + 2) (by omega)
 refine (least_n ?_).trans h2
 rw [h2, orbL_get (by omega), orbL_get (by omega)]
 exact h
def perP (m : MapM) (x : Int) (p : Nat) : Prop := 0 < p ∧ iterZ m p x = x ∧ ∀ i, 0 < i → i < p → iterZ m i x ≠ x
theorem per_one {m : MapM} {x : Int} {p q : Nat} (h : perP m x p) (h2 : perP m x q) : p = q := by
 rcases Nat.lt_trichotomy p q with e | e | e
 ·exact absurd h.2.1 (h2.2.2 p h.1 e)
 ·exact e
 ·exact absurd h2.2.1 (h.2.2 q h2.1 e)
open Classical in
noncomputable def refLp (m : MapM) (x : Int) (k : Int) : List Int := if h : ∃ p : Nat, (p : Int) ≤ k ∧ perP m x p then cyc m x (Classical.choose h) else []
theorem refLp_y {m : MapM} {x k : Int} {p : Nat} (h : (p : Int) ≤ k) (hp : perP m x p) : refLp m x k = cyc m x p := by
 have ex : ∃ p : Nat, (p : Int) ≤ k ∧ perP m x p := ⟨p, h, hp⟩
 unfold refLp
 rw [dif_pos ex, per_one (Classical.choose_spec ex).2 hp]
theorem refLp_n {m : MapM} {x k : Int} (h : ¬ ∃ p : Nat, (p : Int) ≤ k ∧ perP m x p) : refLp m x k = [] := dif_neg h
theorem refLp_no {m : MapM} {x k : Int} {j : Nat} (h : ∀ i, 0 < i → i ≤ j → iterZ m i x ≠ x) (hk : k ≤ (j : Int)) : refLp m x k = [] := refLp_n fun ⟨p, h1, h2⟩ => h p h2.1 (by omega) h2.2.1
theorem refLp_cyc {m : MapM} {x k : Int} {j : Nat} (h : iterZ m (j + 1) x = x) (ha : ∀ i, 0 < i → i ≤ j → iterZ m i x ≠ x) (hk : ((j + 1 : Nat) : Int) ≤ k) : refLp m x k = rotL (orbL m x (j + 1)) (lstF m x (j + 1)) := by
 rw [refLp_y hk ⟨by omega, h, fun i h1 h2 => ha i h1 (by omega)⟩]
 unfold cyc rotM
 rw [orbL_len]
 rfl
end Go.Mth

namespace Go.Proofs.YtdmkejloknejdaaGreatDoor
open Go Go.Ab Go.Mth
theorem f125_ : tyElem cx.P 39 = some (42, 2, 32) := by kernel_rfl
theorem f126_ : callable cx.P 27 = true := by kernel_rfl
theorem f127_ : cx.P.underlying 39 = some (.slice 42) := by kernel_rfl
theorem c_zLoop (m : MapM) (x k : Int) (hM : OkM m) (hk : k ≤ 100) (hx : (digs x.natAbs).length ≤ 1000) : ECalls cx 28 [mapV m, intR x, Iv k] (.sl 2 (gcells cN (refLp m x k))) := by
 refine ecalls_of_awp Tryz.func28 (c := _) rfl (Nat.le_of_ble_eq_true rfl) ?_
 show awp cx 50 _ (postF cx Tryz.f28 _) ⟨[(0, mapV m), (1, intR x), (2, Iv k)], []⟩
 refine awp_seq fun K0 hK0 => awp_region rfl ?_
 refine o_box 2 [Iv m.mod, Lv m.mul, Lv m.add] gn rfl rfl ?_
 refine o_box 3 [bp (x < 0), .sl 1 (ns .i64 (digs x.natAbs))] gn rfl rfl ?_
 refine o_as Zv rfl (aops_end (hK0 _ (awp_seq fun K1 hK1 => awp_region rfl ?_)))
 refine o_loadA [bp (x < 0), .sl 1 (ns .i64 (digs x.natAbs))] gn f14_ rfl rfl rfl rfl rfl ?_
 refine o_buildSlice 4 (gcells cN ([x])) [(0, [bp (x < 0), .sl 1 (ns .i64 (digs x.natAbs))])] gn f125_ rfl f9_ rfl rfl rfl rfl rfl rfl rfl ?_
 refine o_as (.row 4) rfl (aops_end (hK1 _ (awp_seq fun K2 hK2 => awp_region rfl (o_as (Nv 0) rfl ?_))))
 refine n_as (v' := (Nv (lstF m x 1))) (by exact congrArg (nm _) (by first | exact (lst_1 m x).symm | exact (lst_y (cmpZ_lt.1 (by assumption))).symm)) ?_
 refine aops_end (hK2 _ (awp_seq fun K3 hK3 => awp_seq fun K4 hK4 => awp_region rfl (o_as (Nv 1) rfl (aops_end (hK4 _ ?_)))))
 refine awp_block ?_
 refine awp_loopR (fun κ σ => ∃ (j : Nat), (((j : Nat) : Int) ≤ k ∨ j = 0) ∧ (∀ i, 0 < i → i ≤ j → iterZ m i x ≠ x) ∧ ((k - ((j : Nat) : Int)).toNat) = κ ∧ σ = ⟨[(2, Iv k), (3, .ref 2 0), (4, .ref 3 0), (7, .row 50), (8, Nv (lstF m x (j + 1))), (9, Nv (j + 1))], [(2, oM 24 m), (3, oZ 42 .i64 x), (50, .row 42 2 (gcells cN (orbL m x (j + 1))))]⟩) ⟨_, _, ⟨0, .inr rfl, (fun i h1 h2 => by omega), rfl, rfl⟩, ?wk0⟩ ?rd0
 case wk0 =>
  exact Wk.trans (Wk.sub (σ' := ⟨[(2, Iv k), (3, .ref 2 0), (4, .ref 3 0), (7, .row 4), (8, Nv (lstF m x 1)), (9, Nv 1)], [(2, oM 24 m), (3, oZ 42 .i64 x), (4, .row 42 2 (gcells cN ([x])))]⟩) ⟨rfl, rfl, rfl, rfl, rfl, rfl, trivial⟩ ⟨rfl, rfl, rfl, trivial⟩) (Wk.trans (Wk.ren (id := 4) (id' := 50) rfl) (Wk.sub ⟨rfl, rfl, rfl, (by first | rfl | simp), (by first | rfl | exact nm_int (by omega)), (by first | rfl | exact nm_int (by omega)), trivial⟩ ⟨(by first | rfl | (first | exact row_gs' (orbL_s m x _) | exact row_gs' (by rfl))), (by first | rfl | (first | exact row_gs' (orbL_s m x _) | exact row_gs' (by rfl))), (by first | rfl | exact row_ns (by simp) | (first | exact row_gs' (orbL_s m x _) | exact row_gs' (by rfl))), trivial⟩))
 rintro κ _ ⟨j, hj, hv, rfl, rfl⟩
 have k1 := orbL_len m x (j + 1)
 have k2 := iter_len hM x j
 have k3 := lst_lt m x j
 have k4 := iter_len hM x (j + 1)
 have k5 := iter_len hM x (lstF m x (j + 1))
 have k6 := orbL_len m x (j + 2)
 refine awp_seq fun K5 hK5 => awp_seq fun K6 hK6 => awp_region rfl (o_mv (Nv (j + 1)) rfl (o_mv (Iv k) rfl ?_))
 refine o_leq (a := ((j + 1 : Nat) : Int)) (c := k) gn rfl rfl ?_
 refine aops_end (hK6 _ ?_)
 refine awp_condQ (q := ((j + 1 : Nat) : Int) ≤ k) rfl (fun h1 => ?_) (fun h1 => ?_)
 ·refine awp_skip (hK5 _ (awp_seq fun K7 hK7 => ?_))
  refine awp_block ?_
  refine awp_seq fun K8 hK8 => awp_regionD rfl ?_
  refine o_loadA [Iv m.mod, Lv m.mul, Lv m.add] gn f63_ rfl rfl rfl rfl rfl ?_
  refine o_mv (.row 50) rfl (o_mv (Nv (j + 1)) rfl ?_)
  refine n_sub (j + 1) 1 gn rfl rfl (by omega) (by simp only [topOf]; omega) ?_
  refine g_indexRow cN (orbL m x (j + 1)) ((j + 1) - 1) cN_len rfl gn f125_ rfl rfl rfl (by omega) ?_
  refine g_loadRowA cN (orbL m x (j + 1)) ((j + 1) - 1) default cN_len gn f14_ rfl rfl (by omega) ?_
  refine n_as (v' := (intR (iterZ m j x))) (by exact congrArg intR (orbL_get (Nat.lt_succ_self j))) ?_
  refine o_ct (c_gStep m (iterZ m j x) (by first | assumption | exact okM_iff.1 (by assumption)) (by first | omega | assumption | (simp only [Int.natAbs_neg]; omega))) gn f126_ rfl ?_
  refine n_as (v' := (intR (iterZ m (j + 1) x))) (by exact rfl) ?_
  refine o_alloc 101 [Fv, Zv] gn f9_ rfl rfl rfl ?_
  refine o_store [(101, oZ 42 .i64 (iterZ m (j + 1) x)), (2, oM 24 m), (3, oZ 42 .i64 x), (50, .row 42 2 (gcells cN (orbL m x (j + 1))))] gn f13_ rfl rfl rfl rfl rfl rfl ?_
  refine aops_end ⟨by kernel_rfl, ?_⟩
  refine hK8 _ (awp_seq fun K9 hK9 => awp_seq fun K10 hK10 => awp_region rfl ?_)
  refine o_loadA [bp ((iterZ m (j + 1) x) < 0), .sl 1 (ns .i64 (digs (iterZ m (j + 1) x).natAbs))] gn f14_ rfl rfl rfl rfl rfl ?_
  refine o_loadA [bp (x < 0), .sl 1 (ns .i64 (digs x.natAbs))] gn f14_ rfl rfl rfl rfl rfl ?_
  refine o_ct (c_rCmp (iterZ m (j + 1) x) x) gn f106_ rfl ?_
  refine o_eql (a := (cmpZ (iterZ m (j + 1) x) x)) (c := ((0 : Nat) : Int)) gn rfl rfl ?_
  refine aops_end (hK10 _ ?_)
  refine awp_condQ (q := (cmpZ (iterZ m (j + 1) x) x) = ((0 : Nat) : Int)) rfl (fun h2 => ?_) (fun h2 => ?_)
  ·refine awp_seq fun K11 hK11 => ?_
   refine awp_wk (σ' := ⟨[(7, .row 50), (8, Nv (lstF m x (j + 1)))], [(50, .row 42 2 (gcells cN (orbL m x (j + 1))))]⟩) (Wk.sub ⟨rfl, rfl, trivial⟩ ⟨rfl, trivial⟩) ?_
   refine awp_wk (σ' := ⟨[(7, .sl 2 (gcells cN (orbL m x (j + 1)))), (8, Nv (lstF m x (j + 1)))], []⟩) (Wk.freeze (id := 50) (e := 42) (sz := 2) (cs := (gcells cN (orbL m x (j + 1)))) rfl) ?_
   refine awp_regionD rfl ?_
   refine o_buildSlice 102 (gcells cN ([])) [] gn f125_ rfl f9_ rfl rfl rfl rfl rfl rfl rfl ?_
   refine o_mv (.sl 2 (gcells cN (orbL m x (j + 1)))) rfl (o_mv (Nv (lstF m x (j + 1))) rfl ?_)
   refine g_slice cN (orbL m x (j + 1)) (lstF m x (j + 1)) ((orbL m x (j + 1)).length) cN_len gn f125_ rfl (lo_nm rfl) rfl trivial (by omega) (by omega) ?_
   refine g_appendSl cN 103 ([]) (((orbL m x (j + 1)).drop (lstF m x (j + 1))).take ((orbL m x (j + 1)).length - lstF m x (j + 1))) [] cN_len rfl gn f125_ f9_ rfl rfl rfl rfl (by simp only [List.length_append, List.length_cons, List.length_nil, List.length_take, List.length_drop]; omega) (by simp only [List.length_append, List.length_cons, List.length_nil, List.length_take, List.length_drop]; omega) rfl rfl ?_
   refine o_mv (.sl 2 (gcells cN (orbL m x (j + 1)))) rfl (o_mv (Nv (lstF m x (j + 1))) rfl ?_)
   refine g_slice cN (orbL m x (j + 1)) 0 (lstF m x (j + 1)) cN_len gn f125_ rfl rfl (hi_nm rfl) trivial (by omega) (by omega) ?_
   refine g_appendSl cN 104 (((orbL m x (j + 1)).drop (lstF m x (j + 1))).take ((orbL m x (j + 1)).length - lstF m x (j + 1))) (((orbL m x (j + 1)).drop 0).take (lstF m x (j + 1) - 0)) [] cN_len rfl gn f125_ f9_ rfl rfl rfl rfl (by simp only [List.length_append, List.length_cons, List.length_nil, List.length_take, List.length_drop]; omega) (by simp only [List.length_append, List.length_cons, List.length_nil, List.length_take, List.length_drop]; omega) rfl rfl ?_
   refine o_as (.row 104) rfl ?_
   refine aops_end ⟨by kernel_rfl, ?_⟩
   refine hK11 _ ?_
   refine awp_wk (σ' := ⟨[(6, .row 104)], [(104, .row 42 2 (gcells cN ((((orbL m x (j + 1)).drop (lstF m x (j + 1))).take ((orbL m x (j + 1)).length - lstF m x (j + 1))) ++ (((orbL m x (j + 1)).drop 0).take (lstF m x (j + 1) - 0)))))]⟩) (Wk.sub ⟨rfl, trivial⟩ ⟨rfl, trivial⟩) ?_
   refine awp_wk (σ' := ⟨[(6, .sl 2 (gcells cN ((((orbL m x (j + 1)).drop (lstF m x (j + 1))).take ((orbL m x (j + 1)).length - lstF m x (j + 1))) ++ (((orbL m x (j + 1)).drop 0).take (lstF m x (j + 1) - 0)))))], []⟩) (Wk.freeze (id := 104) (e := 42) (sz := 2) (cs := (gcells cN ((((orbL m x (j + 1)).drop (lstF m x (j + 1))).take ((orbL m x (j + 1)).length - lstF m x (j + 1))) ++ (((orbL m x (j + 1)).drop 0).take (lstF m x (j + 1) - 0))))) rfl) ?_
   refine awp_ret ?_
   refine post_ret ⟨[.sl 2 (gcells cN ((((orbL m x (j + 1)).drop (lstF m x (j + 1))).take ((orbL m x (j + 1)).length - lstF m x (j + 1))) ++ (((orbL m x (j + 1)).drop 0).take (lstF m x (j + 1) - 0))))], ⟨AV.le_refl _, trivial⟩, rfl, ?_⟩
   first | exact gs_as ((refLp_cyc (cmpZ_eq0.1 (by assumption)) hv (by omega)).trans (rot_cut _ (by omega)).symm) | exact gs_as ((refLp_cyc (cmpZ_eq0.1 (by assumption)) hv (by omega)).trans (by unfold rotL; simp)) | exact gs_as (refLp_no hv (by omega))
  ·have absurd_h2 := h2
   refine awp_skip (hK9 _ (awp_seq fun K12 hK12 => awp_region rfl (o_mv (.row 50) rfl ?_)))
   refine o_loadA [bp ((iterZ m (j + 1) x) < 0), .sl 1 (ns .i64 (digs (iterZ m (j + 1) x).natAbs))] gn f14_ rfl rfl rfl rfl rfl ?_
   refine o_buildSlice 102 (gcells cN ([iterZ m (j + 1) x])) [(0, [bp ((iterZ m (j + 1) x) < 0), .sl 1 (ns .i64 (digs (iterZ m (j + 1) x).natAbs))])] gn f125_ rfl f9_ rfl rfl rfl rfl rfl rfl rfl ?_
   refine g_append cN 103 (orbL m x (j + 1)) ([iterZ m (j + 1) x]) [(102, .row 42 2 (gcells cN ([iterZ m (j + 1) x]))), (101, oZ 42 .i64 (iterZ m (j + 1) x)), (2, oM 24 m), (3, oZ 42 .i64 x)] cN_len rfl gn f125_ f9_ rfl rfl rfl rfl rfl (by simp only [List.length_append, List.length_cons, List.length_nil]; omega) (by simp only [List.length_append, List.length_cons, List.length_nil]; omega) rfl rfl ?_
   refine o_as (.row 103) rfl (aops_end (hK12 _ (awp_seq fun K13 hK13 => awp_regionD rfl ?_)))
   refine o_loadA [bp ((iterZ m (j + 1) x) < 0), .sl 1 (ns .i64 (digs (iterZ m (j + 1) x).natAbs))] gn f14_ rfl rfl rfl rfl rfl ?_
   refine o_mv (.row 103) rfl (o_mv (Nv (lstF m x (j + 1))) rfl ?_)
   refine g_indexRow cN ((orbL m x (j + 1)) ++ ([iterZ m (j + 1) x])) (lstF m x (j + 1)) cN_len rfl gn f125_ rfl rfl rfl (by simp only [List.length_append, List.length_cons, List.length_nil]; omega) ?_
   refine g_loadRowA cN ((orbL m x (j + 1)) ++ ([iterZ m (j + 1) x])) (lstF m x (j + 1)) default cN_len gn f14_ rfl rfl (by simp only [List.length_append, List.length_cons, List.length_nil]; omega) ?_
   refine n_as (v' := (intR (iterZ m (lstF m x (j + 1)) x))) (by exact congrArg intR ((congrArg (fun l : List Int => l.getD (lstF m x (j + 1)) default) (orbL_s m x _)).trans (orbL_get (by omega)))) ?_
   refine o_ct (c_rCmp (iterZ m (j + 1) x) (iterZ m (lstF m x (j + 1)) x)) gn f106_ rfl ?_
   refine o_lss (a := (cmpZ (iterZ m (j + 1) x) (iterZ m (lstF m x (j + 1)) x))) (c := ((0 : Nat) : Int)) gn rfl rfl ?_
   refine aops_end ⟨by kernel_rfl, ?_⟩
   refine hK13 _ ?_
   refine awp_condQ (q := (cmpZ (iterZ m (j + 1) x) (iterZ m (lstF m x (j + 1)) x)) < ((0 : Nat) : Int)) rfl (fun h3 => ?_) (fun h3 => ?_)
   ·refine awp_region rfl (o_mv (Nv (j + 1)) rfl (o_as (Nv (j + 1)) rfl ?_))
    refine n_as (v' := (Nv (lstF m x (j + 2)))) (by exact congrArg (nm _) (by first | exact (lst_1 m x).symm | exact (lst_y (cmpZ_lt.1 (by assumption))).symm)) ?_
    refine aops_end (hK7 _ (awp_region rfl (o_mv (Nv (j + 1)) rfl ?_)))
    refine n_add (j + 1) 1 gn rfl rfl (by simp only [topOf]; omega) ?_
    refine o_as (Nv ((j + 1) + 1)) rfl (aops_end ?_)
    refine ⟨_, _, ?lt, ⟨j + 1, (.inl (by omega)), (fun i h1 h2 => by by_cases e : i = j + 1; subst e; exact fun e => absurd_h2 (cmpZ_eq0.2 e); exact hv i h1 (by omega)), rfl, rfl⟩, ?wk⟩
    case lt => omega
    case wk => exact Wk.trans (Wk.sub (σ' := ⟨[(2, Iv k), (3, .ref 2 0), (4, .ref 3 0), (7, .row 103), (8, Nv (lstF m x (j + 2))), (9, Nv ((j + 1) + 1))], [(2, oM 24 m), (3, oZ 42 .i64 x), (103, .row 42 2 (gcells cN ((orbL m x (j + 1)) ++ ([iterZ m (j + 1) x]))))]⟩) ⟨rfl, rfl, rfl, rfl, rfl, rfl, trivial⟩ ⟨rfl, rfl, rfl, trivial⟩) (Wk.trans (Wk.ren (id := 103) (id' := 50) rfl) (Wk.sub ⟨rfl, rfl, rfl, (by first | rfl | simp), (by first | rfl | exact nm_int (by omega)), (by first | rfl | exact nm_int (by omega)), trivial⟩ ⟨rfl, rfl, (by first | rfl | exact row_ns (by simp) | (first | exact row_gs' (orbL_s m x _) | exact row_gs' (by rfl))), trivial⟩))
   ·refine awp_wk (Wk.slot (i := 8) (y := (Nv (lstF m x (j + 2)))) (AV.le_eq (by exact congrArg (nm _) (lst_n (fun e => absurd (cmpZ_lt.2 e) (by assumption))).symm))) ?_
    refine awp_skip (hK7 _ (awp_region rfl (o_mv (Nv (j + 1)) rfl ?_)))
    refine n_add (j + 1) 1 gn rfl rfl (by simp only [topOf]; omega) ?_
    refine o_as (Nv ((j + 1) + 1)) rfl (aops_end ?_)
    refine ⟨_, _, ?lt, ⟨j + 1, (.inl (by omega)), (fun i h1 h2 => by by_cases e : i = j + 1; subst e; exact fun e => absurd_h2 (cmpZ_eq0.2 e); exact hv i h1 (by omega)), rfl, rfl⟩, ?wk⟩
    case lt => omega
    case wk => exact Wk.trans (Wk.sub (σ' := ⟨[(2, Iv k), (3, .ref 2 0), (4, .ref 3 0), (7, .row 103), (8, Nv (lstF m x (j + 2))), (9, Nv ((j + 1) + 1))], [(2, oM 24 m), (3, oZ 42 .i64 x), (103, .row 42 2 (gcells cN ((orbL m x (j + 1)) ++ ([iterZ m (j + 1) x]))))]⟩) ⟨rfl, rfl, rfl, rfl, rfl, rfl, trivial⟩ ⟨rfl, rfl, rfl, trivial⟩) (Wk.trans (Wk.ren (id := 103) (id' := 50) rfl) (Wk.sub ⟨rfl, rfl, rfl, (by first | rfl | simp), (by first | rfl | exact nm_int (by omega)), (by first | rfl | exact nm_int (by omega)), trivial⟩ ⟨rfl, rfl, (by first | rfl | exact row_ns (by simp) | (first | exact row_gs' (orbL_s m x _) | exact row_gs' (by rfl))), trivial⟩))
 ·refine awp_exit ?_
  refine hK3 _ (awp_seq fun K14 hK14 => awp_region rfl (o_as Zv rfl (aops_end (hK14 _ ?_))))
  refine awp_ret ?_
  refine post_ret ⟨[.sl 2 (gcells cN ([]))], ⟨(AV.le_nil' (by decide) (by first | rfl | simp [digs_zero, ns, is])), trivial⟩, rfl, ?_⟩
  first | exact gs_as ((refLp_cyc (cmpZ_eq0.1 (by assumption)) hv (by omega)).trans (rot_cut _ (by omega)).symm) | exact gs_as ((refLp_cyc (cmpZ_eq0.1 (by assumption)) hv (by omega)).trans (by unfold rotL; simp)) | exact gs_as (refLp_no hv (by omega))

theorem c_zBefore (a b : List Int) (ha : 0 < a.length) (hb : 0 < b.length) (ha2 : (digs (hdL a).natAbs).length ≤ 1000) (hb2 : (digs (hdL b).natAbs).length ≤ 1000) : ECalls cx 63 [.sl 2 (gcells cN a), .sl 2 (gcells cN b)] (bp (ordL a b)) := by
 refine ecalls_of_awp Tryz.func63 (c := _) rfl (Nat.le_of_ble_eq_true rfl) ?_
 show awp cx 27 _ (postF cx Tryz.f63 _) ⟨[(0, .sl 2 (gcells cN a)), (1, .sl 2 (gcells cN b))], []⟩
 refine awp_seq fun K0 hK0 => awp_region rfl (o_as Fv rfl (aops_end (hK0 _ (awp_seq fun K1 hK1 => awp_regionD rfl (o_mv (.sl 2 (gcells cN a)) rfl ?_)))))
 refine g_len cN a cN_len gn f127_ rfl ?_
 refine o_mv (.sl 2 (gcells cN b)) rfl ?_
 refine g_len cN b cN_len gn f127_ rfl ?_
 refine n_lss (a.length) (b.length) gn rfl rfl ?_
 refine o_mv (bp ((a.length) < (b.length))) rfl ?_
 refine o_splitP (q := (a.length) < (b.length)) 10 rfl (fun h1 => ?_) (fun h1 => ?_)
 ·refine o_skip rfl rfl (decide_eq_true h1) (o_skip rfl rfl (decide_eq_true h1) (o_skip rfl rfl (decide_eq_true h1) (o_skip rfl rfl (decide_eq_true h1) (o_skip rfl rfl (decide_eq_true h1) (o_skip rfl rfl (decide_eq_true h1) (o_skipU rfl rfl (o_skipU rfl rfl (o_skipU rfl rfl (o_skipU rfl rfl (o_skipU rfl rfl (o_skipU rfl rfl ?_)))))))))))
  refine o_skipU rfl rfl (o_skipU rfl rfl (o_skip rfl rfl (decide_eq_true h1) ?_))
  refine o_pickT Tv gn rfl (decide_eq_true h1) rfl ?_
  refine o_as Tv rfl ?_
  refine aops_end ⟨by kernel_rfl, ?_⟩
  refine hK1 _ ?_
  refine awp_ret ?_
  refine post_ret ⟨[Tv], ⟨AV.le_refl _, trivial⟩, rfl, ?_⟩
  exact bpy (show ordL a b from .inl h1)
 ·refine o_move (.sl 2 (gcells cN a)) (Gd.yes rfl rfl (decide_eq_false h1)) rfl ?_
  refine g_len cN a cN_len (Gd.yes rfl rfl (decide_eq_false h1)) f127_ rfl ?_
  refine o_move (.sl 2 (gcells cN b)) (Gd.yes rfl rfl (decide_eq_false h1)) rfl ?_
  refine g_len cN b cN_len (Gd.yes rfl rfl (decide_eq_false h1)) f127_ rfl ?_
  refine n_eql (a.length) (b.length) (Gd.yes rfl rfl (decide_eq_false h1)) rfl rfl ?_
  refine o_move (bp ((a.length) = (b.length))) (Gd.yes rfl rfl (decide_eq_false h1)) rfl ?_
  refine o_splitP (q := (a.length) = (b.length)) 16 rfl (fun h2 => ?_) (fun h2 => ?_)
  ·refine o_move (.sl 2 (gcells cN a)) (Gd.yes rfl rfl (decide_eq_true h2)) rfl ?_
   refine g_index cN a 0 cN_len rfl (Gd.yes rfl rfl (decide_eq_true h2)) f125_ rfl rfl (by omega) ?_
   refine g_loadA cN a 0 default cN_len (Gd.yes rfl rfl (decide_eq_true h2)) f14_ rfl (by omega) ?_
   refine n_as (v' := (intR (hdL a))) (by exact rfl) ?_
   refine o_move (.sl 2 (gcells cN b)) (Gd.yes rfl rfl (decide_eq_true h2)) rfl ?_
   refine g_index cN b 0 cN_len rfl (Gd.yes rfl rfl (decide_eq_true h2)) f125_ rfl rfl (by omega) ?_
   refine g_loadA cN b 0 default cN_len (Gd.yes rfl rfl (decide_eq_true h2)) f14_ rfl (by omega) ?_
   refine n_as (v' := (intR (hdL b))) (by exact rfl) ?_
   refine o_ct (c_rCmp (hdL a) (hdL b)) (Gd.yes rfl rfl (decide_eq_true h2)) f106_ rfl ?_
   refine o_lss (a := (cmpZ (hdL a) (hdL b))) (c := ((0 : Nat) : Int)) (Gd.yes rfl rfl (decide_eq_true h2)) rfl rfl ?_
   refine o_pickT (bp ((cmpZ (hdL a) (hdL b)) < ((0 : Nat) : Int))) (Gd.yes rfl rfl (decide_eq_false h1)) rfl (decide_eq_true h2) rfl ?_
   refine o_pickF (bp ((cmpZ (hdL a) (hdL b)) < ((0 : Nat) : Int))) gn rfl (decide_eq_false h1) rfl ?_
   refine o_as (bp ((cmpZ (hdL a) (hdL b)) < ((0 : Nat) : Int))) rfl ?_
   refine aops_end ⟨by kernel_rfl, ?_⟩
   refine hK1 _ ?_
   refine awp_ret ?_
   refine post_ret ⟨[(bp ((cmpZ (hdL a) (hdL b)) < ((0 : Nat) : Int)))], ⟨AV.le_refl _, trivial⟩, rfl, ?_⟩
   exact bpc ⟨fun e => cmpZ_lt.2 (by rcases e with e | e; exact absurd e h1; exact e.2), fun e => .inr ⟨h2, cmpZ_lt.1 e⟩⟩
  ·refine o_skip rfl rfl (decide_eq_false h2) (o_skip rfl rfl (decide_eq_false h2) (o_skip rfl rfl (decide_eq_false h2) (o_skip rfl rfl (decide_eq_false h2) (o_skip rfl rfl (decide_eq_false h2) (o_skip rfl rfl (decide_eq_false h2) (o_skip rfl rfl (decide_eq_false h2) (o_skip rfl rfl (decide_eq_false h2) ?_)))))))
   refine o_pickF Fv (Gd.yes rfl rfl (decide_eq_false h1)) rfl (decide_eq_false h2) rfl ?_
   refine o_pickF Fv gn rfl (decide_eq_false h1) rfl ?_
   refine o_as Fv rfl ?_
   refine aops_end ⟨by kernel_rfl, ?_⟩
   refine hK1 _ ?_
   refine awp_ret ?_
   refine post_ret ⟨[Fv], ⟨AV.le_refl _, trivial⟩, rfl, ?_⟩
   exact bpn (fun e => by rcases e with e | e; exact absurd e h1; exact absurd e.1 h2)

end Go.Proofs.YtdmkejloknejdaaGreatDoor

namespace Go.Mth
open Go.Ab
def lnP (m : MapM) (n s : Nat) : List LinZ := (List.range s).map fun t => lineZ m (wordT m.mod.toNat n t)
theorem lnP_len (m : MapM) (n s : Nat) : (lnP m n s).length = s := by unfold lnP; simp
theorem lnP_get {m : MapM} {n s t : Nat} (h : t < s) : (lnP m n s).getD t default = lineZ m (wordT m.mod.toNat n t) := by unfold lnP; simp [List.getD_eq_getElem?_getD, h]
theorem word_s {M n t r : Nat} (hr : r < M) : wordT M (n + 1) (t * M + r) = wordT M n t ++ [((r : Nat) : Int)] := by
 rw [wordT, Nat.mul_comm, Nat.mul_add_div (by omega), Nat.div_eq_of_lt hr, Nat.mul_add_mod, Nat.mod_eq_of_lt hr]
 rfl
theorem lnP_s {m : MapM} {n t r : Nat} (hr : r < m.mod.toNat) : lnP m (n + 1) (t * m.mod.toNat + r) ++ [thenZ m (lineZ m (wordT m.mod.toNat n t)) ((r : Nat) : Int)] = lnP m (n + 1) (t * m.mod.toNat + (r + 1)) := by
 unfold lnP
 rw [← Nat.add_assoc, List.range_succ, List.map_append, List.map_cons, List.map_nil, word_s hr, lineZ_snoc]
theorem redP_int {n d : Int} (hd : 0 < d) : ((redP n d).den = 1 ↔ n % d = 0) ∧ ((redP n d).den = 1 → (redP n d).num = n / d) := by
 obtain ⟨h1, h2, h3, h4⟩ := redP_ok (n := n) hd
 have key : n % d = 0 → redP n d = ⟨n / d, 1⟩ := fun e => by
  have e1 : d ∣ n := Int.dvd_of_emod_eq_zero e
  refine red_uniq h1 ⟨show (0 : Int) < 1 by decide, by simp⟩ ?_
  have e2 : n / d * d = n := Int.ediv_mul_cancel e1
  have e3 : (redP n d).num * d = n / d * (redP n d).den * d := by rw [h2, Int.mul_assoc, Int.mul_comm (redP n d).den d, ← Int.mul_assoc, e2]
  show (redP n d).num * 1 = n / d * (redP n d).den
  rw [Int.mul_one]
  exact Int.eq_of_mul_eq_mul_right (by omega) e3
 have back : (redP n d).den = 1 → n = (redP n d).num * d := fun e => by rw [e, Int.mul_one] at h2; exact h2.symm
 refine ⟨⟨fun e => ?_, fun e => by rw [key e]⟩, fun e => ?_⟩
 ·rw [back e]; exact Int.mul_emod_left _ _
 ·have := back e
  rw [this, Int.mul_ediv_cancel _ (by omega), ← this]
theorem fix_neg {m : MapM} {w : List Int} (h : (lineZ m w).div - (lineZ m w).mul < 0) : ((fixZ m w).den = 1 ↔ (-(lineZ m w).add) % (-((lineZ m w).div - (lineZ m w).mul)) = 0) ∧ ((fixZ m w).den = 1 → (fixZ m w).num = (-(lineZ m w).add) / (-((lineZ m w).div - (lineZ m w).mul))) := by
 unfold fixZ redZ
 rw [if_pos h]
 exact redP_int (by omega)
theorem fix_nn {m : MapM} {w : List Int} (h : ¬ (lineZ m w).div - (lineZ m w).mul < 0) (h0 : (lineZ m w).div - (lineZ m w).mul ≠ 0) : ((fixZ m w).den = 1 ↔ (lineZ m w).add % ((lineZ m w).div - (lineZ m w).mul) = 0) ∧ ((fixZ m w).den = 1 → (fixZ m w).num = (lineZ m w).add / ((lineZ m w).div - (lineZ m w).mul)) := by
 unfold fixZ redZ
 rw [if_neg h]
 exact redP_int (by omega)
theorem cyc_in {m : MapM} {n : Nat} {l : List Int} (h : Loo m n l) {x : Int} (hx : x ∈ l) : cyc m x n = l := by
 have hp := loo_per h hx
 have hn := h.pos
 have hl := orbL_len m x n
 have hlt := least_lt (l := orbL m x n) (by omega) n (by omega)
 rw [hl] at hlt
 obtain ⟨i, hi, e⟩ := loo_mem h hx
 obtain ⟨j, hj, e2⟩ := mem_orb h.back hi
 rw [← e] at e2
 have h1 := least_le (l := orbL m x n) n j hj
 rw [orbL_get hlt, orbL_get hj, ← e2] at h1
 have h2 : hdL l ≤ iterZ m (leastI (orbL m x n) n) x := by
  rw [e, iterZ_add, iterZ_mod h.back]
  exact h.low _ (Nat.mod_lt _ hn)
 rw [cyc_orb hp hn, Int.le_antisymm h1 h2]
 exact h.orb.symm
theorem refLp_in {m : MapM} (hm : OkM m) (hf : freeM m) {k : Int} {K : Nat} (hk : (K : Int) = k) (hK : K ≤ 100) {l : List Int} (h : l ∈ cyU m K) {x : Int} (hx : x ∈ l) : refLp m x k = l := by
 obtain ⟨h1, h2⟩ := cyU_loo hm hf hK h
 rw [refLp_y (p := l.length) (by omega) ⟨h2.pos, loo_per h2 hx, loo_alone h2 hx⟩]
 exact cyc_in h2 hx
theorem refLp_mem {m : MapM} (hm : OkM m) (hf : freeM m) {k : Int} {K : Nat} (hk : (K : Int) = k) (hK : K ≤ 100) {n : Nat} (h0 : 0 < n) (hn : n ≤ K) {x : Int} (hx : iterZ m n x = x) : refLp m x k ∈ cyU m K := by
 obtain ⟨l, h1, h2⟩ := cyU_has hm hf h0 hn hx
 rw [refLp_in hm hf hk hK h1 h2]
 exact h1
theorem srt_eq : ∀ {a b : List (List Int)}, a.Pairwise ordL → b.Pairwise ordL → (∀ x, x ∈ a ↔ x ∈ b) → a = b
 | [], [], _, _, _ => rfl
 | [], y :: b, _, _, h => by have := (h y).2 List.mem_cons_self; cases this
 | x :: a, [], _, _, h => by have := (h x).1 List.mem_cons_self; cases this
 | x :: a, y :: b, ha, hb, h => by
  obtain ⟨a1, a2⟩ := List.pairwise_cons.1 ha
  obtain ⟨b1, b2⟩ := List.pairwise_cons.1 hb
  have e : x = y := by
   rcases List.mem_cons.1 ((h x).1 List.mem_cons_self) with e | e
   ·exact e
   ·rcases List.mem_cons.1 ((h y).2 List.mem_cons_self) with e2 | e2
    ·exact e2.symm
    ·exact absurd rfl (ord_ne (ord_tr (b1 x e) (a1 y e2)))
  subst e
  have := srt_eq a2 b2 fun z => by
   constructor
   ·intro hz
    rcases List.mem_cons.1 ((h z).1 (List.mem_cons_of_mem _ hz)) with e | e
    ·exact absurd e.symm (ord_ne (a1 z hz))
    ·exact e
   ·intro hz
    rcases List.mem_cons.1 ((h z).2 (List.mem_cons_of_mem _ hz)) with e | e
    ·exact absurd e.symm (ord_ne (b1 z hz))
    ·exact e
  rw [this]
theorem ins_is {α : Type} (p : List α) (a : Nat) (l : α) : ((p.drop 0).take (a - 0) ++ [l]) ++ ((p.drop a).take (p.length - a)) = (p.take a ++ [l]) ++ p.drop a := by
 rw [List.drop_zero, Nat.sub_zero, show (p.drop a).take (p.length - a) = p.drop a from List.take_of_length_le (by rw [List.length_drop]; exact Nat.le_refl _)]
def outP (m : MapM) (k : Int) (o : List (List Int)) (n t : Nat) : Prop := o.Pairwise ordL ∧ (∀ l ∈ o, l ∈ cyU m k.toNat) ∧ ∀ n' t', 0 < n' → (n' < n ∨ n' = n ∧ t' < t) → t' < m.mod.toNat ^ n' → (fixZ m (wordT m.mod.toNat n' t')).den = 1 → refLp m (fixZ m (wordT m.mod.toNat n' t')).num k ∈ o
theorem out_0 (m : MapM) (k : Int) : outP m k [] 1 0 := ⟨List.Pairwise.nil, (fun l h => absurd h List.not_mem_nil), fun n' t' h1 h2 => by omega⟩
theorem out_row {m : MapM} {k : Int} {o : List (List Int)} {n t : Nat} (h : outP m k o n t) (ht : ¬ t < m.mod.toNat ^ n) : outP m k o (n + 1) 0 := ⟨h.1, h.2.1, fun n' t' h1 h2 h3 h4 => h.2.2 n' t' h1 (by
 by_cases e : n' = n
 ·subst e; exact .inr ⟨rfl, by omega⟩
 ·exact .inl (by omega)) h3 h4⟩
theorem out_skip {m : MapM} {k : Int} {o : List (List Int)} {n t : Nat} (h : outP m k o n t) (hd : (fixZ m (wordT m.mod.toNat n t)).den = 1 → refLp m (fixZ m (wordT m.mod.toNat n t)).num k ∈ o) : outP m k o n (t + 1) := ⟨h.1, h.2.1, fun n' t' h1 h2 h3 h4 => by
 by_cases e : n' = n ∧ t' = t
 ·obtain ⟨rfl, rfl⟩ := e; exact hd h4
 ·exact h.2.2 n' t' h1 (by omega) h3 h4⟩
theorem out_ins {m : MapM} {k : Int} {o : List (List Int)} {n t a : Nat} (h : outP m k o n t) {l : List Int} (hl : l = refLp m (fixZ m (wordT m.mod.toNat n t)).num k) (hm : l ∈ cyU m k.toNat) (ha : a ≤ o.length) (hv : ∀ j, j < a → ordL (o.getD j default) l) (hw : a = o.length ∨ a < o.length ∧ ordL l (o.getD a default)) : outP m k ((o.take a ++ [l]) ++ o.drop a) n (t + 1) := by
 have hmem : ∀ x, x ∈ o → x ∈ (o.take a ++ [l]) ++ o.drop a := fun x hx => by
  rw [← List.take_append_drop a o, List.mem_append] at hx
  simp only [List.mem_append]
  rcases hx with hx | hx
  ·exact .inl (.inl hx)
  ·exact .inr hx
 have hT : ∀ x, x ∈ o.take a → ordL x l := fun x hx => by
  obtain ⟨j, hj, rfl⟩ := List.mem_iff_getElem.1 hx
  have hj2 : j < a := by rw [List.length_take] at hj; omega
  have := hv j hj2
  rw [List.getD_eq_getElem?_getD, List.getElem?_eq_getElem (by omega)] at this
  rw [List.getElem_take]
  exact this
 have hD : ∀ x, x ∈ o.drop a → ordL l x := fun x hx => by
  rcases hw with e | ⟨e, f⟩
  ·rw [e, List.drop_length] at hx; cases hx
  ·rw [List.getD_eq_getElem?_getD, List.getElem?_eq_getElem e] at f
   have hp := h.1.sublist (List.drop_sublist a o)
   rw [List.drop_eq_getElem_cons e] at hp hx
   obtain ⟨p1, _⟩ := List.pairwise_cons.1 hp
   rcases List.mem_cons.1 hx with e2 | e2
   ·rw [e2]; exact f
   ·exact ord_tr f (p1 x e2)
 refine ⟨?_, fun x hx => ?_, fun n' t' h1 h2 h3 h4 => ?_⟩
 ·have hp := h.1
  rw [← List.take_append_drop a o, List.pairwise_append] at hp
  rw [List.pairwise_append, List.pairwise_append]
  refine ⟨⟨hp.1, List.pairwise_singleton _ _, fun x hx y hy => ?_⟩, hp.2.1, fun x hx y hy => ?_⟩
  ·rw [List.mem_singleton.1 hy]; exact hT x hx
  ·rcases List.mem_append.1 hx with hx | hx
   ·exact hp.2.2 x hx y hy
   ·rw [List.mem_singleton.1 hx]; exact hD y hy
 ·simp only [List.mem_append, List.mem_singleton] at hx
  rcases hx with (hx | hx) | hx
  ·exact h.2.1 x (List.mem_of_mem_take hx)
  ·rw [hx]; exact hm
  ·exact h.2.1 x (List.mem_of_mem_drop hx)
 ·by_cases e : n' = n ∧ t' = t
  ·obtain ⟨rfl, rfl⟩ := e
   rw [← hl]
   simp
  ·exact hmem _ (h.2.2 n' t' h1 (by omega) h3 h4)
theorem out_have {m : MapM} (hm : OkM m) (hf : freeM m) {k : Int} (hk : k ≤ 100) {o : List (List Int)} {n t a : Nat} (h : outP m k o n t) {l : List Int} (hl : l ∈ cyU m k.toNat) (ha : a < o.length) (h1 : ¬ ordL (o.getD a default) l) (h2 : ¬ ordL l (o.getD a default)) : l ∈ o := by
 have h3 : o.getD a default ∈ o := getD_memL ha
 obtain ⟨_, p⟩ := cyU_loo hm hf (by omega) (h.2.1 _ h3)
 obtain ⟨_, q⟩ := cyU_loo hm hf (by omega) hl
 unfold ordL at h1 h2
 have e : (o.getD a default).length = l.length := by omega
 rw [e] at p
 rw [← loo_inj p q (by omega)]
 exact h3
theorem out_end {m : MapM} (hm : OkM m) (hf : freeM m) {k : Int} (h0 : 0 ≤ k) (hk : k ≤ 100) {o : List (List Int)} (h : outP m k o (k.toNat + 1) 0) : o = cyU m k.toNat := by
 refine srt_eq h.1 (cyU_ord hm hf _ (by omega)) fun l => ⟨h.2.1 l, fun hl => ?_⟩
 obtain ⟨n, n1, n2, n3⟩ := (cyU_mem _).1 hl
 obtain ⟨t, t1, t2, t3, t4, t5, t6⟩ := lsT_mem hm hf n1 (by omega) (lpN_mem.1 n3)
 have h5 := h.2.2 n t n1 (.inl (by omega)) t1 t2.2
 have hx : (fixZ m (wordT m.mod.toNat n t)).num ∈ l := by rw [t3]; exact cyc_mem.2 ⟨0, n1, rfl⟩
 rw [refLp_in hm hf (by omega) (by omega) hl hx] at h5
 exact h5
end Go.Mth

namespace Go.Ab
open Go.RowKit
variable {C : Ctx} {ops : Array Oper} {s : List (Nat × AV)} {m : List (Nat × AO)} {K : List Eff → St → Prop} {os : List Oper} {d : Nat} {t : TypeId} {p : String} {af : Array Edge} {g : Option (Nat × Bool)}
theorem g_loadF {α : Type} {ty : TypeId} {x : Operand} {n fo k : Nat} (c : α → List AV) (l : List α) (i : Nat) (dflt : α) (vs : List AV) (hc : ∀ x, (c x).length = n) (hg : Gd ops s g) (ht : tyAgg C.P ty = some k) (hx : ev s x = .ip ((gcells c l).drop (i * n + fo))) (h1 : i < l.length) (hk : Nat.ble (fo + k) n = true) (hv : ((c (l.getD i dflt)).drop fo).take k = vs)
  (kk : aops C ops ⟨(d, .agg vs) :: s, m⟩ os fun es σ' => K ({ val := .agg vs } :: es) σ') : aops C ops ⟨s, m⟩ (⟨some d, .load ty x, t, p, af, g⟩ :: os) K := by
 rw [Nat.ble_eq] at hk
 have hl := hc (l.getD i dflt)
 rw [← List.drop_drop, gcells_drop hc dflt l i h1, List.drop_append_of_le_length (by omega)] at hx
 have hd : ((c (l.getD i dflt)).drop fo).length = n - fo := by rw [List.length_drop, hl]
 exact o_loadIA vs hg ht hx (by rw [List.length_append]; omega) (by rw [List.take_append_of_le_length (by omega)]; exact hv) kk
end Go.Ab

namespace Go.Proofs.YtdmkejloknejdaaGreatDoor
open Go Go.Ab Go.Mth
theorem f128_ : callable cx.P 58 = true := by kernel_rfl
theorem f129_ : tyElem cx.P 106 = some (104, 6, 96) := by kernel_rfl
theorem f130_ : cx.P.underlying 106 = some (.slice 104) := by kernel_rfl
theorem f131_ : callable cx.P 59 = true := by kernel_rfl
theorem f132_ : callable cx.P 62 = true := by kernel_rfl
theorem f133_ : callable cx.P 28 = true := by kernel_rfl
theorem f134_ : cx.P.underlying 34 = some (.slice 39) := by kernel_rfl
theorem f135_ : tyElem cx.P 34 = some (39, 1, 24) := by kernel_rfl
theorem f136_ : tySc cx.P 39 = true := by kernel_rfl
theorem f137_ : callable cx.P 63 = true := by kernel_rfl
theorem f138_ : tyZero cx.P 39 = some [Go.Value.slice none 0 0] := by kernel_rfl
theorem c_zLoops (m : MapM) (k : Int) (hM : OkM m) (hmy : mayS m k) : ECalls cx 16 [mapV m, Iv k] (.sl 1 (gcells cM (cyU m k.toNat))) := by
 refine ecalls_of_awp Tryz.func16 (c := _) rfl (Nat.le_of_ble_eq_true rfl) ?_
 show awp cx 129 _ (postF cx Tryz.f16 _) ⟨[(0, mapV m), (1, Iv k)], []⟩
 have hM2 := hM
 obtain ⟨o1, o2, o3, o4, o5⟩ := hM2
 have hk16 : k.toNat ≤ 16 := may_16 hM hmy.2.2
 have hk100 : k ≤ 100 := by omega
 have hk1 := hmy.2.1
 have hmt : ((m.mod.toNat : Nat) : Int) = m.mod := Int.toNat_of_nonneg (by omega)
 refine awp_seq fun K0 hK0 => awp_region rfl ?_
 refine o_box 2 [Iv m.mod, Lv m.mul, Lv m.add] gn rfl rfl ?_
 refine o_as Zv rfl (aops_end (hK0 _ (awp_seq fun K1 hK1 => awp_region rfl (o_as Zv rfl (aops_end (hK1 _ (awp_seq fun K2 hK2 => awp_region rfl ?_)))))))
 refine o_ct c_vOne gn f128_ rfl ?_
 refine o_buildSlice 3 (gcells cJ ([LinZ.mk (oneZ.mul) (oneZ.add) (oneZ.div)])) [(0, [Bv (oneZ.mul), Rv (oneZ.mul), Bv (oneZ.add), Rv (oneZ.add), Bv (oneZ.div), Rv (oneZ.div)])] gn f129_ rfl f109_ rfl rfl rfl rfl rfl rfl rfl ?_
 refine o_as (.row 3) rfl (aops_end (hK2 _ (awp_seq fun K3 hK3 => awp_seq fun K4 hK4 => ?_)))
 refine awp_wk (σ' := ⟨[(1, Iv k), (2, .ref 2 0), (5, Zv), (6, .row 3)], [(3, .row 104 6 (gcells cJ ([LinZ.mk (oneZ.mul) (oneZ.add) (oneZ.div)]))), (2, oM 24 m)]⟩) (Wk.sub ⟨rfl, rfl, rfl, rfl, trivial⟩ ⟨rfl, rfl, trivial⟩) ?_
 refine awp_wk (σ' := ⟨[(1, Iv k), (2, .ref 2 0), (5, Zv), (6, .sl 6 (gcells cJ ([LinZ.mk (oneZ.mul) (oneZ.add) (oneZ.div)])))], [(2, oM 24 m)]⟩) (Wk.freeze (id := 3) (e := 104) (sz := 6) (cs := (gcells cJ ([LinZ.mk (oneZ.mul) (oneZ.add) (oneZ.div)]))) rfl) ?_
 refine awp_region rfl (o_as (Nv 0) rfl (aops_end (hK4 _ ?_)))
 refine awp_block ?_
 refine awp_loopR (fun κ σ => ∃ (i : Nat), ∃ (o : List (List Int)), (((i : Nat) : Int) ≤ k) ∧ (outP m k o (i + 1) 0) ∧ (o.length ≤ 65536 * i) ∧ ((k - ((i : Nat) : Int)).toNat) = κ ∧ σ = ⟨[(1, Iv k), (2, .ref 2 0), (5, .sl 1 (gcells cM o)), (6, .sl 6 (gcells cJ (lnP m i (m.mod.toNat ^ i)))), (7, Nv i)], [(2, oM 24 m)]⟩) ⟨_, _, ⟨0, [], (by omega), out_0 m k, Nat.zero_le _, rfl, rfl⟩, ?wk0⟩ ?rd0
 case wk0 =>
  exact Wk.trans (Wk.slot (i := 5) (y := (.sl 1 (gcells cM ([])))) (AV.le_nil' (by decide) rfl)) (Wk.sub ⟨rfl, rfl, (by first | rfl | (first | rfl | exact congrArg (fun l => AV.sl 1 (gcells cM l)) (ins_is _ _ _) | exact congrArg (fun l => AV.sl 6 (gcells cJ l)) (by rw [show t = m.mod.toNat ^ i by omega, Nat.pow_succ]))), (by first | rfl | (first | rfl | exact congrArg (fun l => AV.sl 1 (gcells cM l)) (ins_is _ _ _) | exact congrArg (fun l => AV.sl 6 (gcells cJ l)) (by rw [show t = m.mod.toNat ^ i by omega, Nat.pow_succ]))), (by first | rfl | exact nm_int (by omega)), trivial⟩ ⟨(by first | rfl | (first | exact row_gs' (lnP_s (by omega)) | exact row_gs' (by rw [Nat.zero_mul]; rfl) | exact row_gs' (by rw [show r = m.mod.toNat by omega, Nat.succ_mul]) | exact row_gs' (by rfl))), trivial⟩)
 rintro κ _ ⟨i, o, hi, ho, hol, rfl, rfl⟩
 have hpi : m.mod ^ i ≤ 65536 := Int.le_trans (pow_le_of hM (j := i) (k := k.toNat) (by omega)) hmy.2.2
 have hpw := toNat_pw hM i
 have hl1 := lnP_len m i (m.mod.toNat ^ i)
 refine awp_seq fun K5 hK5 => awp_seq fun K6 hK6 => awp_region rfl (o_mv (Nv i) rfl (o_mv (Iv k) rfl ?_))
 refine o_lss (a := ((i : Nat) : Int)) (c := k) gn rfl rfl ?_
 refine aops_end (hK6 _ ?_)
 refine awp_condQ (q := ((i : Nat) : Int) < k) rfl (fun h1 => ?_) (fun h1 => ?_)
 ·have hpj : m.mod ^ (i + 1) ≤ 65536 := Int.le_trans (pow_le_of hM (j := i + 1) (k := k.toNat) (by omega)) hmy.2.2
  have hpw2 := toNat_pw hM (i + 1)
  have e3 : m.mod.toNat ^ (i + 1) = m.mod.toNat ^ i * m.mod.toNat := Nat.pow_succ _ _
  have hmp : 0 < m.mod.toNat := by omega
  have hl2 := lnP_len m (i + 1) (m.mod.toNat ^ (i + 1))
  refine awp_skip (hK5 _ (awp_seq fun K7 hK7 => ?_))
  refine awp_block ?_
  refine awp_seq fun K8 hK8 => awp_region rfl (o_as Zv rfl (aops_end (hK8 _ (awp_seq fun K9 hK9 => awp_seq fun K10 hK10 => awp_region rfl (o_as (Nv 0) rfl (aops_end (hK10 _ ?_)))))))
  refine awp_block ?_
  refine awp_loopR (fun κ σ => ∃ (t : Nat), (t ≤ m.mod.toNat ^ i) ∧ (m.mod.toNat ^ i - t) = κ ∧ σ = ⟨[(1, Iv k), (2, .ref 2 0), (5, .sl 1 (gcells cM o)), (6, .sl 6 (gcells cJ (lnP m i (m.mod.toNat ^ i)))), (7, Nv i), (8, .row 50), (9, Nv t)], [(2, oM 24 m), (50, .row 104 6 (gcells cJ (lnP m (i + 1) (t * m.mod.toNat))))]⟩) ⟨_, _, ⟨0, Nat.zero_le _, rfl, rfl⟩, ?wk1⟩ ?rd1
  case wk1 =>
   exact Wk.trans (Wk.newNil (i := 8) (id := 601) (e := 104) (sz := 6) rfl rfl (by decide)) (Wk.trans (Wk.sub (σ' := ⟨[(1, Iv k), (2, .ref 2 0), (5, .sl 1 (gcells cM o)), (6, .sl 6 (gcells cJ (lnP m i (m.mod.toNat ^ i)))), (7, Nv i), (8, .row 601), (9, Nv 0)], [(2, oM 24 m), (601, .row 104 6 (gcells cJ ([])))]⟩) ⟨rfl, rfl, rfl, rfl, rfl, rfl, rfl, trivial⟩ ⟨rfl, rfl, trivial⟩) (Wk.trans (Wk.ren (id := 601) (id' := 50) rfl) (Wk.sub ⟨rfl, rfl, rfl, rfl, rfl, (by first | rfl | (first | rfl | exact congrArg (fun l => AV.sl 1 (gcells cM l)) (ins_is _ _ _) | exact congrArg (fun l => AV.sl 6 (gcells cJ l)) (by rw [show t = m.mod.toNat ^ i by omega, Nat.pow_succ]))), (by first | rfl | exact nm_int (by omega)), trivial⟩ ⟨rfl, (by first | rfl | exact row_ns (by simp) | (first | exact row_gs' (lnP_s (by omega)) | exact row_gs' (by rw [Nat.zero_mul]; rfl) | exact row_gs' (by rw [show r = m.mod.toNat by omega, Nat.succ_mul]) | exact row_gs' (by rfl))), trivial⟩)))
  rintro κ _ ⟨t, ht, rfl, rfl⟩
  refine awp_seq fun K11 hK11 => awp_seq fun K12 hK12 => awp_region rfl (o_mv (Nv t) rfl (o_mv (.sl 6 (gcells cJ (lnP m i (m.mod.toNat ^ i)))) rfl ?_))
  refine g_len cJ (lnP m i (m.mod.toNat ^ i)) cJ_len gn f130_ rfl ?_
  refine n_lss t ((lnP m i (m.mod.toNat ^ i)).length) gn rfl rfl ?_
  refine aops_end (hK12 _ ?_)
  refine awp_condQ (q := t < ((lnP m i (m.mod.toNat ^ i)).length)) rfl (fun h2 => ?_) (fun h2 => ?_)
  ·have e1 := Nat.mul_le_mul_right m.mod.toNat (show t + 1 ≤ m.mod.toNat ^ i by omega)
   have e2 : (t + 1) * m.mod.toNat = t * m.mod.toNat + m.mod.toNat := Nat.succ_mul _ _
   obtain ⟨b1, b2, b3⟩ := line_len hM (wordT m.mod.toNat i t) (wordT_is hM i t)
   have b4 := wordT_len m.mod.toNat i t
   refine awp_skip (hK11 _ (awp_seq fun K13 hK13 => ?_))
   refine awp_block ?_
   refine awp_seq fun K14 hK14 => awp_region rfl (o_as (Nv 0) rfl (aops_end (hK14 _ ?_)))
   refine awp_block ?_
   refine awp_loopR (fun κ σ => ∃ (r : Nat), (r ≤ m.mod.toNat) ∧ (m.mod.toNat - r) = κ ∧ σ = ⟨[(1, Iv k), (2, .ref 2 0), (5, .sl 1 (gcells cM o)), (6, .sl 6 (gcells cJ (lnP m i (m.mod.toNat ^ i)))), (7, Nv i), (8, .row 50), (9, Nv t), (10, Nv r)], [(2, oM 24 m), (50, .row 104 6 (gcells cJ (lnP m (i + 1) (t * m.mod.toNat + r))))]⟩) ⟨_, _, ⟨0, Nat.zero_le _, rfl, rfl⟩, ?wk2⟩ ?rd2
   case wk2 =>
    exact Wk.sub ⟨rfl, rfl, rfl, rfl, rfl, rfl, rfl, (by first | rfl | exact nm_int (by omega)), trivial⟩ ⟨rfl, (by first | rfl | exact row_ns (by simp) | (first | exact row_gs' (lnP_s (by omega)) | exact row_gs' (by rw [Nat.zero_mul]; rfl) | exact row_gs' (by rw [show r = m.mod.toNat by omega, Nat.succ_mul]) | exact row_gs' (by rfl))), trivial⟩
   rintro κ _ ⟨r, hr, rfl, rfl⟩
   have hl3 := lnP_len m (i + 1) (t * m.mod.toNat + r)
   refine awp_seq fun K15 hK15 => awp_seq fun K16 hK16 => awp_region rfl (o_mv (Nv r) rfl ?_)
   refine o_fieldRef 0 gn f59_ rfl rfl ?_
   refine o_loadS (Iv m.mod) gn f11_ rfl rfl rfl ?_
   refine o_lss (a := ((r : Nat) : Int)) (c := m.mod) gn rfl rfl ?_
   refine aops_end (hK16 _ ?_)
   refine awp_condQ (q := ((r : Nat) : Int) < m.mod) rfl (fun h3 => ?_) (fun h3 => ?_)
   ·refine awp_skip (hK15 _ (awp_seq fun K17 hK17 => ?_))
    refine awp_block ?_
    refine awp_regionD rfl (o_mv (.row 50) rfl ?_)
    refine o_loadA [Iv m.mod, Lv m.mul, Lv m.add] gn f63_ rfl rfl rfl rfl rfl ?_
    refine o_mv (.sl 6 (gcells cJ (lnP m i (m.mod.toNat ^ i)))) rfl (o_mv (Nv t) rfl ?_)
    refine g_index cJ (lnP m i (m.mod.toNat ^ i)) t cJ_len rfl gn f129_ rfl rfl (by omega) ?_
    refine g_loadA cJ (lnP m i (m.mod.toNat ^ i)) t default cJ_len gn f115_ rfl (by omega) ?_
    refine n_as (v' := (linR (lineZ m (wordT m.mod.toNat i t)))) (by exact congrArg linR (lnP_get (by omega))) ?_
    refine o_mv (Nv r) rfl ?_
    refine o_ct (c_vThen m (lineZ m (wordT m.mod.toNat i t)) ((r : Nat) : Int) hM (by omega) (by omega) (by omega) (by omega) (by omega)) gn f131_ rfl ?_
    refine o_buildSlice 301 (gcells cJ ([(LinZ.mk ((thenZ m (lineZ m (wordT m.mod.toNat i t)) ((r : Nat) : Int)).mul) ((thenZ m (lineZ m (wordT m.mod.toNat i t)) ((r : Nat) : Int)).add) ((thenZ m (lineZ m (wordT m.mod.toNat i t)) ((r : Nat) : Int)).div))])) [(0, [(Bv ((thenZ m (lineZ m (wordT m.mod.toNat i t)) ((r : Nat) : Int)).mul)), (Rv ((thenZ m (lineZ m (wordT m.mod.toNat i t)) ((r : Nat) : Int)).mul)), (Bv ((thenZ m (lineZ m (wordT m.mod.toNat i t)) ((r : Nat) : Int)).add)), (Rv ((thenZ m (lineZ m (wordT m.mod.toNat i t)) ((r : Nat) : Int)).add)), (Bv ((thenZ m (lineZ m (wordT m.mod.toNat i t)) ((r : Nat) : Int)).div)), (Rv ((thenZ m (lineZ m (wordT m.mod.toNat i t)) ((r : Nat) : Int)).div))])] gn f129_ rfl f109_ rfl rfl rfl rfl rfl rfl rfl ?_
    refine g_append cJ 302 (lnP m (i + 1) (t * m.mod.toNat + r)) ([(LinZ.mk ((thenZ m (lineZ m (wordT m.mod.toNat i t)) ((r : Nat) : Int)).mul) ((thenZ m (lineZ m (wordT m.mod.toNat i t)) ((r : Nat) : Int)).add) ((thenZ m (lineZ m (wordT m.mod.toNat i t)) ((r : Nat) : Int)).div))]) [(301, (.row 104 6 (gcells cJ ([(LinZ.mk ((thenZ m (lineZ m (wordT m.mod.toNat i t)) ((r : Nat) : Int)).mul) ((thenZ m (lineZ m (wordT m.mod.toNat i t)) ((r : Nat) : Int)).add) ((thenZ m (lineZ m (wordT m.mod.toNat i t)) ((r : Nat) : Int)).div))])))), (2, oM 24 m)] cJ_len rfl gn f129_ f109_ rfl rfl rfl rfl rfl (by simp only [List.length_append, List.length_cons, List.length_nil]; omega) (by simp only [List.length_append, List.length_cons, List.length_nil]; omega) rfl rfl ?_
    refine o_as (.row 302) rfl ?_
    refine aops_end ⟨by kernel_rfl, ?_⟩
    refine hK17 _ (awp_region rfl (o_mv (Nv r) rfl ?_))
    refine n_add r 1 gn rfl rfl (by simp only [topOf]; omega) ?_
    refine o_as (Nv (r + 1)) rfl (aops_end ?_)
    refine ⟨_, _, ?lt, ⟨r + 1, (by omega), rfl, rfl⟩, ?wk⟩
    case lt => omega
    case wk => exact Wk.trans (Wk.sub (σ' := ⟨[(1, Iv k), (2, .ref 2 0), (5, .sl 1 (gcells cM o)), (6, .sl 6 (gcells cJ (lnP m i (m.mod.toNat ^ i)))), (7, Nv i), (8, .row 302), (9, Nv t), (10, Nv (r + 1))], [(2, oM 24 m), (302, (.row 104 6 (gcells cJ ((lnP m (i + 1) (t * m.mod.toNat + r)) ++ ([(LinZ.mk ((thenZ m (lineZ m (wordT m.mod.toNat i t)) ((r : Nat) : Int)).mul) ((thenZ m (lineZ m (wordT m.mod.toNat i t)) ((r : Nat) : Int)).add) ((thenZ m (lineZ m (wordT m.mod.toNat i t)) ((r : Nat) : Int)).div))])))))]⟩) ⟨rfl, rfl, rfl, rfl, rfl, rfl, rfl, rfl, trivial⟩ ⟨rfl, rfl, trivial⟩) (Wk.trans (Wk.ren (id := 302) (id' := 50) rfl) (Wk.sub ⟨rfl, rfl, rfl, rfl, rfl, (by first | rfl | (first | rfl | exact congrArg (fun l => AV.sl 1 (gcells cM l)) (ins_is _ _ _) | exact congrArg (fun l => AV.sl 6 (gcells cJ l)) (by rw [show t = m.mod.toNat ^ i by omega, Nat.pow_succ]))), rfl, (by first | rfl | exact nm_int (by omega)), trivial⟩ ⟨rfl, (by first | rfl | exact row_ns (by simp) | (first | exact row_gs' (lnP_s (by omega)) | exact row_gs' (by rw [Nat.zero_mul]; rfl) | exact row_gs' (by rw [show r = m.mod.toNat by omega, Nat.succ_mul]) | exact row_gs' (by rfl))), trivial⟩))
   ·refine awp_exit ?_
    refine hK13 _ (awp_region rfl (o_mv (Nv t) rfl ?_))
    refine n_add t 1 gn rfl rfl (by simp only [topOf]; omega) ?_
    refine o_as (Nv (t + 1)) rfl (aops_end ?_)
    refine ⟨_, _, ?lt, ⟨t + 1, (by omega), rfl, rfl⟩, ?wk⟩
    case lt => omega
    case wk => exact Wk.sub ⟨rfl, rfl, rfl, rfl, rfl, rfl, (by first | rfl | exact nm_int (by omega)), trivial⟩ ⟨rfl, (by first | rfl | exact row_ns (by simp) | (first | exact row_gs' (lnP_s (by omega)) | exact row_gs' (by rw [Nat.zero_mul]; rfl) | exact row_gs' (by rw [show r = m.mod.toNat by omega, Nat.succ_mul]) | exact row_gs' (by rfl))), trivial⟩
  ·refine awp_exit ?_
   refine hK9 _ (awp_seq fun K18 hK18 => ?_)
   refine awp_wk (σ' := ⟨[(1, Iv k), (2, .ref 2 0), (5, .sl 1 (gcells cM o)), (7, Nv i), (8, .row 50)], [(2, oM 24 m), (50, .row 104 6 (gcells cJ (lnP m (i + 1) (t * m.mod.toNat))))]⟩) (Wk.sub ⟨rfl, rfl, rfl, rfl, rfl, trivial⟩ ⟨rfl, rfl, trivial⟩) ?_
   refine awp_wk (σ' := ⟨[(1, Iv k), (2, .ref 2 0), (5, .sl 1 (gcells cM o)), (7, Nv i), (8, .sl 6 (gcells cJ (lnP m (i + 1) (t * m.mod.toNat))))], [(2, oM 24 m)]⟩) (Wk.freeze (id := 50) (e := 104) (sz := 6) (cs := (gcells cJ (lnP m (i + 1) (t * m.mod.toNat)))) rfl) ?_
   refine awp_region rfl (o_mv (.sl 6 (gcells cJ (lnP m (i + 1) (t * m.mod.toNat)))) rfl (o_as (.sl 6 (gcells cJ (lnP m (i + 1) (t * m.mod.toNat)))) rfl (aops_end (hK18 _ (awp_seq fun K19 hK19 => awp_region rfl (o_as (Nv 0) rfl (aops_end (hK19 _ ?_))))))))
   refine awp_block ?_
   refine awp_loopR (fun κ σ => ∃ (s : Nat), ∃ (p : List (List Int)), (s ≤ m.mod.toNat ^ (i + 1)) ∧ (outP m k p (i + 1) s) ∧ (p.length ≤ s + 65536 * i) ∧ (m.mod.toNat ^ (i + 1) - s) = κ ∧ σ = ⟨[(1, Iv k), (2, .ref 2 0), (5, .sl 1 (gcells cM p)), (6, .sl 6 (gcells cJ (lnP m (i + 1) (m.mod.toNat ^ (i + 1))))), (7, Nv i), (11, Nv s)], [(2, oM 24 m)]⟩) ⟨_, _, ⟨0, o, Nat.zero_le _, ho, (by omega), rfl, rfl⟩, ?wk3⟩ ?rd3
   case wk3 =>
    exact Wk.sub ⟨rfl, rfl, (by first | rfl | (first | rfl | exact congrArg (fun l => AV.sl 1 (gcells cM l)) (ins_is _ _ _) | exact congrArg (fun l => AV.sl 6 (gcells cJ l)) (by rw [show t = m.mod.toNat ^ i by omega, Nat.pow_succ]))), (by first | rfl | (first | rfl | exact congrArg (fun l => AV.sl 1 (gcells cM l)) (ins_is _ _ _) | exact congrArg (fun l => AV.sl 6 (gcells cJ l)) (by rw [show t = m.mod.toNat ^ i by omega, Nat.pow_succ]))), rfl, (by first | rfl | exact nm_int (by omega)), trivial⟩ ⟨rfl, trivial⟩
   rintro κ _ ⟨s, p, hs, hp, hpl, rfl, rfl⟩
   refine awp_seq fun K20 hK20 => awp_seq fun K21 hK21 => awp_region rfl (o_mv (Nv s) rfl (o_mv (.sl 6 (gcells cJ (lnP m (i + 1) (m.mod.toNat ^ (i + 1))))) rfl ?_))
   refine g_len cJ (lnP m (i + 1) (m.mod.toNat ^ (i + 1))) cJ_len gn f130_ rfl ?_
   refine n_lss s ((lnP m (i + 1) (m.mod.toNat ^ (i + 1))).length) gn rfl rfl ?_
   refine aops_end (hK21 _ ?_)
   refine awp_condQ (q := s < ((lnP m (i + 1) (m.mod.toNat ^ (i + 1))).length)) rfl (fun h4 => ?_) (fun h4 => ?_)
   ·have hW : OkW m (wordT m.mod.toNat (i + 1) s) := ⟨wordT_is hM _ _, by have := wordT_len m.mod.toNat (i + 1) s; omega⟩
    have b4 := wordT_len m.mod.toNat (i + 1) s
    have hne : (wordT m.mod.toNat (i + 1) s) ≠ [] := fun e => by rw [e] at b4; simp at b4
    obtain ⟨b1, b2, b3⟩ := line_len hM (wordT m.mod.toNat (i + 1) s) hW.1
    have b5 := line_ne hM hmy.1 hW.1 hne
    have b6 := len_subZ (lineZ m (wordT m.mod.toNat (i + 1) s)).div (lineZ m (wordT m.mod.toNat (i + 1) s)).mul
    obtain ⟨b7, b8⟩ := fix_len hM hmy.1 hW hne
    refine awp_skip (hK20 _ (awp_seq fun K22 hK22 => ?_))
    refine awp_block ?_
    refine awp_seq fun K23 hK23 => awp_regionD rfl (o_mv (.sl 6 (gcells cJ (lnP m (i + 1) (m.mod.toNat ^ (i + 1))))) rfl (o_mv (Nv s) rfl ?_))
    refine g_index cJ (lnP m (i + 1) (m.mod.toNat ^ (i + 1))) s cJ_len rfl gn f129_ rfl rfl (by omega) ?_
    refine g_field cJ (lnP m (i + 1) (m.mod.toNat ^ (i + 1))) s cJ_len gn f112_ rfl (by omega) rfl ?_
    refine g_loadF cJ (lnP m (i + 1) (m.mod.toNat ^ (i + 1))) s default [bp (((lnP m (i + 1) (m.mod.toNat ^ (i + 1))).getD s default).div < 0), .sl 1 (ns .i64 (digs (((lnP m (i + 1) (m.mod.toNat ^ (i + 1))).getD s default).div).natAbs))] cJ_len gn f14_ rfl (by omega) rfl rfl ?_
    refine n_as (v' := (intR ((lineZ m (wordT m.mod.toNat (i + 1) s)).div))) (by exact congrArg (fun l : LinZ => intR l.div) (lnP_get (by omega))) ?_
    refine o_mv (.sl 6 (gcells cJ (lnP m (i + 1) (m.mod.toNat ^ (i + 1))))) rfl (o_mv (Nv s) rfl ?_)
    refine g_index cJ (lnP m (i + 1) (m.mod.toNat ^ (i + 1))) s cJ_len rfl gn f129_ rfl rfl (by omega) ?_
    refine g_field cJ (lnP m (i + 1) (m.mod.toNat ^ (i + 1))) s cJ_len gn f110_ rfl (by omega) rfl ?_
    refine g_loadF cJ (lnP m (i + 1) (m.mod.toNat ^ (i + 1))) s default [bp (((lnP m (i + 1) (m.mod.toNat ^ (i + 1))).getD s default).mul < 0), .sl 1 (ns .i64 (digs (((lnP m (i + 1) (m.mod.toNat ^ (i + 1))).getD s default).mul).natAbs))] cJ_len gn f14_ rfl (by omega) rfl rfl ?_
    refine n_as (v' := (intR ((lineZ m (wordT m.mod.toNat (i + 1) s)).mul))) (by exact congrArg (fun l : LinZ => intR l.mul) (lnP_get (by omega))) ?_
    refine o_ct (c_rSub ((lineZ m (wordT m.mod.toNat (i + 1) s)).div) ((lineZ m (wordT m.mod.toNat (i + 1) s)).mul) (by first | omega | assumption | (simp only [Int.natAbs_neg]; omega)) (by first | omega | assumption | (simp only [Int.natAbs_neg]; omega))) gn f108_ rfl ?_
    refine o_alloc 401 [Fv, Zv] gn f9_ rfl rfl rfl ?_
    refine o_store [(401, oZ 42 .i64 ((lineZ m (wordT m.mod.toNat (i + 1) s)).div - (lineZ m (wordT m.mod.toNat (i + 1) s)).mul)), (2, oM 24 m)] gn f13_ rfl rfl rfl rfl rfl rfl ?_
    refine aops_end ⟨by kernel_rfl, ?_⟩
    refine hK23 _ (awp_seq fun K24 hK24 => awp_region rfl (o_mv (.sl 6 (gcells cJ (lnP m (i + 1) (m.mod.toNat ^ (i + 1))))) rfl (o_mv (Nv s) rfl ?_)))
    refine g_index cJ (lnP m (i + 1) (m.mod.toNat ^ (i + 1))) s cJ_len rfl gn f129_ rfl rfl (by omega) ?_
    refine g_field cJ (lnP m (i + 1) (m.mod.toNat ^ (i + 1))) s cJ_len gn f111_ rfl (by omega) rfl ?_
    refine g_loadF cJ (lnP m (i + 1) (m.mod.toNat ^ (i + 1))) s default [bp (((lnP m (i + 1) (m.mod.toNat ^ (i + 1))).getD s default).add < 0), .sl 1 (ns .i64 (digs (((lnP m (i + 1) (m.mod.toNat ^ (i + 1))).getD s default).add).natAbs))] cJ_len gn f14_ rfl (by omega) rfl rfl ?_
    refine n_as (v' := (intR ((lineZ m (wordT m.mod.toNat (i + 1) s)).add))) (by exact congrArg (fun l : LinZ => intR l.add) (lnP_get (by omega))) ?_
    refine o_alloc 402 [Fv, Zv] gn f9_ rfl rfl rfl ?_
    refine o_store [(402, oZ 42 .i64 ((lineZ m (wordT m.mod.toNat (i + 1) s)).add)), (401, oZ 42 .i64 ((lineZ m (wordT m.mod.toNat (i + 1) s)).div - (lineZ m (wordT m.mod.toNat (i + 1) s)).mul)), (2, oM 24 m)] gn f13_ rfl rfl rfl rfl rfl rfl ?_
    refine aops_end (hK24 _ (awp_seq fun K25 hK25 => awp_seq fun K26 hK26 => awp_region rfl ?_))
    refine o_loadA [bp (((lineZ m (wordT m.mod.toNat (i + 1) s)).div - (lineZ m (wordT m.mod.toNat (i + 1) s)).mul) < 0), .sl 1 (ns .i64 (digs ((lineZ m (wordT m.mod.toNat (i + 1) s)).div - (lineZ m (wordT m.mod.toNat (i + 1) s)).mul).natAbs))] gn f14_ rfl rfl rfl rfl rfl ?_
    refine o_ct (c_rSign ((lineZ m (wordT m.mod.toNat (i + 1) s)).div - (lineZ m (wordT m.mod.toNat (i + 1) s)).mul)) gn f21_ rfl ?_
    refine o_lss (a := (sgn ((lineZ m (wordT m.mod.toNat (i + 1) s)).div - (lineZ m (wordT m.mod.toNat (i + 1) s)).mul))) (c := ((0 : Nat) : Int)) gn rfl rfl ?_
    refine aops_end (hK26 _ ?_)
    refine awp_condQ (q := (sgn ((lineZ m (wordT m.mod.toNat (i + 1) s)).div - (lineZ m (wordT m.mod.toNat (i + 1) s)).mul)) < ((0 : Nat) : Int)) rfl (fun h5 => ?_) (fun h5 => ?_)
    ·have hD : ((lineZ m (wordT m.mod.toNat (i + 1) s)).div - (lineZ m (wordT m.mod.toNat (i + 1) s)).mul) < 0 := sgn_lt0.1 h5
     obtain ⟨d1, d2⟩ := fix_neg hD
     have b9 : (digs (-((lineZ m (wordT m.mod.toNat (i + 1) s)).div - (lineZ m (wordT m.mod.toNat (i + 1) s)).mul)).natAbs).length ≤ 1000000 := by rw [Int.natAbs_neg]; omega
     have b10 : (digs (-(lineZ m (wordT m.mod.toNat (i + 1) s)).add).natAbs).length ≤ 1000000 := by rw [Int.natAbs_neg]; omega
     have b11 := len_ediv (-(lineZ m (wordT m.mod.toNat (i + 1) s)).add) (show 0 < -((lineZ m (wordT m.mod.toNat (i + 1) s)).div - (lineZ m (wordT m.mod.toNat (i + 1) s)).mul) by omega)
     have b12 := Int.emod_nonneg (-(lineZ m (wordT m.mod.toNat (i + 1) s)).add) (show -((lineZ m (wordT m.mod.toNat (i + 1) s)).div - (lineZ m (wordT m.mod.toNat (i + 1) s)).mul) ≠ 0 by omega)
     refine awp_regionD rfl ?_
     refine o_loadA [bp (((lineZ m (wordT m.mod.toNat (i + 1) s)).div - (lineZ m (wordT m.mod.toNat (i + 1) s)).mul) < 0), .sl 1 (ns .i64 (digs ((lineZ m (wordT m.mod.toNat (i + 1) s)).div - (lineZ m (wordT m.mod.toNat (i + 1) s)).mul).natAbs))] gn f14_ rfl rfl rfl rfl rfl ?_
     refine o_ct (c_rMinus ((lineZ m (wordT m.mod.toNat (i + 1) s)).div - (lineZ m (wordT m.mod.toNat (i + 1) s)).mul)) gn f37_ rfl ?_
     refine o_loadA [bp ((lineZ m (wordT m.mod.toNat (i + 1) s)).add < 0), .sl 1 (ns .i64 (digs ((lineZ m (wordT m.mod.toNat (i + 1) s)).add).natAbs))] gn f14_ rfl rfl rfl rfl rfl ?_
     refine o_ct (c_rMinus ((lineZ m (wordT m.mod.toNat (i + 1) s)).add)) gn f37_ rfl ?_
     refine o_store [(402, oZ 42 .i64 ((lineZ m (wordT m.mod.toNat (i + 1) s)).add)), (401, oZ 42 .i64 (-((lineZ m (wordT m.mod.toNat (i + 1) s)).div - (lineZ m (wordT m.mod.toNat (i + 1) s)).mul))), (2, oM 24 m)] gn f13_ rfl rfl rfl rfl rfl rfl ?_
     refine o_store [(402, oZ 42 .i64 (-(lineZ m (wordT m.mod.toNat (i + 1) s)).add)), (401, oZ 42 .i64 (-((lineZ m (wordT m.mod.toNat (i + 1) s)).div - (lineZ m (wordT m.mod.toNat (i + 1) s)).mul))), (2, oM 24 m)] gn f13_ rfl rfl rfl rfl rfl rfl ?_
     refine aops_end ⟨by kernel_rfl, ?_⟩
     refine hK25 _ (awp_seq fun K27 hK27 => awp_region rfl ?_)
     refine o_loadA [bp ((-(lineZ m (wordT m.mod.toNat (i + 1) s)).add) < 0), .sl 1 (ns .i64 (digs (-(lineZ m (wordT m.mod.toNat (i + 1) s)).add).natAbs))] gn f14_ rfl rfl rfl rfl rfl ?_
     refine o_loadA [bp ((-((lineZ m (wordT m.mod.toNat (i + 1) s)).div - (lineZ m (wordT m.mod.toNat (i + 1) s)).mul)) < 0), .sl 1 (ns .i64 (digs (-((lineZ m (wordT m.mod.toNat (i + 1) s)).div - (lineZ m (wordT m.mod.toNat (i + 1) s)).mul)).natAbs))] gn f14_ rfl rfl rfl rfl rfl ?_
     refine o_ct (c_rDiv (-(lineZ m (wordT m.mod.toNat (i + 1) s)).add) (-((lineZ m (wordT m.mod.toNat (i + 1) s)).div - (lineZ m (wordT m.mod.toNat (i + 1) s)).mul)) (by omega) (by omega) (by omega)) gn f132_ rfl ?_
     refine o_mv (.tup [intR ((-(lineZ m (wordT m.mod.toNat (i + 1) s)).add) / (-((lineZ m (wordT m.mod.toNat (i + 1) s)).div - (lineZ m (wordT m.mod.toNat (i + 1) s)).mul))), intR ((-(lineZ m (wordT m.mod.toNat (i + 1) s)).add) % (-((lineZ m (wordT m.mod.toNat (i + 1) s)).div - (lineZ m (wordT m.mod.toNat (i + 1) s)).mul)))]) rfl (o_extract (intR ((-(lineZ m (wordT m.mod.toNat (i + 1) s)).add) / (-((lineZ m (wordT m.mod.toNat (i + 1) s)).div - (lineZ m (wordT m.mod.toNat (i + 1) s)).mul)))) gn rfl rfl (o_extract (intR ((-(lineZ m (wordT m.mod.toNat (i + 1) s)).add) % (-((lineZ m (wordT m.mod.toNat (i + 1) s)).div - (lineZ m (wordT m.mod.toNat (i + 1) s)).mul)))) gn rfl rfl ?_))
     refine o_alloc 403 [Fv, Zv] gn f9_ rfl rfl rfl ?_
     refine o_alloc 404 [Fv, Zv] gn f9_ rfl rfl rfl ?_
     refine o_store [(404, .var 42 [Fv, Zv]), (403, oZ 42 .i64 ((-(lineZ m (wordT m.mod.toNat (i + 1) s)).add) / (-((lineZ m (wordT m.mod.toNat (i + 1) s)).div - (lineZ m (wordT m.mod.toNat (i + 1) s)).mul)))), (402, oZ 42 .i64 (-(lineZ m (wordT m.mod.toNat (i + 1) s)).add)), (401, oZ 42 .i64 (-((lineZ m (wordT m.mod.toNat (i + 1) s)).div - (lineZ m (wordT m.mod.toNat (i + 1) s)).mul))), (2, oM 24 m)] gn f13_ rfl rfl rfl rfl rfl rfl ?_
     refine o_store [(404, oZ 42 .i64 ((-(lineZ m (wordT m.mod.toNat (i + 1) s)).add) % (-((lineZ m (wordT m.mod.toNat (i + 1) s)).div - (lineZ m (wordT m.mod.toNat (i + 1) s)).mul)))), (403, oZ 42 .i64 ((-(lineZ m (wordT m.mod.toNat (i + 1) s)).add) / (-((lineZ m (wordT m.mod.toNat (i + 1) s)).div - (lineZ m (wordT m.mod.toNat (i + 1) s)).mul)))), (402, oZ 42 .i64 (-(lineZ m (wordT m.mod.toNat (i + 1) s)).add)), (401, oZ 42 .i64 (-((lineZ m (wordT m.mod.toNat (i + 1) s)).div - (lineZ m (wordT m.mod.toNat (i + 1) s)).mul))), (2, oM 24 m)] gn f13_ rfl rfl rfl rfl rfl rfl ?_
     refine aops_end (hK27 _ (awp_seq fun K28 hK28 => awp_seq fun K29 hK29 => awp_region rfl ?_))
     refine o_loadA [bp (((-(lineZ m (wordT m.mod.toNat (i + 1) s)).add) % (-((lineZ m (wordT m.mod.toNat (i + 1) s)).div - (lineZ m (wordT m.mod.toNat (i + 1) s)).mul))) < 0), .sl 1 (ns .i64 (digs ((-(lineZ m (wordT m.mod.toNat (i + 1) s)).add) % (-((lineZ m (wordT m.mod.toNat (i + 1) s)).div - (lineZ m (wordT m.mod.toNat (i + 1) s)).mul))).natAbs))] gn f14_ rfl rfl rfl rfl rfl ?_
     refine o_ct (c_rSign ((-(lineZ m (wordT m.mod.toNat (i + 1) s)).add) % (-((lineZ m (wordT m.mod.toNat (i + 1) s)).div - (lineZ m (wordT m.mod.toNat (i + 1) s)).mul)))) gn f21_ rfl ?_
     refine o_neq (a := (sgn ((-(lineZ m (wordT m.mod.toNat (i + 1) s)).add) % (-((lineZ m (wordT m.mod.toNat (i + 1) s)).div - (lineZ m (wordT m.mod.toNat (i + 1) s)).mul))))) (c := ((0 : Nat) : Int)) gn rfl rfl ?_
     refine aops_end (hK29 _ ?_)
     refine awp_condQ (q := (sgn ((-(lineZ m (wordT m.mod.toNat (i + 1) s)).add) % (-((lineZ m (wordT m.mod.toNat (i + 1) s)).div - (lineZ m (wordT m.mod.toNat (i + 1) s)).mul)))) ≠ ((0 : Nat) : Int)) rfl (fun h6 => ?_) (fun h6 => ?_)
     ·have hdn : ¬ (fixZ m (wordT m.mod.toNat (i + 1) s)).den = 1 := fun e => h6 (sgn_z0.2 (d1.1 e))
      refine awp_exit ?_
      refine hK22 _ (awp_region rfl (o_mv (Nv s) rfl ?_))
      refine n_add s 1 gn rfl rfl (by simp only [topOf]; omega) ?_
      refine o_as (Nv (s + 1)) rfl (aops_end ?_)
      refine ⟨_, _, ?lt, ⟨s + 1, p, (by omega), (by first | exact out_skip hp (fun e => absurd e hdn) | exact out_skip hp (fun _ => out_have hM hmy.1 hk100 hp hmem (by omega) (by assumption) (by assumption)) | exact out_ins hp rfl hmem (by omega) hv (.inl (by omega)) | exact out_ins hp rfl hmem (by omega) hv (.inr ⟨by omega, by assumption⟩) ), (by first | omega | (simp only [List.length_append, List.length_cons, List.length_nil, List.length_take, List.length_drop]; omega)), rfl, rfl⟩, ?wk⟩
      case lt => omega
      case wk => exact Wk.sub ⟨rfl, rfl, rfl, rfl, rfl, (by first | rfl | exact nm_int (by omega)), trivial⟩ ⟨rfl, trivial⟩
     ·have hden := d1.2 (sgn_z0.1 (Decidable.not_not.1 h6))
      have b20 := wordT_len m.mod.toNat (i + 1) s
      obtain ⟨_, c1, _⟩ := fix_int hM hmy.1 hW.1 hden
      rw [b20] at c1
      have hmem := refLp_mem hM hmy.1 (k := k) (K := k.toNat) (by omega) (by omega) (show 0 < i + 1 by omega) (show i + 1 ≤ k.toNat by omega) c1
      obtain ⟨_, c2⟩ := cyU_loo hM hmy.1 (by omega) hmem
      have c3 := c2.pos
      have c4 := fit_len c2.fit
      refine awp_skip (hK28 _ (awp_seq fun K30 hK30 => awp_region rfl ?_))
      refine o_loadA [Iv m.mod, Lv m.mul, Lv m.add] gn f63_ rfl rfl rfl rfl rfl ?_
      refine o_loadA [bp (((-(lineZ m (wordT m.mod.toNat (i + 1) s)).add) / (-((lineZ m (wordT m.mod.toNat (i + 1) s)).div - (lineZ m (wordT m.mod.toNat (i + 1) s)).mul))) < 0), .sl 1 (ns .i64 (digs ((-(lineZ m (wordT m.mod.toNat (i + 1) s)).add) / (-((lineZ m (wordT m.mod.toNat (i + 1) s)).div - (lineZ m (wordT m.mod.toNat (i + 1) s)).mul))).natAbs))] gn f14_ rfl rfl rfl rfl rfl ?_
      refine n_as (v' := (intR ((fixZ m (wordT m.mod.toNat (i + 1) s)).num))) (by exact congrArg intR (d2 hden).symm) ?_
      refine o_mv (Iv k) rfl ?_
      refine o_ct (c_zLoop m ((fixZ m (wordT m.mod.toNat (i + 1) s)).num) k hM (by omega) (by omega)) gn f133_ rfl ?_
      refine o_as (.sl 2 (gcells cN (refLp m ((fixZ m (wordT m.mod.toNat (i + 1) s)).num) k))) rfl (aops_end (hK30 _ (awp_seq fun K31 hK31 => awp_region rfl (o_as (Nv 0) rfl (aops_end (hK31 _ (awp_seq fun K32 hK32 => ?_)))))))
      refine awp_block ?_
      refine awp_loopR (fun κ σ => ∃ (a : Nat), (a ≤ p.length) ∧ (∀ j, j < a → ordL (p.getD j default) (refLp m ((fixZ m (wordT m.mod.toNat (i + 1) s)).num) k)) ∧ (p.length - a) = κ ∧ σ = ⟨[(1, Iv k), (2, .ref 2 0), (5, .sl 1 (gcells cM p)), (6, .sl 6 (gcells cJ (lnP m (i + 1) (m.mod.toNat ^ (i + 1))))), (7, Nv i), (11, Nv s), (16, .sl 2 (gcells cN (refLp m ((fixZ m (wordT m.mod.toNat (i + 1) s)).num) k))), (17, Nv a)], [(2, oM 24 m)]⟩) ⟨_, _, ⟨0, Nat.zero_le _, (fun j hj => by omega), rfl, rfl⟩, ?wk4⟩ ?rd4
      case wk4 =>
       exact Wk.sub ⟨rfl, rfl, rfl, rfl, rfl, rfl, (by first | rfl | (first | rfl | exact congrArg (fun l => AV.sl 1 (gcells cM l)) (ins_is _ _ _) | exact congrArg (fun l => AV.sl 6 (gcells cJ l)) (by rw [show t = m.mod.toNat ^ i by omega, Nat.pow_succ]))), (by first | rfl | exact nm_int (by omega)), trivial⟩ ⟨rfl, trivial⟩
      rintro κ _ ⟨a, ha, hv, rfl, rfl⟩
      refine awp_seq fun K33 hK33 => awp_seq fun K34 hK34 => awp_region rfl (o_mv (Nv a) rfl (o_mv (.sl 1 (gcells cM p)) rfl ?_))
      refine g_len cM p cM_len gn f134_ rfl ?_
      refine n_lss a (p.length) gn rfl rfl ?_
      refine o_mv (bp (a < (p.length))) rfl ?_
      refine o_splitP (q := a < (p.length)) 94 rfl (fun h7 => ?_) (fun h7 => ?_)
      ·have hpa := hp.2.1 _ (getD_memL h7)
       obtain ⟨_, c5⟩ := cyU_loo hM hmy.1 (by omega) hpa
       have c6 := c5.pos
       have c7 := fit_len c5.fit
       refine o_move (.sl 1 (gcells cM p)) (Gd.yes rfl rfl (decide_eq_true h7)) rfl (o_move (Nv a) (Gd.yes rfl rfl (decide_eq_true h7)) rfl ?_)
       refine g_index cM p a cM_len rfl (Gd.yes rfl rfl (decide_eq_true h7)) f135_ rfl rfl (by omega) ?_
       refine g_loadS cM p a default (.sl 2 (gcells cN (p.getD a default))) cM_len (Gd.yes rfl rfl (decide_eq_true h7)) f136_ rfl (by omega) rfl ?_
       refine o_move (.sl 2 (gcells cN (refLp m ((fixZ m (wordT m.mod.toNat (i + 1) s)).num) k))) (Gd.yes rfl rfl (decide_eq_true h7)) rfl ?_
       refine o_ct (c_zBefore (p.getD a default) (refLp m ((fixZ m (wordT m.mod.toNat (i + 1) s)).num) k) (by omega) (by omega) (by omega) (by omega)) (Gd.yes rfl rfl (decide_eq_true h7)) f137_ rfl ?_
       refine o_pickT (bp (ordL (p.getD a default) (refLp m ((fixZ m (wordT m.mod.toNat (i + 1) s)).num) k))) gn rfl (decide_eq_true h7) rfl ?_
       refine aops_end (hK34 _ ?_)
       refine awp_condQ (q := ordL (p.getD a default) (refLp m ((fixZ m (wordT m.mod.toNat (i + 1) s)).num) k)) rfl (fun h8 => ?_) (fun h8 => ?_)
       ·refine awp_skip (hK33 _ ?_)
        refine awp_block ?_
        refine awp_region rfl (o_mv (Nv a) rfl ?_)
        refine n_add a 1 gn rfl rfl (by simp only [topOf]; omega) ?_
        refine o_as (Nv (a + 1)) rfl (aops_end ?_)
        refine ⟨_, _, ?lt, ⟨a + 1, (by omega), (fun j hj => by by_cases e : j = a; subst e; assumption; exact hv j (by omega)), rfl, rfl⟩, ?wk⟩
        case lt => omega
        case wk => exact Wk.sub ⟨rfl, rfl, rfl, rfl, rfl, rfl, rfl, (by first | rfl | exact nm_int (by omega)), trivial⟩ ⟨rfl, trivial⟩
       ·refine awp_exit ?_
        refine hK32 _ (awp_seq fun K35 hK35 => awp_region rfl (o_mv (Nv a) rfl (o_mv (.sl 1 (gcells cM p)) rfl ?_)))
        refine g_len cM p cM_len gn f134_ rfl ?_
        refine n_eql a (p.length) gn rfl rfl ?_
        refine o_mv (bp (a = (p.length))) rfl ?_
        refine o_splitP (q := a = (p.length)) 108 rfl (fun h9 => ?_) (fun h9 => ?_)
        ·refine o_skip rfl rfl (decide_eq_true h9) (o_skip rfl rfl (decide_eq_true h9) (o_skip rfl rfl (decide_eq_true h9) (o_skip rfl rfl (decide_eq_true h9) (o_skip rfl rfl (decide_eq_true h9) (o_skip rfl rfl (decide_eq_true h9) ?_)))))
         refine o_pickT Tv gn rfl (decide_eq_true h9) rfl ?_
         refine aops_end (hK35 _ ?_)
         refine awp_condB (b := true) rfl (fun _ => ?_) (fun hh => absurd (hh.symm.trans rfl) (by decide))
         refine awp_regionD rfl ?_
         refine o_buildSlice 501 (gcells cM ([])) [] gn f135_ rfl f138_ rfl rfl rfl rfl rfl rfl rfl ?_
         refine o_mv (.sl 1 (gcells cM p)) rfl (o_mv (Nv a) rfl ?_)
         refine g_slice cM p 0 a cM_len gn f135_ rfl rfl (hi_nm rfl) trivial (by omega) (by omega) ?_
         refine g_appendSl cM 502 ([]) ((p.drop 0).take (a - 0)) [(2, oM 24 m)] cM_len rfl gn f135_ f138_ rfl rfl rfl rfl (by simp only [List.length_append, List.length_cons, List.length_nil, List.length_take, List.length_drop]; omega) (by simp only [List.length_append, List.length_cons, List.length_nil, List.length_take, List.length_drop]; omega) rfl rfl ?_
         refine o_mv (.sl 2 (gcells cN (refLp m ((fixZ m (wordT m.mod.toNat (i + 1) s)).num) k))) rfl ?_
         refine o_buildSlice 503 (gcells cM ([refLp m ((fixZ m (wordT m.mod.toNat (i + 1) s)).num) k])) [(0, [.sl 2 (gcells cN (refLp m ((fixZ m (wordT m.mod.toNat (i + 1) s)).num) k))])] gn f135_ rfl f138_ rfl rfl rfl rfl rfl rfl rfl ?_
         refine g_append cM 504 ((p.drop 0).take (a - 0)) ([refLp m ((fixZ m (wordT m.mod.toNat (i + 1) s)).num) k]) [(503, .row 39 1 (gcells cM ([refLp m ((fixZ m (wordT m.mod.toNat (i + 1) s)).num) k]))), (2, oM 24 m)] cM_len rfl gn f135_ f138_ rfl rfl rfl rfl rfl (by simp only [List.length_append, List.length_cons, List.length_nil, List.length_take, List.length_drop]; omega) (by simp only [List.length_append, List.length_cons, List.length_nil, List.length_take, List.length_drop]; omega) rfl rfl ?_
         refine o_mv (.sl 1 (gcells cM p)) rfl (o_mv (Nv a) rfl ?_)
         refine g_slice cM p a (p.length) cM_len gn f135_ rfl (lo_nm rfl) rfl trivial (by omega) (by omega) ?_
         refine g_appendSl cM 505 (((p.drop 0).take (a - 0)) ++ ([refLp m ((fixZ m (wordT m.mod.toNat (i + 1) s)).num) k])) ((p.drop a).take (p.length - a)) [(503, .row 39 1 (gcells cM ([refLp m ((fixZ m (wordT m.mod.toNat (i + 1) s)).num) k]))), (2, oM 24 m)] cM_len rfl gn f135_ f138_ rfl rfl rfl rfl (by simp only [List.length_append, List.length_cons, List.length_nil, List.length_take, List.length_drop]; omega) (by simp only [List.length_append, List.length_cons, List.length_nil, List.length_take, List.length_drop]; omega) rfl rfl ?_
         refine o_as (.row 505) rfl ?_
         refine aops_end ⟨by kernel_rfl, ?_⟩
         refine hK22 _ ?_
         refine awp_wk (σ' := ⟨[(1, Iv k), (2, .ref 2 0), (5, .row 505), (6, .sl 6 (gcells cJ (lnP m (i + 1) (m.mod.toNat ^ (i + 1))))), (7, Nv i), (11, Nv s)], [(505, .row 39 1 (gcells cM ((((p.drop 0).take (a - 0)) ++ ([refLp m ((fixZ m (wordT m.mod.toNat (i + 1) s)).num) k])) ++ ((p.drop a).take (p.length - a))))), (2, oM 24 m)]⟩) (Wk.sub ⟨rfl, rfl, rfl, rfl, rfl, rfl, trivial⟩ ⟨rfl, rfl, trivial⟩) ?_
         refine awp_wk (σ' := ⟨[(1, Iv k), (2, .ref 2 0), (5, .sl 1 (gcells cM ((((p.drop 0).take (a - 0)) ++ ([refLp m ((fixZ m (wordT m.mod.toNat (i + 1) s)).num) k])) ++ ((p.drop a).take (p.length - a))))), (6, .sl 6 (gcells cJ (lnP m (i + 1) (m.mod.toNat ^ (i + 1))))), (7, Nv i), (11, Nv s)], [(2, oM 24 m)]⟩) (Wk.freeze (id := 505) (e := 39) (sz := 1) (cs := (gcells cM ((((p.drop 0).take (a - 0)) ++ ([refLp m ((fixZ m (wordT m.mod.toNat (i + 1) s)).num) k])) ++ ((p.drop a).take (p.length - a))))) rfl) ?_
         refine awp_region rfl (o_mv (Nv s) rfl ?_)
         refine n_add s 1 gn rfl rfl (by simp only [topOf]; omega) ?_
         refine o_as (Nv (s + 1)) rfl (aops_end ?_)
         refine ⟨_, _, ?lt, ⟨s + 1, (p.take a ++ [refLp m ((fixZ m (wordT m.mod.toNat (i + 1) s)).num) k]) ++ p.drop a, (by omega), (by first | exact out_skip hp (fun e => absurd e hdn) | exact out_skip hp (fun _ => out_have hM hmy.1 hk100 hp hmem (by omega) (by assumption) (by assumption)) | exact out_ins hp rfl hmem (by omega) hv (.inl (by omega)) | exact out_ins hp rfl hmem (by omega) hv (.inr ⟨by omega, by assumption⟩) ), (by first | omega | (simp only [List.length_append, List.length_cons, List.length_nil, List.length_take, List.length_drop]; omega)), rfl, rfl⟩, ?wk⟩
         case lt => omega
         case wk => exact Wk.sub ⟨rfl, rfl, (by first | rfl | (first | rfl | exact congrArg (fun l => AV.sl 1 (gcells cM l)) (ins_is _ _ _) | exact congrArg (fun l => AV.sl 6 (gcells cJ l)) (by rw [show t = m.mod.toNat ^ i by omega, Nat.pow_succ]))), rfl, rfl, (by first | rfl | exact nm_int (by omega)), trivial⟩ ⟨rfl, trivial⟩
        ·have hpa := hp.2.1 _ (getD_memL (show a < p.length by omega))
         obtain ⟨_, c5⟩ := cyU_loo hM hmy.1 (by omega) hpa
         have c6 := c5.pos
         have c7 := fit_len c5.fit
         refine o_move (.sl 2 (gcells cN (refLp m ((fixZ m (wordT m.mod.toNat (i + 1) s)).num) k))) (Gd.yes rfl rfl (decide_eq_false h9)) rfl (o_move (.sl 1 (gcells cM p)) (Gd.yes rfl rfl (decide_eq_false h9)) rfl (o_move (Nv a) (Gd.yes rfl rfl (decide_eq_false h9)) rfl ?_))
         refine g_index cM p a cM_len rfl (Gd.yes rfl rfl (decide_eq_false h9)) f135_ rfl rfl (by omega) ?_
         refine g_loadS cM p a default (.sl 2 (gcells cN (p.getD a default))) cM_len (Gd.yes rfl rfl (decide_eq_false h9)) f136_ rfl (by omega) rfl ?_
         refine o_ct (c_zBefore (refLp m ((fixZ m (wordT m.mod.toNat (i + 1) s)).num) k) (p.getD a default) (by omega) (by omega) (by omega) (by omega)) (Gd.yes rfl rfl (decide_eq_false h9)) f137_ rfl ?_
         refine o_pickF (bp (ordL (refLp m ((fixZ m (wordT m.mod.toNat (i + 1) s)).num) k) (p.getD a default))) gn rfl (decide_eq_false h9) rfl ?_
         refine aops_end (hK35 _ ?_)
         refine awp_condQ (q := ordL (refLp m ((fixZ m (wordT m.mod.toNat (i + 1) s)).num) k) (p.getD a default)) rfl (fun h10 => ?_) (fun h10 => ?_)
         ·refine awp_regionD rfl ?_
          refine o_buildSlice 501 (gcells cM ([])) [] gn f135_ rfl f138_ rfl rfl rfl rfl rfl rfl rfl ?_
          refine o_mv (.sl 1 (gcells cM p)) rfl (o_mv (Nv a) rfl ?_)
          refine g_slice cM p 0 a cM_len gn f135_ rfl rfl (hi_nm rfl) trivial (by omega) (by omega) ?_
          refine g_appendSl cM 502 ([]) ((p.drop 0).take (a - 0)) [(2, oM 24 m)] cM_len rfl gn f135_ f138_ rfl rfl rfl rfl (by simp only [List.length_append, List.length_cons, List.length_nil, List.length_take, List.length_drop]; omega) (by simp only [List.length_append, List.length_cons, List.length_nil, List.length_take, List.length_drop]; omega) rfl rfl ?_
          refine o_mv (.sl 2 (gcells cN (refLp m ((fixZ m (wordT m.mod.toNat (i + 1) s)).num) k))) rfl ?_
          refine o_buildSlice 503 (gcells cM ([refLp m ((fixZ m (wordT m.mod.toNat (i + 1) s)).num) k])) [(0, [.sl 2 (gcells cN (refLp m ((fixZ m (wordT m.mod.toNat (i + 1) s)).num) k))])] gn f135_ rfl f138_ rfl rfl rfl rfl rfl rfl rfl ?_
          refine g_append cM 504 ((p.drop 0).take (a - 0)) ([refLp m ((fixZ m (wordT m.mod.toNat (i + 1) s)).num) k]) [(503, .row 39 1 (gcells cM ([refLp m ((fixZ m (wordT m.mod.toNat (i + 1) s)).num) k]))), (2, oM 24 m)] cM_len rfl gn f135_ f138_ rfl rfl rfl rfl rfl (by simp only [List.length_append, List.length_cons, List.length_nil, List.length_take, List.length_drop]; omega) (by simp only [List.length_append, List.length_cons, List.length_nil, List.length_take, List.length_drop]; omega) rfl rfl ?_
          refine o_mv (.sl 1 (gcells cM p)) rfl (o_mv (Nv a) rfl ?_)
          refine g_slice cM p a (p.length) cM_len gn f135_ rfl (lo_nm rfl) rfl trivial (by omega) (by omega) ?_
          refine g_appendSl cM 505 (((p.drop 0).take (a - 0)) ++ ([refLp m ((fixZ m (wordT m.mod.toNat (i + 1) s)).num) k])) ((p.drop a).take (p.length - a)) [(503, .row 39 1 (gcells cM ([refLp m ((fixZ m (wordT m.mod.toNat (i + 1) s)).num) k]))), (2, oM 24 m)] cM_len rfl gn f135_ f138_ rfl rfl rfl rfl (by simp only [List.length_append, List.length_cons, List.length_nil, List.length_take, List.length_drop]; omega) (by simp only [List.length_append, List.length_cons, List.length_nil, List.length_take, List.length_drop]; omega) rfl rfl ?_
          refine o_as (.row 505) rfl ?_
          refine aops_end ⟨by kernel_rfl, ?_⟩
          refine hK22 _ ?_
          refine awp_wk (σ' := ⟨[(1, Iv k), (2, .ref 2 0), (5, .row 505), (6, .sl 6 (gcells cJ (lnP m (i + 1) (m.mod.toNat ^ (i + 1))))), (7, Nv i), (11, Nv s)], [(505, .row 39 1 (gcells cM ((((p.drop 0).take (a - 0)) ++ ([refLp m ((fixZ m (wordT m.mod.toNat (i + 1) s)).num) k])) ++ ((p.drop a).take (p.length - a))))), (2, oM 24 m)]⟩) (Wk.sub ⟨rfl, rfl, rfl, rfl, rfl, rfl, trivial⟩ ⟨rfl, rfl, trivial⟩) ?_
          refine awp_wk (σ' := ⟨[(1, Iv k), (2, .ref 2 0), (5, .sl 1 (gcells cM ((((p.drop 0).take (a - 0)) ++ ([refLp m ((fixZ m (wordT m.mod.toNat (i + 1) s)).num) k])) ++ ((p.drop a).take (p.length - a))))), (6, .sl 6 (gcells cJ (lnP m (i + 1) (m.mod.toNat ^ (i + 1))))), (7, Nv i), (11, Nv s)], [(2, oM 24 m)]⟩) (Wk.freeze (id := 505) (e := 39) (sz := 1) (cs := (gcells cM ((((p.drop 0).take (a - 0)) ++ ([refLp m ((fixZ m (wordT m.mod.toNat (i + 1) s)).num) k])) ++ ((p.drop a).take (p.length - a))))) rfl) ?_
          refine awp_region rfl (o_mv (Nv s) rfl ?_)
          refine n_add s 1 gn rfl rfl (by simp only [topOf]; omega) ?_
          refine o_as (Nv (s + 1)) rfl (aops_end ?_)
          refine ⟨_, _, ?lt, ⟨s + 1, (p.take a ++ [refLp m ((fixZ m (wordT m.mod.toNat (i + 1) s)).num) k]) ++ p.drop a, (by omega), (by first | exact out_skip hp (fun e => absurd e hdn) | exact out_skip hp (fun _ => out_have hM hmy.1 hk100 hp hmem (by omega) (by assumption) (by assumption)) | exact out_ins hp rfl hmem (by omega) hv (.inl (by omega)) | exact out_ins hp rfl hmem (by omega) hv (.inr ⟨by omega, by assumption⟩) ), (by first | omega | (simp only [List.length_append, List.length_cons, List.length_nil, List.length_take, List.length_drop]; omega)), rfl, rfl⟩, ?wk⟩
          case lt => omega
          case wk => exact Wk.sub ⟨rfl, rfl, (by first | rfl | (first | rfl | exact congrArg (fun l => AV.sl 1 (gcells cM l)) (ins_is _ _ _) | exact congrArg (fun l => AV.sl 6 (gcells cJ l)) (by rw [show t = m.mod.toNat ^ i by omega, Nat.pow_succ]))), rfl, rfl, (by first | rfl | exact nm_int (by omega)), trivial⟩ ⟨rfl, trivial⟩
         ·refine awp_skip (hK22 _ (awp_region rfl (o_mv (Nv s) rfl ?_)))
          refine n_add s 1 gn rfl rfl (by simp only [topOf]; omega) ?_
          refine o_as (Nv (s + 1)) rfl (aops_end ?_)
          refine ⟨_, _, ?lt, ⟨s + 1, p, (by omega), (by first | exact out_skip hp (fun e => absurd e hdn) | exact out_skip hp (fun _ => out_have hM hmy.1 hk100 hp hmem (by omega) (by assumption) (by assumption)) | exact out_ins hp rfl hmem (by omega) hv (.inl (by omega)) | exact out_ins hp rfl hmem (by omega) hv (.inr ⟨by omega, by assumption⟩) ), (by first | omega | (simp only [List.length_append, List.length_cons, List.length_nil, List.length_take, List.length_drop]; omega)), rfl, rfl⟩, ?wk⟩
          case lt => omega
          case wk => exact Wk.sub ⟨rfl, rfl, rfl, rfl, rfl, (by first | rfl | exact nm_int (by omega)), trivial⟩ ⟨rfl, trivial⟩
      ·refine o_skip rfl rfl (decide_eq_false h7) (o_skip rfl rfl (decide_eq_false h7) (o_skip rfl rfl (decide_eq_false h7) (o_skip rfl rfl (decide_eq_false h7) (o_skip rfl rfl (decide_eq_false h7) (o_skip rfl rfl (decide_eq_false h7) ?_)))))
       refine o_pickF Fv gn rfl (decide_eq_false h7) rfl ?_
       refine aops_end (hK34 _ ?_)
       refine awp_condB (b := false) rfl (fun hh => absurd (hh.symm.trans rfl) (by decide)) (fun _ => ?_)
       refine awp_exit ?_
       refine hK32 _ (awp_seq fun K36 hK36 => awp_region rfl (o_mv (Nv a) rfl (o_mv (.sl 1 (gcells cM p)) rfl ?_)))
       refine g_len cM p cM_len gn f134_ rfl ?_
       refine n_eql a (p.length) gn rfl rfl ?_
       refine o_mv (bp (a = (p.length))) rfl ?_
       refine o_splitP (q := a = (p.length)) 108 rfl (fun h11 => ?_) (fun h11 => ?_)
       ·refine o_skip rfl rfl (decide_eq_true h11) (o_skip rfl rfl (decide_eq_true h11) (o_skip rfl rfl (decide_eq_true h11) (o_skip rfl rfl (decide_eq_true h11) (o_skip rfl rfl (decide_eq_true h11) (o_skip rfl rfl (decide_eq_true h11) ?_)))))
        refine o_pickT Tv gn rfl (decide_eq_true h11) rfl ?_
        refine aops_end (hK36 _ ?_)
        refine awp_condB (b := true) rfl (fun _ => ?_) (fun hh => absurd (hh.symm.trans rfl) (by decide))
        refine awp_regionD rfl ?_
        refine o_buildSlice 501 (gcells cM ([])) [] gn f135_ rfl f138_ rfl rfl rfl rfl rfl rfl rfl ?_
        refine o_mv (.sl 1 (gcells cM p)) rfl (o_mv (Nv a) rfl ?_)
        refine g_slice cM p 0 a cM_len gn f135_ rfl rfl (hi_nm rfl) trivial (by omega) (by omega) ?_
        refine g_appendSl cM 502 ([]) ((p.drop 0).take (a - 0)) [(2, oM 24 m)] cM_len rfl gn f135_ f138_ rfl rfl rfl rfl (by simp only [List.length_append, List.length_cons, List.length_nil, List.length_take, List.length_drop]; omega) (by simp only [List.length_append, List.length_cons, List.length_nil, List.length_take, List.length_drop]; omega) rfl rfl ?_
        refine o_mv (.sl 2 (gcells cN (refLp m ((fixZ m (wordT m.mod.toNat (i + 1) s)).num) k))) rfl ?_
        refine o_buildSlice 503 (gcells cM ([refLp m ((fixZ m (wordT m.mod.toNat (i + 1) s)).num) k])) [(0, [.sl 2 (gcells cN (refLp m ((fixZ m (wordT m.mod.toNat (i + 1) s)).num) k))])] gn f135_ rfl f138_ rfl rfl rfl rfl rfl rfl rfl ?_
        refine g_append cM 504 ((p.drop 0).take (a - 0)) ([refLp m ((fixZ m (wordT m.mod.toNat (i + 1) s)).num) k]) [(503, .row 39 1 (gcells cM ([refLp m ((fixZ m (wordT m.mod.toNat (i + 1) s)).num) k]))), (2, oM 24 m)] cM_len rfl gn f135_ f138_ rfl rfl rfl rfl rfl (by simp only [List.length_append, List.length_cons, List.length_nil, List.length_take, List.length_drop]; omega) (by simp only [List.length_append, List.length_cons, List.length_nil, List.length_take, List.length_drop]; omega) rfl rfl ?_
        refine o_mv (.sl 1 (gcells cM p)) rfl (o_mv (Nv a) rfl ?_)
        refine g_slice cM p a (p.length) cM_len gn f135_ rfl (lo_nm rfl) rfl trivial (by omega) (by omega) ?_
        refine g_appendSl cM 505 (((p.drop 0).take (a - 0)) ++ ([refLp m ((fixZ m (wordT m.mod.toNat (i + 1) s)).num) k])) ((p.drop a).take (p.length - a)) [(503, .row 39 1 (gcells cM ([refLp m ((fixZ m (wordT m.mod.toNat (i + 1) s)).num) k]))), (2, oM 24 m)] cM_len rfl gn f135_ f138_ rfl rfl rfl rfl (by simp only [List.length_append, List.length_cons, List.length_nil, List.length_take, List.length_drop]; omega) (by simp only [List.length_append, List.length_cons, List.length_nil, List.length_take, List.length_drop]; omega) rfl rfl ?_
        refine o_as (.row 505) rfl ?_
        refine aops_end ⟨by kernel_rfl, ?_⟩
        refine hK22 _ ?_
        refine awp_wk (σ' := ⟨[(1, Iv k), (2, .ref 2 0), (5, .row 505), (6, .sl 6 (gcells cJ (lnP m (i + 1) (m.mod.toNat ^ (i + 1))))), (7, Nv i), (11, Nv s)], [(505, .row 39 1 (gcells cM ((((p.drop 0).take (a - 0)) ++ ([refLp m ((fixZ m (wordT m.mod.toNat (i + 1) s)).num) k])) ++ ((p.drop a).take (p.length - a))))), (2, oM 24 m)]⟩) (Wk.sub ⟨rfl, rfl, rfl, rfl, rfl, rfl, trivial⟩ ⟨rfl, rfl, trivial⟩) ?_
        refine awp_wk (σ' := ⟨[(1, Iv k), (2, .ref 2 0), (5, .sl 1 (gcells cM ((((p.drop 0).take (a - 0)) ++ ([refLp m ((fixZ m (wordT m.mod.toNat (i + 1) s)).num) k])) ++ ((p.drop a).take (p.length - a))))), (6, .sl 6 (gcells cJ (lnP m (i + 1) (m.mod.toNat ^ (i + 1))))), (7, Nv i), (11, Nv s)], [(2, oM 24 m)]⟩) (Wk.freeze (id := 505) (e := 39) (sz := 1) (cs := (gcells cM ((((p.drop 0).take (a - 0)) ++ ([refLp m ((fixZ m (wordT m.mod.toNat (i + 1) s)).num) k])) ++ ((p.drop a).take (p.length - a))))) rfl) ?_
        refine awp_region rfl (o_mv (Nv s) rfl ?_)
        refine n_add s 1 gn rfl rfl (by simp only [topOf]; omega) ?_
        refine o_as (Nv (s + 1)) rfl (aops_end ?_)
        refine ⟨_, _, ?lt, ⟨s + 1, (p.take a ++ [refLp m ((fixZ m (wordT m.mod.toNat (i + 1) s)).num) k]) ++ p.drop a, (by omega), (by first | exact out_skip hp (fun e => absurd e hdn) | exact out_skip hp (fun _ => out_have hM hmy.1 hk100 hp hmem (by omega) (by assumption) (by assumption)) | exact out_ins hp rfl hmem (by omega) hv (.inl (by omega)) | exact out_ins hp rfl hmem (by omega) hv (.inr ⟨by omega, by assumption⟩) ), (by first | omega | (simp only [List.length_append, List.length_cons, List.length_nil, List.length_take, List.length_drop]; omega)), rfl, rfl⟩, ?wk⟩
        case lt => omega
        case wk => exact Wk.sub ⟨rfl, rfl, (by first | rfl | (first | rfl | exact congrArg (fun l => AV.sl 1 (gcells cM l)) (ins_is _ _ _) | exact congrArg (fun l => AV.sl 6 (gcells cJ l)) (by rw [show t = m.mod.toNat ^ i by omega, Nat.pow_succ]))), rfl, rfl, (by first | rfl | exact nm_int (by omega)), trivial⟩ ⟨rfl, trivial⟩
       ·exact absurd (show a = p.length by omega) h11
    ·have hD : ¬ ((lineZ m (wordT m.mod.toNat (i + 1) s)).div - (lineZ m (wordT m.mod.toNat (i + 1) s)).mul) < 0 := fun e => h5 (sgn_lt0.2 e)
     obtain ⟨d1, d2⟩ := fix_nn hD b5
     refine awp_skip (hK25 _ (awp_seq fun K37 hK37 => awp_region rfl ?_))
     refine o_loadA [bp ((lineZ m (wordT m.mod.toNat (i + 1) s)).add < 0), .sl 1 (ns .i64 (digs ((lineZ m (wordT m.mod.toNat (i + 1) s)).add).natAbs))] gn f14_ rfl rfl rfl rfl rfl ?_
     refine o_loadA [bp (((lineZ m (wordT m.mod.toNat (i + 1) s)).div - (lineZ m (wordT m.mod.toNat (i + 1) s)).mul) < 0), .sl 1 (ns .i64 (digs ((lineZ m (wordT m.mod.toNat (i + 1) s)).div - (lineZ m (wordT m.mod.toNat (i + 1) s)).mul).natAbs))] gn f14_ rfl rfl rfl rfl rfl ?_
     refine o_ct (c_rDiv ((lineZ m (wordT m.mod.toNat (i + 1) s)).add) ((lineZ m (wordT m.mod.toNat (i + 1) s)).div - (lineZ m (wordT m.mod.toNat (i + 1) s)).mul) (by omega) (by omega) (by omega)) gn f132_ rfl ?_
     refine o_mv (.tup [intR ((lineZ m (wordT m.mod.toNat (i + 1) s)).add / ((lineZ m (wordT m.mod.toNat (i + 1) s)).div - (lineZ m (wordT m.mod.toNat (i + 1) s)).mul)), intR ((lineZ m (wordT m.mod.toNat (i + 1) s)).add % ((lineZ m (wordT m.mod.toNat (i + 1) s)).div - (lineZ m (wordT m.mod.toNat (i + 1) s)).mul))]) rfl (o_extract (intR ((lineZ m (wordT m.mod.toNat (i + 1) s)).add / ((lineZ m (wordT m.mod.toNat (i + 1) s)).div - (lineZ m (wordT m.mod.toNat (i + 1) s)).mul))) gn rfl rfl (o_extract (intR ((lineZ m (wordT m.mod.toNat (i + 1) s)).add % ((lineZ m (wordT m.mod.toNat (i + 1) s)).div - (lineZ m (wordT m.mod.toNat (i + 1) s)).mul))) gn rfl rfl ?_))
     refine o_alloc 403 [Fv, Zv] gn f9_ rfl rfl rfl ?_
     refine o_alloc 404 [Fv, Zv] gn f9_ rfl rfl rfl ?_
     refine o_store [(404, .var 42 [Fv, Zv]), (403, oZ 42 .i64 ((lineZ m (wordT m.mod.toNat (i + 1) s)).add / ((lineZ m (wordT m.mod.toNat (i + 1) s)).div - (lineZ m (wordT m.mod.toNat (i + 1) s)).mul))), (402, oZ 42 .i64 ((lineZ m (wordT m.mod.toNat (i + 1) s)).add)), (401, oZ 42 .i64 ((lineZ m (wordT m.mod.toNat (i + 1) s)).div - (lineZ m (wordT m.mod.toNat (i + 1) s)).mul)), (2, oM 24 m)] gn f13_ rfl rfl rfl rfl rfl rfl ?_
     refine o_store [(404, oZ 42 .i64 ((lineZ m (wordT m.mod.toNat (i + 1) s)).add % ((lineZ m (wordT m.mod.toNat (i + 1) s)).div - (lineZ m (wordT m.mod.toNat (i + 1) s)).mul))), (403, oZ 42 .i64 ((lineZ m (wordT m.mod.toNat (i + 1) s)).add / ((lineZ m (wordT m.mod.toNat (i + 1) s)).div - (lineZ m (wordT m.mod.toNat (i + 1) s)).mul))), (402, oZ 42 .i64 ((lineZ m (wordT m.mod.toNat (i + 1) s)).add)), (401, oZ 42 .i64 ((lineZ m (wordT m.mod.toNat (i + 1) s)).div - (lineZ m (wordT m.mod.toNat (i + 1) s)).mul)), (2, oM 24 m)] gn f13_ rfl rfl rfl rfl rfl rfl ?_
     refine aops_end (hK37 _ (awp_seq fun K38 hK38 => awp_seq fun K39 hK39 => awp_region rfl ?_))
     refine o_loadA [bp (((lineZ m (wordT m.mod.toNat (i + 1) s)).add % ((lineZ m (wordT m.mod.toNat (i + 1) s)).div - (lineZ m (wordT m.mod.toNat (i + 1) s)).mul)) < 0), .sl 1 (ns .i64 (digs ((lineZ m (wordT m.mod.toNat (i + 1) s)).add % ((lineZ m (wordT m.mod.toNat (i + 1) s)).div - (lineZ m (wordT m.mod.toNat (i + 1) s)).mul)).natAbs))] gn f14_ rfl rfl rfl rfl rfl ?_
     refine o_ct (c_rSign ((lineZ m (wordT m.mod.toNat (i + 1) s)).add % ((lineZ m (wordT m.mod.toNat (i + 1) s)).div - (lineZ m (wordT m.mod.toNat (i + 1) s)).mul))) gn f21_ rfl ?_
     refine o_neq (a := (sgn ((lineZ m (wordT m.mod.toNat (i + 1) s)).add % ((lineZ m (wordT m.mod.toNat (i + 1) s)).div - (lineZ m (wordT m.mod.toNat (i + 1) s)).mul)))) (c := ((0 : Nat) : Int)) gn rfl rfl ?_
     refine aops_end (hK39 _ ?_)
     refine awp_condQ (q := (sgn ((lineZ m (wordT m.mod.toNat (i + 1) s)).add % ((lineZ m (wordT m.mod.toNat (i + 1) s)).div - (lineZ m (wordT m.mod.toNat (i + 1) s)).mul))) ≠ ((0 : Nat) : Int)) rfl (fun h12 => ?_) (fun h12 => ?_)
     ·have hdn : ¬ (fixZ m (wordT m.mod.toNat (i + 1) s)).den = 1 := fun e => h12 (sgn_z0.2 (d1.1 e))
      refine awp_exit ?_
      refine hK22 _ (awp_region rfl (o_mv (Nv s) rfl ?_))
      refine n_add s 1 gn rfl rfl (by simp only [topOf]; omega) ?_
      refine o_as (Nv (s + 1)) rfl (aops_end ?_)
      refine ⟨_, _, ?lt, ⟨s + 1, p, (by omega), (by first | exact out_skip hp (fun e => absurd e hdn) | exact out_skip hp (fun _ => out_have hM hmy.1 hk100 hp hmem (by omega) (by assumption) (by assumption)) | exact out_ins hp rfl hmem (by omega) hv (.inl (by omega)) | exact out_ins hp rfl hmem (by omega) hv (.inr ⟨by omega, by assumption⟩) ), (by first | omega | (simp only [List.length_append, List.length_cons, List.length_nil, List.length_take, List.length_drop]; omega)), rfl, rfl⟩, ?wk⟩
      case lt => omega
      case wk => exact Wk.sub ⟨rfl, rfl, rfl, rfl, rfl, (by first | rfl | exact nm_int (by omega)), trivial⟩ ⟨rfl, trivial⟩
     ·have hden := d1.2 (sgn_z0.1 (Decidable.not_not.1 h12))
      have b20 := wordT_len m.mod.toNat (i + 1) s
      obtain ⟨_, c1, _⟩ := fix_int hM hmy.1 hW.1 hden
      rw [b20] at c1
      have hmem := refLp_mem hM hmy.1 (k := k) (K := k.toNat) (by omega) (by omega) (show 0 < i + 1 by omega) (show i + 1 ≤ k.toNat by omega) c1
      obtain ⟨_, c2⟩ := cyU_loo hM hmy.1 (by omega) hmem
      have c3 := c2.pos
      have c4 := fit_len c2.fit
      refine awp_skip (hK38 _ (awp_seq fun K40 hK40 => awp_region rfl ?_))
      refine o_loadA [Iv m.mod, Lv m.mul, Lv m.add] gn f63_ rfl rfl rfl rfl rfl ?_
      refine o_loadA [bp (((lineZ m (wordT m.mod.toNat (i + 1) s)).add / ((lineZ m (wordT m.mod.toNat (i + 1) s)).div - (lineZ m (wordT m.mod.toNat (i + 1) s)).mul)) < 0), .sl 1 (ns .i64 (digs ((lineZ m (wordT m.mod.toNat (i + 1) s)).add / ((lineZ m (wordT m.mod.toNat (i + 1) s)).div - (lineZ m (wordT m.mod.toNat (i + 1) s)).mul)).natAbs))] gn f14_ rfl rfl rfl rfl rfl ?_
      refine n_as (v' := (intR ((fixZ m (wordT m.mod.toNat (i + 1) s)).num))) (by exact congrArg intR (d2 hden).symm) ?_
      refine o_mv (Iv k) rfl ?_
      refine o_ct (c_zLoop m ((fixZ m (wordT m.mod.toNat (i + 1) s)).num) k hM (by omega) (by omega)) gn f133_ rfl ?_
      refine o_as (.sl 2 (gcells cN (refLp m ((fixZ m (wordT m.mod.toNat (i + 1) s)).num) k))) rfl (aops_end (hK40 _ (awp_seq fun K41 hK41 => awp_region rfl (o_as (Nv 0) rfl (aops_end (hK41 _ (awp_seq fun K42 hK42 => ?_)))))))
      refine awp_block ?_
      refine awp_loopR (fun κ σ => ∃ (a : Nat), (a ≤ p.length) ∧ (∀ j, j < a → ordL (p.getD j default) (refLp m ((fixZ m (wordT m.mod.toNat (i + 1) s)).num) k)) ∧ (p.length - a) = κ ∧ σ = ⟨[(1, Iv k), (2, .ref 2 0), (5, .sl 1 (gcells cM p)), (6, .sl 6 (gcells cJ (lnP m (i + 1) (m.mod.toNat ^ (i + 1))))), (7, Nv i), (11, Nv s), (16, .sl 2 (gcells cN (refLp m ((fixZ m (wordT m.mod.toNat (i + 1) s)).num) k))), (17, Nv a)], [(2, oM 24 m)]⟩) ⟨_, _, ⟨0, Nat.zero_le _, (fun j hj => by omega), rfl, rfl⟩, ?wk5⟩ ?rd5
      case wk5 =>
       exact Wk.sub ⟨rfl, rfl, rfl, rfl, rfl, rfl, (by first | rfl | (first | rfl | exact congrArg (fun l => AV.sl 1 (gcells cM l)) (ins_is _ _ _) | exact congrArg (fun l => AV.sl 6 (gcells cJ l)) (by rw [show t = m.mod.toNat ^ i by omega, Nat.pow_succ]))), (by first | rfl | exact nm_int (by omega)), trivial⟩ ⟨rfl, trivial⟩
      rintro κ _ ⟨a, ha, hv, rfl, rfl⟩
      refine awp_seq fun K43 hK43 => awp_seq fun K44 hK44 => awp_region rfl (o_mv (Nv a) rfl (o_mv (.sl 1 (gcells cM p)) rfl ?_))
      refine g_len cM p cM_len gn f134_ rfl ?_
      refine n_lss a (p.length) gn rfl rfl ?_
      refine o_mv (bp (a < (p.length))) rfl ?_
      refine o_splitP (q := a < (p.length)) 94 rfl (fun h13 => ?_) (fun h13 => ?_)
      ·have hpa := hp.2.1 _ (getD_memL h13)
       obtain ⟨_, c5⟩ := cyU_loo hM hmy.1 (by omega) hpa
       have c6 := c5.pos
       have c7 := fit_len c5.fit
       refine o_move (.sl 1 (gcells cM p)) (Gd.yes rfl rfl (decide_eq_true h13)) rfl (o_move (Nv a) (Gd.yes rfl rfl (decide_eq_true h13)) rfl ?_)
       refine g_index cM p a cM_len rfl (Gd.yes rfl rfl (decide_eq_true h13)) f135_ rfl rfl (by omega) ?_
       refine g_loadS cM p a default (.sl 2 (gcells cN (p.getD a default))) cM_len (Gd.yes rfl rfl (decide_eq_true h13)) f136_ rfl (by omega) rfl ?_
       refine o_move (.sl 2 (gcells cN (refLp m ((fixZ m (wordT m.mod.toNat (i + 1) s)).num) k))) (Gd.yes rfl rfl (decide_eq_true h13)) rfl ?_
       refine o_ct (c_zBefore (p.getD a default) (refLp m ((fixZ m (wordT m.mod.toNat (i + 1) s)).num) k) (by omega) (by omega) (by omega) (by omega)) (Gd.yes rfl rfl (decide_eq_true h13)) f137_ rfl ?_
       refine o_pickT (bp (ordL (p.getD a default) (refLp m ((fixZ m (wordT m.mod.toNat (i + 1) s)).num) k))) gn rfl (decide_eq_true h13) rfl ?_
       refine aops_end (hK44 _ ?_)
       refine awp_condQ (q := ordL (p.getD a default) (refLp m ((fixZ m (wordT m.mod.toNat (i + 1) s)).num) k)) rfl (fun h14 => ?_) (fun h14 => ?_)
       ·refine awp_skip (hK43 _ ?_)
        refine awp_block ?_
        refine awp_region rfl (o_mv (Nv a) rfl ?_)
        refine n_add a 1 gn rfl rfl (by simp only [topOf]; omega) ?_
        refine o_as (Nv (a + 1)) rfl (aops_end ?_)
        refine ⟨_, _, ?lt, ⟨a + 1, (by omega), (fun j hj => by by_cases e : j = a; subst e; assumption; exact hv j (by omega)), rfl, rfl⟩, ?wk⟩
        case lt => omega
        case wk => exact Wk.sub ⟨rfl, rfl, rfl, rfl, rfl, rfl, rfl, (by first | rfl | exact nm_int (by omega)), trivial⟩ ⟨rfl, trivial⟩
       ·refine awp_exit ?_
        refine hK42 _ (awp_seq fun K45 hK45 => awp_region rfl (o_mv (Nv a) rfl (o_mv (.sl 1 (gcells cM p)) rfl ?_)))
        refine g_len cM p cM_len gn f134_ rfl ?_
        refine n_eql a (p.length) gn rfl rfl ?_
        refine o_mv (bp (a = (p.length))) rfl ?_
        refine o_splitP (q := a = (p.length)) 108 rfl (fun h15 => ?_) (fun h15 => ?_)
        ·refine o_skip rfl rfl (decide_eq_true h15) (o_skip rfl rfl (decide_eq_true h15) (o_skip rfl rfl (decide_eq_true h15) (o_skip rfl rfl (decide_eq_true h15) (o_skip rfl rfl (decide_eq_true h15) (o_skip rfl rfl (decide_eq_true h15) ?_)))))
         refine o_pickT Tv gn rfl (decide_eq_true h15) rfl ?_
         refine aops_end (hK45 _ ?_)
         refine awp_condB (b := true) rfl (fun _ => ?_) (fun hh => absurd (hh.symm.trans rfl) (by decide))
         refine awp_regionD rfl ?_
         refine o_buildSlice 601 (gcells cM ([])) [] gn f135_ rfl f138_ rfl rfl rfl rfl rfl rfl rfl ?_
         refine o_mv (.sl 1 (gcells cM p)) rfl (o_mv (Nv a) rfl ?_)
         refine g_slice cM p 0 a cM_len gn f135_ rfl rfl (hi_nm rfl) trivial (by omega) (by omega) ?_
         refine g_appendSl cM 602 ([]) ((p.drop 0).take (a - 0)) [(2, oM 24 m)] cM_len rfl gn f135_ f138_ rfl rfl rfl rfl (by simp only [List.length_append, List.length_cons, List.length_nil, List.length_take, List.length_drop]; omega) (by simp only [List.length_append, List.length_cons, List.length_nil, List.length_take, List.length_drop]; omega) rfl rfl ?_
         refine o_mv (.sl 2 (gcells cN (refLp m ((fixZ m (wordT m.mod.toNat (i + 1) s)).num) k))) rfl ?_
         refine o_buildSlice 603 (gcells cM ([refLp m ((fixZ m (wordT m.mod.toNat (i + 1) s)).num) k])) [(0, [.sl 2 (gcells cN (refLp m ((fixZ m (wordT m.mod.toNat (i + 1) s)).num) k))])] gn f135_ rfl f138_ rfl rfl rfl rfl rfl rfl rfl ?_
         refine g_append cM 604 ((p.drop 0).take (a - 0)) ([refLp m ((fixZ m (wordT m.mod.toNat (i + 1) s)).num) k]) [(603, .row 39 1 (gcells cM ([refLp m ((fixZ m (wordT m.mod.toNat (i + 1) s)).num) k]))), (2, oM 24 m)] cM_len rfl gn f135_ f138_ rfl rfl rfl rfl rfl (by simp only [List.length_append, List.length_cons, List.length_nil, List.length_take, List.length_drop]; omega) (by simp only [List.length_append, List.length_cons, List.length_nil, List.length_take, List.length_drop]; omega) rfl rfl ?_
         refine o_mv (.sl 1 (gcells cM p)) rfl (o_mv (Nv a) rfl ?_)
         refine g_slice cM p a (p.length) cM_len gn f135_ rfl (lo_nm rfl) rfl trivial (by omega) (by omega) ?_
         refine g_appendSl cM 605 (((p.drop 0).take (a - 0)) ++ ([refLp m ((fixZ m (wordT m.mod.toNat (i + 1) s)).num) k])) ((p.drop a).take (p.length - a)) [(603, .row 39 1 (gcells cM ([refLp m ((fixZ m (wordT m.mod.toNat (i + 1) s)).num) k]))), (2, oM 24 m)] cM_len rfl gn f135_ f138_ rfl rfl rfl rfl (by simp only [List.length_append, List.length_cons, List.length_nil, List.length_take, List.length_drop]; omega) (by simp only [List.length_append, List.length_cons, List.length_nil, List.length_take, List.length_drop]; omega) rfl rfl ?_
         refine o_as (.row 605) rfl ?_
         refine aops_end ⟨by kernel_rfl, ?_⟩
         refine hK22 _ ?_
         refine awp_wk (σ' := ⟨[(1, Iv k), (2, .ref 2 0), (5, .row 605), (6, .sl 6 (gcells cJ (lnP m (i + 1) (m.mod.toNat ^ (i + 1))))), (7, Nv i), (11, Nv s)], [(605, .row 39 1 (gcells cM ((((p.drop 0).take (a - 0)) ++ ([refLp m ((fixZ m (wordT m.mod.toNat (i + 1) s)).num) k])) ++ ((p.drop a).take (p.length - a))))), (2, oM 24 m)]⟩) (Wk.sub ⟨rfl, rfl, rfl, rfl, rfl, rfl, trivial⟩ ⟨rfl, rfl, trivial⟩) ?_
         refine awp_wk (σ' := ⟨[(1, Iv k), (2, .ref 2 0), (5, .sl 1 (gcells cM ((((p.drop 0).take (a - 0)) ++ ([refLp m ((fixZ m (wordT m.mod.toNat (i + 1) s)).num) k])) ++ ((p.drop a).take (p.length - a))))), (6, .sl 6 (gcells cJ (lnP m (i + 1) (m.mod.toNat ^ (i + 1))))), (7, Nv i), (11, Nv s)], [(2, oM 24 m)]⟩) (Wk.freeze (id := 605) (e := 39) (sz := 1) (cs := (gcells cM ((((p.drop 0).take (a - 0)) ++ ([refLp m ((fixZ m (wordT m.mod.toNat (i + 1) s)).num) k])) ++ ((p.drop a).take (p.length - a))))) rfl) ?_
         refine awp_region rfl (o_mv (Nv s) rfl ?_)
         refine n_add s 1 gn rfl rfl (by simp only [topOf]; omega) ?_
         refine o_as (Nv (s + 1)) rfl (aops_end ?_)
         refine ⟨_, _, ?lt, ⟨s + 1, (p.take a ++ [refLp m ((fixZ m (wordT m.mod.toNat (i + 1) s)).num) k]) ++ p.drop a, (by omega), (by first | exact out_skip hp (fun e => absurd e hdn) | exact out_skip hp (fun _ => out_have hM hmy.1 hk100 hp hmem (by omega) (by assumption) (by assumption)) | exact out_ins hp rfl hmem (by omega) hv (.inl (by omega)) | exact out_ins hp rfl hmem (by omega) hv (.inr ⟨by omega, by assumption⟩) ), (by first | omega | (simp only [List.length_append, List.length_cons, List.length_nil, List.length_take, List.length_drop]; omega)), rfl, rfl⟩, ?wk⟩
         case lt => omega
         case wk => exact Wk.sub ⟨rfl, rfl, (by first | rfl | (first | rfl | exact congrArg (fun l => AV.sl 1 (gcells cM l)) (ins_is _ _ _) | exact congrArg (fun l => AV.sl 6 (gcells cJ l)) (by rw [show t = m.mod.toNat ^ i by omega, Nat.pow_succ]))), rfl, rfl, (by first | rfl | exact nm_int (by omega)), trivial⟩ ⟨rfl, trivial⟩
        ·have hpa := hp.2.1 _ (getD_memL (show a < p.length by omega))
         obtain ⟨_, c5⟩ := cyU_loo hM hmy.1 (by omega) hpa
         have c6 := c5.pos
         have c7 := fit_len c5.fit
         refine o_move (.sl 2 (gcells cN (refLp m ((fixZ m (wordT m.mod.toNat (i + 1) s)).num) k))) (Gd.yes rfl rfl (decide_eq_false h15)) rfl (o_move (.sl 1 (gcells cM p)) (Gd.yes rfl rfl (decide_eq_false h15)) rfl (o_move (Nv a) (Gd.yes rfl rfl (decide_eq_false h15)) rfl ?_))
         refine g_index cM p a cM_len rfl (Gd.yes rfl rfl (decide_eq_false h15)) f135_ rfl rfl (by omega) ?_
         refine g_loadS cM p a default (.sl 2 (gcells cN (p.getD a default))) cM_len (Gd.yes rfl rfl (decide_eq_false h15)) f136_ rfl (by omega) rfl ?_
         refine o_ct (c_zBefore (refLp m ((fixZ m (wordT m.mod.toNat (i + 1) s)).num) k) (p.getD a default) (by omega) (by omega) (by omega) (by omega)) (Gd.yes rfl rfl (decide_eq_false h15)) f137_ rfl ?_
         refine o_pickF (bp (ordL (refLp m ((fixZ m (wordT m.mod.toNat (i + 1) s)).num) k) (p.getD a default))) gn rfl (decide_eq_false h15) rfl ?_
         refine aops_end (hK45 _ ?_)
         refine awp_condQ (q := ordL (refLp m ((fixZ m (wordT m.mod.toNat (i + 1) s)).num) k) (p.getD a default)) rfl (fun h16 => ?_) (fun h16 => ?_)
         ·refine awp_regionD rfl ?_
          refine o_buildSlice 601 (gcells cM ([])) [] gn f135_ rfl f138_ rfl rfl rfl rfl rfl rfl rfl ?_
          refine o_mv (.sl 1 (gcells cM p)) rfl (o_mv (Nv a) rfl ?_)
          refine g_slice cM p 0 a cM_len gn f135_ rfl rfl (hi_nm rfl) trivial (by omega) (by omega) ?_
          refine g_appendSl cM 602 ([]) ((p.drop 0).take (a - 0)) [(2, oM 24 m)] cM_len rfl gn f135_ f138_ rfl rfl rfl rfl (by simp only [List.length_append, List.length_cons, List.length_nil, List.length_take, List.length_drop]; omega) (by simp only [List.length_append, List.length_cons, List.length_nil, List.length_take, List.length_drop]; omega) rfl rfl ?_
          refine o_mv (.sl 2 (gcells cN (refLp m ((fixZ m (wordT m.mod.toNat (i + 1) s)).num) k))) rfl ?_
          refine o_buildSlice 603 (gcells cM ([refLp m ((fixZ m (wordT m.mod.toNat (i + 1) s)).num) k])) [(0, [.sl 2 (gcells cN (refLp m ((fixZ m (wordT m.mod.toNat (i + 1) s)).num) k))])] gn f135_ rfl f138_ rfl rfl rfl rfl rfl rfl rfl ?_
          refine g_append cM 604 ((p.drop 0).take (a - 0)) ([refLp m ((fixZ m (wordT m.mod.toNat (i + 1) s)).num) k]) [(603, .row 39 1 (gcells cM ([refLp m ((fixZ m (wordT m.mod.toNat (i + 1) s)).num) k]))), (2, oM 24 m)] cM_len rfl gn f135_ f138_ rfl rfl rfl rfl rfl (by simp only [List.length_append, List.length_cons, List.length_nil, List.length_take, List.length_drop]; omega) (by simp only [List.length_append, List.length_cons, List.length_nil, List.length_take, List.length_drop]; omega) rfl rfl ?_
          refine o_mv (.sl 1 (gcells cM p)) rfl (o_mv (Nv a) rfl ?_)
          refine g_slice cM p a (p.length) cM_len gn f135_ rfl (lo_nm rfl) rfl trivial (by omega) (by omega) ?_
          refine g_appendSl cM 605 (((p.drop 0).take (a - 0)) ++ ([refLp m ((fixZ m (wordT m.mod.toNat (i + 1) s)).num) k])) ((p.drop a).take (p.length - a)) [(603, .row 39 1 (gcells cM ([refLp m ((fixZ m (wordT m.mod.toNat (i + 1) s)).num) k]))), (2, oM 24 m)] cM_len rfl gn f135_ f138_ rfl rfl rfl rfl (by simp only [List.length_append, List.length_cons, List.length_nil, List.length_take, List.length_drop]; omega) (by simp only [List.length_append, List.length_cons, List.length_nil, List.length_take, List.length_drop]; omega) rfl rfl ?_
          refine o_as (.row 605) rfl ?_
          refine aops_end ⟨by kernel_rfl, ?_⟩
          refine hK22 _ ?_
          refine awp_wk (σ' := ⟨[(1, Iv k), (2, .ref 2 0), (5, .row 605), (6, .sl 6 (gcells cJ (lnP m (i + 1) (m.mod.toNat ^ (i + 1))))), (7, Nv i), (11, Nv s)], [(605, .row 39 1 (gcells cM ((((p.drop 0).take (a - 0)) ++ ([refLp m ((fixZ m (wordT m.mod.toNat (i + 1) s)).num) k])) ++ ((p.drop a).take (p.length - a))))), (2, oM 24 m)]⟩) (Wk.sub ⟨rfl, rfl, rfl, rfl, rfl, rfl, trivial⟩ ⟨rfl, rfl, trivial⟩) ?_
          refine awp_wk (σ' := ⟨[(1, Iv k), (2, .ref 2 0), (5, .sl 1 (gcells cM ((((p.drop 0).take (a - 0)) ++ ([refLp m ((fixZ m (wordT m.mod.toNat (i + 1) s)).num) k])) ++ ((p.drop a).take (p.length - a))))), (6, .sl 6 (gcells cJ (lnP m (i + 1) (m.mod.toNat ^ (i + 1))))), (7, Nv i), (11, Nv s)], [(2, oM 24 m)]⟩) (Wk.freeze (id := 605) (e := 39) (sz := 1) (cs := (gcells cM ((((p.drop 0).take (a - 0)) ++ ([refLp m ((fixZ m (wordT m.mod.toNat (i + 1) s)).num) k])) ++ ((p.drop a).take (p.length - a))))) rfl) ?_
          refine awp_region rfl (o_mv (Nv s) rfl ?_)
          refine n_add s 1 gn rfl rfl (by simp only [topOf]; omega) ?_
          refine o_as (Nv (s + 1)) rfl (aops_end ?_)
          refine ⟨_, _, ?lt, ⟨s + 1, (p.take a ++ [refLp m ((fixZ m (wordT m.mod.toNat (i + 1) s)).num) k]) ++ p.drop a, (by omega), (by first | exact out_skip hp (fun e => absurd e hdn) | exact out_skip hp (fun _ => out_have hM hmy.1 hk100 hp hmem (by omega) (by assumption) (by assumption)) | exact out_ins hp rfl hmem (by omega) hv (.inl (by omega)) | exact out_ins hp rfl hmem (by omega) hv (.inr ⟨by omega, by assumption⟩) ), (by first | omega | (simp only [List.length_append, List.length_cons, List.length_nil, List.length_take, List.length_drop]; omega)), rfl, rfl⟩, ?wk⟩
          case lt => omega
          case wk => exact Wk.sub ⟨rfl, rfl, (by first | rfl | (first | rfl | exact congrArg (fun l => AV.sl 1 (gcells cM l)) (ins_is _ _ _) | exact congrArg (fun l => AV.sl 6 (gcells cJ l)) (by rw [show t = m.mod.toNat ^ i by omega, Nat.pow_succ]))), rfl, rfl, (by first | rfl | exact nm_int (by omega)), trivial⟩ ⟨rfl, trivial⟩
         ·refine awp_skip (hK22 _ (awp_region rfl (o_mv (Nv s) rfl ?_)))
          refine n_add s 1 gn rfl rfl (by simp only [topOf]; omega) ?_
          refine o_as (Nv (s + 1)) rfl (aops_end ?_)
          refine ⟨_, _, ?lt, ⟨s + 1, p, (by omega), (by first | exact out_skip hp (fun e => absurd e hdn) | exact out_skip hp (fun _ => out_have hM hmy.1 hk100 hp hmem (by omega) (by assumption) (by assumption)) | exact out_ins hp rfl hmem (by omega) hv (.inl (by omega)) | exact out_ins hp rfl hmem (by omega) hv (.inr ⟨by omega, by assumption⟩) ), (by first | omega | (simp only [List.length_append, List.length_cons, List.length_nil, List.length_take, List.length_drop]; omega)), rfl, rfl⟩, ?wk⟩
          case lt => omega
          case wk => exact Wk.sub ⟨rfl, rfl, rfl, rfl, rfl, (by first | rfl | exact nm_int (by omega)), trivial⟩ ⟨rfl, trivial⟩
      ·refine o_skip rfl rfl (decide_eq_false h13) (o_skip rfl rfl (decide_eq_false h13) (o_skip rfl rfl (decide_eq_false h13) (o_skip rfl rfl (decide_eq_false h13) (o_skip rfl rfl (decide_eq_false h13) (o_skip rfl rfl (decide_eq_false h13) ?_)))))
       refine o_pickF Fv gn rfl (decide_eq_false h13) rfl ?_
       refine aops_end (hK44 _ ?_)
       refine awp_condB (b := false) rfl (fun hh => absurd (hh.symm.trans rfl) (by decide)) (fun _ => ?_)
       refine awp_exit ?_
       refine hK42 _ (awp_seq fun K46 hK46 => awp_region rfl (o_mv (Nv a) rfl (o_mv (.sl 1 (gcells cM p)) rfl ?_)))
       refine g_len cM p cM_len gn f134_ rfl ?_
       refine n_eql a (p.length) gn rfl rfl ?_
       refine o_mv (bp (a = (p.length))) rfl ?_
       refine o_splitP (q := a = (p.length)) 108 rfl (fun h17 => ?_) (fun h17 => ?_)
       ·refine o_skip rfl rfl (decide_eq_true h17) (o_skip rfl rfl (decide_eq_true h17) (o_skip rfl rfl (decide_eq_true h17) (o_skip rfl rfl (decide_eq_true h17) (o_skip rfl rfl (decide_eq_true h17) (o_skip rfl rfl (decide_eq_true h17) ?_)))))
        refine o_pickT Tv gn rfl (decide_eq_true h17) rfl ?_
        refine aops_end (hK46 _ ?_)
        refine awp_condB (b := true) rfl (fun _ => ?_) (fun hh => absurd (hh.symm.trans rfl) (by decide))
        refine awp_regionD rfl ?_
        refine o_buildSlice 601 (gcells cM ([])) [] gn f135_ rfl f138_ rfl rfl rfl rfl rfl rfl rfl ?_
        refine o_mv (.sl 1 (gcells cM p)) rfl (o_mv (Nv a) rfl ?_)
        refine g_slice cM p 0 a cM_len gn f135_ rfl rfl (hi_nm rfl) trivial (by omega) (by omega) ?_
        refine g_appendSl cM 602 ([]) ((p.drop 0).take (a - 0)) [(2, oM 24 m)] cM_len rfl gn f135_ f138_ rfl rfl rfl rfl (by simp only [List.length_append, List.length_cons, List.length_nil, List.length_take, List.length_drop]; omega) (by simp only [List.length_append, List.length_cons, List.length_nil, List.length_take, List.length_drop]; omega) rfl rfl ?_
        refine o_mv (.sl 2 (gcells cN (refLp m ((fixZ m (wordT m.mod.toNat (i + 1) s)).num) k))) rfl ?_
        refine o_buildSlice 603 (gcells cM ([refLp m ((fixZ m (wordT m.mod.toNat (i + 1) s)).num) k])) [(0, [.sl 2 (gcells cN (refLp m ((fixZ m (wordT m.mod.toNat (i + 1) s)).num) k))])] gn f135_ rfl f138_ rfl rfl rfl rfl rfl rfl rfl ?_
        refine g_append cM 604 ((p.drop 0).take (a - 0)) ([refLp m ((fixZ m (wordT m.mod.toNat (i + 1) s)).num) k]) [(603, .row 39 1 (gcells cM ([refLp m ((fixZ m (wordT m.mod.toNat (i + 1) s)).num) k]))), (2, oM 24 m)] cM_len rfl gn f135_ f138_ rfl rfl rfl rfl rfl (by simp only [List.length_append, List.length_cons, List.length_nil, List.length_take, List.length_drop]; omega) (by simp only [List.length_append, List.length_cons, List.length_nil, List.length_take, List.length_drop]; omega) rfl rfl ?_
        refine o_mv (.sl 1 (gcells cM p)) rfl (o_mv (Nv a) rfl ?_)
        refine g_slice cM p a (p.length) cM_len gn f135_ rfl (lo_nm rfl) rfl trivial (by omega) (by omega) ?_
        refine g_appendSl cM 605 (((p.drop 0).take (a - 0)) ++ ([refLp m ((fixZ m (wordT m.mod.toNat (i + 1) s)).num) k])) ((p.drop a).take (p.length - a)) [(603, .row 39 1 (gcells cM ([refLp m ((fixZ m (wordT m.mod.toNat (i + 1) s)).num) k]))), (2, oM 24 m)] cM_len rfl gn f135_ f138_ rfl rfl rfl rfl (by simp only [List.length_append, List.length_cons, List.length_nil, List.length_take, List.length_drop]; omega) (by simp only [List.length_append, List.length_cons, List.length_nil, List.length_take, List.length_drop]; omega) rfl rfl ?_
        refine o_as (.row 605) rfl ?_
        refine aops_end ⟨by kernel_rfl, ?_⟩
        refine hK22 _ ?_
        refine awp_wk (σ' := ⟨[(1, Iv k), (2, .ref 2 0), (5, .row 605), (6, .sl 6 (gcells cJ (lnP m (i + 1) (m.mod.toNat ^ (i + 1))))), (7, Nv i), (11, Nv s)], [(605, .row 39 1 (gcells cM ((((p.drop 0).take (a - 0)) ++ ([refLp m ((fixZ m (wordT m.mod.toNat (i + 1) s)).num) k])) ++ ((p.drop a).take (p.length - a))))), (2, oM 24 m)]⟩) (Wk.sub ⟨rfl, rfl, rfl, rfl, rfl, rfl, trivial⟩ ⟨rfl, rfl, trivial⟩) ?_
        refine awp_wk (σ' := ⟨[(1, Iv k), (2, .ref 2 0), (5, .sl 1 (gcells cM ((((p.drop 0).take (a - 0)) ++ ([refLp m ((fixZ m (wordT m.mod.toNat (i + 1) s)).num) k])) ++ ((p.drop a).take (p.length - a))))), (6, .sl 6 (gcells cJ (lnP m (i + 1) (m.mod.toNat ^ (i + 1))))), (7, Nv i), (11, Nv s)], [(2, oM 24 m)]⟩) (Wk.freeze (id := 605) (e := 39) (sz := 1) (cs := (gcells cM ((((p.drop 0).take (a - 0)) ++ ([refLp m ((fixZ m (wordT m.mod.toNat (i + 1) s)).num) k])) ++ ((p.drop a).take (p.length - a))))) rfl) ?_
        refine awp_region rfl (o_mv (Nv s) rfl ?_)
        refine n_add s 1 gn rfl rfl (by simp only [topOf]; omega) ?_
        refine o_as (Nv (s + 1)) rfl (aops_end ?_)
        refine ⟨_, _, ?lt, ⟨s + 1, (p.take a ++ [refLp m ((fixZ m (wordT m.mod.toNat (i + 1) s)).num) k]) ++ p.drop a, (by omega), (by first | exact out_skip hp (fun e => absurd e hdn) | exact out_skip hp (fun _ => out_have hM hmy.1 hk100 hp hmem (by omega) (by assumption) (by assumption)) | exact out_ins hp rfl hmem (by omega) hv (.inl (by omega)) | exact out_ins hp rfl hmem (by omega) hv (.inr ⟨by omega, by assumption⟩) ), (by first | omega | (simp only [List.length_append, List.length_cons, List.length_nil, List.length_take, List.length_drop]; omega)), rfl, rfl⟩, ?wk⟩
        case lt => omega
        case wk => exact Wk.sub ⟨rfl, rfl, (by first | rfl | (first | rfl | exact congrArg (fun l => AV.sl 1 (gcells cM l)) (ins_is _ _ _) | exact congrArg (fun l => AV.sl 6 (gcells cJ l)) (by rw [show t = m.mod.toNat ^ i by omega, Nat.pow_succ]))), rfl, rfl, (by first | rfl | exact nm_int (by omega)), trivial⟩ ⟨rfl, trivial⟩
       ·exact absurd (show a = p.length by omega) h17
   ·refine awp_exit ?_
    refine hK7 _ (awp_region rfl (o_mv (Nv i) rfl ?_))
    refine n_add i 1 gn rfl rfl (by simp only [topOf]; omega) ?_
    refine o_as (Nv (i + 1)) rfl (aops_end ?_)
    refine ⟨_, _, ?lt, ⟨i + 1, p, (by omega), (out_row hp (by omega)), (by omega), rfl, rfl⟩, ?wk⟩
    case lt => omega
    case wk => exact Wk.sub ⟨rfl, rfl, (by first | rfl | (first | rfl | exact congrArg (fun l => AV.sl 1 (gcells cM l)) (ins_is _ _ _) | exact congrArg (fun l => AV.sl 6 (gcells cJ l)) (by rw [show t = m.mod.toNat ^ i by omega, Nat.pow_succ]))), (by first | rfl | (first | rfl | exact congrArg (fun l => AV.sl 1 (gcells cM l)) (ins_is _ _ _) | exact congrArg (fun l => AV.sl 6 (gcells cJ l)) (by rw [show t = m.mod.toNat ^ i by omega, Nat.pow_succ]))), (by first | rfl | exact nm_int (by omega)), trivial⟩ ⟨rfl, trivial⟩
 ·refine awp_exit ?_
  refine hK3 _ (awp_seq fun K47 hK47 => awp_region rfl (o_mv (.sl 1 (gcells cM o)) rfl (o_as (.sl 1 (gcells cM o)) rfl (aops_end (hK47 _ ?_)))))
  refine awp_ret ?_
  refine post_ret ⟨[.sl 1 (gcells cM o)], ⟨AV.le_refl _, trivial⟩, rfl, ?_⟩
  have hik : k.toNat = i := by omega
  exact gs_as (out_end hM hmy.1 (by omega) hk100 (by rw [hik]; exact ho)).symm

end Go.Proofs.YtdmkejloknejdaaGreatDoor

namespace Go.Proofs.YtdmkejloknejdaaGreatDoor
open Go Go.Ab Go.Mth
theorem c_words (m : MapM) (n : Nat) : ECallsW cx 47 [mapV m, nm .i64 n] 88 3 [nm .i64 n] 24 [Iv m.mod, Lv m.mul, Lv m.add] := by
 refine ecallsW_of_awp Tryz.func47 (c := _) rfl (Nat.le_of_ble_eq_true rfl) rfl rfl ?_
 show awp cx 6 _ (postW cx Tryz.f47 _ _ _ _ _) ⟨[(0, mapV m), (1, nm .i64 n)], []⟩
 refine awp_seq fun K0 hK0 => awp_region rfl ?_
 refine o_box 2 [Iv m.mod, Lv m.mul, Lv m.add] gn rfl rfl ?_
 refine o_box 3 [Nv n] gn rfl rfl ?_
 refine o_as (.lit .nilFunc) rfl (aops_end (hK0 _ (awp_seq fun K1 hK1 => awp_region rfl ?_)))
 refine o_makeFunc [.ref 3 0, .ref 2 0] gn rfl ?_
 refine o_as (.clo 88 [.ref 3 0, .ref 2 0]) rfl (aops_end (hK1 _ ?_))
 refine awp_ret ?_
 exact ⟨4, 3, 2, rfl, by decide, rfl, rfl, rfl⟩

theorem c_lessE (a b : List Int) (ha : 0 < a.length) (hb : 0 < b.length) : ECalls cx 54 [.sl 2 (gcells cW a), .sl 2 (gcells cW b)] (.lit (.int .i64 (cmpZ (hdL a) (hdL b)))) := by
 refine ecalls_of_awp Tryz.func54 (c := _) rfl (Nat.le_of_ble_eq_true rfl) ?_
 show awp cx 12 _ (postF cx Tryz.f54 _) ⟨[(0, .sl 2 (gcells cW a)), (1, .sl 2 (gcells cW b))], []⟩
 refine awp_seq fun K0 hK0 => awp_region rfl (o_as (Nv 0) rfl (aops_end (hK0 _ (awp_seq fun K1 hK1 => awp_regionD rfl (o_mv (.sl 2 (gcells cW a)) rfl ?_)))))
 refine g_index cW a 0 cW_len rfl gn f119_ rfl rfl (by omega) ?_
 refine g_loadA cW a 0 default cW_len gn f20_ rfl (by omega) ?_
 refine o_mv (.sl 2 (gcells cW b)) rfl ?_
 refine g_index cW b 0 cW_len rfl gn f119_ rfl rfl (by omega) ?_
 refine g_loadA cW b 0 default cW_len gn f20_ rfl (by omega) ?_
 refine o_ct (c_wCmp (a.getD 0 default) (b.getD 0 default)) gn f123_ rfl ?_
 refine o_as (Iv (cmpZ (a.getD 0 default) (b.getD 0 default))) rfl ?_
 refine aops_end ⟨by kernel_rfl, ?_⟩
 refine hK1 _ ?_
 refine awp_ret ?_
 refine post_ret ⟨[Iv (cmpZ (a.getD 0 default) (b.getD 0 default))], ⟨AV.le_refl _, trivial⟩, rfl, ?_⟩
 rfl

theorem c_less : LessOk 54 := fun a b ha hb => c_lessE a b (List.length_pos_iff.2 ha) (List.length_pos_iff.2 hb)
end Go.Proofs.YtdmkejloknejdaaGreatDoor

