/- The law 'katabasistop.TopLong' is true for every pair of numbers, string and number: the numbers of its odd and of all its members fit the least number of a positive cycle and every number below, whatever kin of Collatz's map. Its condition: none. -/
import Derived.Test.YtaeknciienkijaaPkTopLongd
set_option linter.unusedVariables false
set_option linter.unusedSimpArgs false
namespace Go.Proofs.Ytaeknciienkijaa
open Go Go.Ab Go.Mth
theorem f107_ : cx.P.underlying 50 = some (.slice 9) := by kernel_rfl
theorem f108_ : tyElem cx.P 50 = some (9, 1, 16) := by kernel_rfl
theorem f109_ : tySc cx.P 9 = true := by kernel_rfl
theorem f110_ : callable cx.P 17 = true := by kernel_rfl
theorem f111_ : callable cx.P 21 = true := by kernel_rfl
theorem f112_ : callable cx.P 42 = true := by kernel_rfl
theorem f113_ : callable cx.P 18 = true := by kernel_rfl
theorem f114_ : callable cx.P 19 = true := by kernel_rfl
theorem c_tWrapped (i : Int) (n : Nat) (hi : -9223372036854775808 ≤ i) (hi2 : i ≤ 9223372036854775807) (hn : 0 < n) (hn2 : n ≤ 100000000) : ECalls cx 11 [Iv i, Nv n] (.lit (.int .i64 (i % (n : Int)))) := by
 refine ecalls_of_awp Try.func11 (c := _) rfl (Nat.le_of_ble_eq_true rfl) ?_
 show awp cx 12 _ (postF cx Try.f11 _) ⟨[(0, Iv i), (1, Nv n)], []⟩
 have hw := wrap_bd i hn
 refine awp_seq fun K0 hK0 => awp_region rfl (o_as (Nv 0) rfl (aops_end (hK0 _ (awp_seq fun K1 hK1 => awp_region rfl (o_mv (Iv i) rfl (o_mv (Nv n) rfl ?_))))))
 refine o_remT (a := i) (c := ((n : Nat) : Int)) gn rfl rfl (by omega) ?_
 refine o_mv (Nv n) rfl ?_
 refine o_add (a := (Int.tmod i ((n : Nat) : Int))) (c := ((n : Nat) : Int)) gn rfl rfl (by exact wrap64 (by omega) (by omega)) ?_
 refine o_mv (Nv n) rfl ?_
 refine o_remT (a := ((Int.tmod i ((n : Nat) : Int)) + ((n : Nat) : Int))) (c := ((n : Nat) : Int)) gn rfl rfl (by omega) ?_
 refine o_as (Iv (Int.tmod ((Int.tmod i ((n : Nat) : Int)) + ((n : Nat) : Int)) ((n : Nat) : Int))) rfl (aops_end (hK1 _ ?_))
 refine awp_ret ?_
 refine post_ret ⟨[(Iv (Int.tmod ((Int.tmod i ((n : Nat) : Int)) + ((n : Nat) : Int)) ((n : Nat) : Int)))], ⟨AV.le_refl _, trivial⟩, rfl, ?_⟩
 exact congrArg (fun z => AV.lit (.int .i64 z)) (wrap_eq i hn).symm

theorem c_tShort (l : List ByteArray) (hl : l.length ≤ 17592186044416) (hs : ∀ a ∈ l, a.size ≤ 9223372036854775807) : ECalls cx 5 [.sl 1 (sbs l)] (bp (ShortS l)) := by
 refine ecalls_of_awp Try.func5 (c := _) rfl (Nat.le_of_ble_eq_true rfl) ?_
 show awp cx 24 _ (postF cx Try.f5 _) ⟨[(0, .sl 1 (sbs l))], []⟩
 refine awp_seq fun K0 hK0 => awp_region rfl (o_as Fv rfl (aops_end (hK0 _ (awp_seq fun K1 hK1 => awp_seq fun K2 hK2 => awp_region rfl (o_as (Nv 0) rfl (aops_end (hK2 _ ?_)))))))
 refine awp_block ?_
 refine awp_loopR (fun κ σ => ∃ (i : Nat), (i ≤ l.length) ∧ (∀ k, k < i → shortB (l.getD k { data := #[] }) = true) ∧ (l.length - i) = κ ∧ σ = ⟨[(0, .sl 1 (sbs l)), (3, Nv i)], []⟩) ⟨_, _, ⟨0, (by omega), (fun k hk => by omega), rfl, rfl⟩, ?wk0⟩ ?rd0
 case wk0 =>
  exact Wk.sub ⟨rfl, (by first | rfl | exact nm_int (by omega)), trivial⟩ trivial
 rintro κ _ ⟨i, hi, hf, rfl, rfl⟩
 refine awp_seq fun K3 hK3 => awp_seq fun K4 hK4 => awp_region rfl (o_mv (Nv i) rfl (o_mv (.sl 1 (sbs l)) rfl ?_))
 refine s_len l gn f107_ rfl ?_
 refine n_lss i (l.length) gn rfl rfl ?_
 refine aops_end (hK4 _ ?_)
 refine awp_condQ (q := i < (l.length)) rfl (fun h1 => ?_) (fun h1 => ?_)
 ·have hsi := hs _ (getD_mem (l := l) (i := i) (d := { data := #[] }) (by omega))
  refine awp_skip (hK3 _ (awp_seq fun K5 hK5 => ?_))
  refine awp_block ?_
  refine awp_seq fun K6 hK6 => awp_region rfl (o_mv (.sl 1 (sbs l)) rfl (o_mv (Nv i) rfl ?_))
  refine s_index l i gn f108_ rfl rfl (by omega) ?_
  refine s_loadI l i gn f109_ rfl (by omega) ?_
  refine n_lenS (l.getD i { data := #[] }) gn rfl f37_ ?_
  refine n_gtr ((l.getD i { data := #[] }).size) 601 gn rfl rfl ?_
  refine o_mv (bp (601 < ((l.getD i { data := #[] }).size))) rfl ?_
  refine o_splitP (q := 601 < ((l.getD i { data := #[] }).size)) 16 rfl (fun h2 => ?_) (fun h2 => ?_)
  ·refine o_skip rfl rfl (decide_eq_true h2) (o_skip rfl rfl (decide_eq_true h2) (o_skip rfl rfl (decide_eq_true h2) (o_skip rfl rfl (decide_eq_true h2) (o_skip rfl rfl (decide_eq_true h2) (o_skip rfl rfl (decide_eq_true h2) ?_)))))
   refine o_pickT Tv gn rfl (decide_eq_true h2) rfl ?_
   refine aops_end (hK6 _ ?_)
   refine awp_condB (b := true) rfl (fun _ => ?_) (fun hh => absurd (hh.symm.trans rfl) (by decide))
   refine awp_seq fun K7 hK7 => awp_region rfl (o_as Fv rfl (aops_end (hK7 _ ?_)))
   refine awp_ret ?_
   refine post_ret ⟨[Fv], ⟨AV.le_refl _, trivial⟩, rfl, ?_⟩
   exact (bl_bp (b := false) ⟨fun h => (by cases h), fun h => absurd h (fun hh => absurd (shortB_le (hh i (by omega))) (by omega))⟩).symm
  ·refine o_move (.sl 1 (sbs l)) (Gd.yes rfl rfl (decide_eq_false h2)) rfl (o_move (Nv i) (Gd.yes rfl rfl (decide_eq_false h2)) rfl ?_)
   refine s_index l i (Gd.yes rfl rfl (decide_eq_false h2)) f108_ rfl rfl (by omega) ?_
   refine s_loadI l i (Gd.yes rfl rfl (decide_eq_false h2)) f109_ rfl (by omega) ?_
   refine o_ct (c_rValid (l.getD i { data := #[] }) (by first | assumption | decide | omega)) (Gd.yes rfl rfl (decide_eq_false h2)) f110_ rfl ?_
   refine o_not (b := okS (l.getD i { data := #[] })) (Gd.yes rfl rfl (decide_eq_false h2)) rfl ?_
   refine o_pickF (.lit (.bool (!(okS (l.getD i { data := #[] }))))) gn rfl (decide_eq_false h2) rfl ?_
   refine aops_end (hK6 _ ?_)
   refine awp_condB (b := !(okS (l.getD i { data := #[] }))) rfl (fun h3 => ?_) (fun h3 => ?_)
   ·refine awp_seq fun K8 hK8 => awp_region rfl (o_as Fv rfl (aops_end (hK8 _ ?_)))
    refine awp_ret ?_
    refine post_ret ⟨[Fv], ⟨AV.le_refl _, trivial⟩, rfl, ?_⟩
    exact (bl_bp (b := false) ⟨fun h => (by cases h), fun h => absurd h (fun hh => absurd (shortB_ok (hh i (by omega))) (by simpa using h3))⟩).symm
   ·refine awp_skip (hK5 _ (awp_region rfl (o_mv (Nv i) rfl ?_)))
    refine n_add i 1 gn rfl rfl (by simp only [topOf]; omega) ?_
    refine o_as (Nv (i + 1)) rfl (aops_end ?_)
    refine ⟨_, _, ?lt, ⟨i + 1, (by omega), (fun k hk => by rcases Nat.lt_or_ge k i with e | e; exact hf k e; rw [show k = i by omega]; exact shortB_yes (by omega) (by simpa using h3)), rfl, rfl⟩, ?wk⟩
    case lt => omega
    case wk => exact Wk.sub ⟨rfl, (by first | rfl | exact nm_int (by omega)), trivial⟩ trivial
 ·refine awp_exit ?_
  refine hK1 _ (awp_seq fun K9 hK9 => awp_region rfl (o_as Tv rfl (aops_end (hK9 _ ?_))))
  refine awp_ret ?_
  refine post_ret ⟨[Tv], ⟨AV.le_refl _, trivial⟩, rfl, ?_⟩
  exact (bl_bp (b := true) ⟨fun _ => (show ShortS l from fun k hk => hf k (by omega)), fun _ => rfl⟩).symm

theorem c_tReturns (m : MapM) (z : Int) (K : Nat) (hM : OkM m) (hK : K ≤ 100) (hz : (digs z.natAbs).length ≤ 1000) : ECalls cx 19 [mapV m, intR z, Nv K] (Nv (rtn m z K 0)) := by
 refine ecalls_of_awp Try.func19 (c := _) rfl (Nat.le_of_ble_eq_true rfl) ?_
 show awp cx 26 _ (postF cx Try.f19 _) ⟨[(0, mapV m), (1, intR z), (2, Nv K)], []⟩
 refine awp_seq fun K0 hK0 => awp_region rfl ?_
 refine o_box 2 [Iv m.mod, Lv m.mul, Lv m.add] gn rfl rfl ?_
 refine o_box 3 [bp (z < 0), .sl 1 (ns .i64 (digs z.natAbs))] gn rfl rfl ?_
 refine o_as (Nv 0) rfl (aops_end (hK0 _ (awp_seq fun K1 hK1 => awp_region rfl ?_)))
 refine o_loadA [bp (z < 0), .sl 1 (ns .i64 (digs z.natAbs))] gn f58_ rfl rfl rfl rfl rfl ?_
 refine o_alloc 4 [Fv, Zv] gn f53_ rfl rfl rfl ?_
 refine o_store [(4, oZ 31 .i64 z), (3, oZ 31 .i64 z), (2, oM 25 m)] gn f57_ rfl rfl rfl rfl rfl rfl ?_
 refine aops_end (hK1 _ (awp_seq fun K2 hK2 => awp_seq fun K3 hK3 => awp_region rfl (o_as (Nv 1) rfl (aops_end (hK3 _ ?_)))))
 refine awp_block ?_
 refine awp_loopR (fun κ σ => ∃ (j : Nat), (j ≤ K) ∧ (rtn m z K 0 = rtn m z (K - j) j) ∧ (K - j) = κ ∧ σ = ⟨[(2, Nv K), (3, .ref 2 0), (4, .ref 3 0), (7, .ref 4 0), (8, Nv (j + 1))], [(2, oM 25 m), (3, oZ 31 .i64 z), (4, oZ 31 .i64 (iterZ m j z))]⟩) ⟨_, _, ⟨0, Nat.zero_le _, rfl, rfl, rfl⟩, ?wk0⟩ ?rd0
 case wk0 =>
  exact Wk.sub ⟨rfl, rfl, rfl, rfl, (by first | rfl | exact nm_int (by omega)), trivial⟩ ⟨rfl, rfl, rfl, trivial⟩
 rintro κ _ ⟨j, hj, hr, rfl, rfl⟩
 have k2 := iter_len hM z j
 have k4 := iter_len hM z (j + 1)
 refine awp_seq fun K4 hK4 => awp_seq fun K5 hK5 => awp_region rfl (o_mv (Nv (j + 1)) rfl (o_mv (Nv K) rfl ?_))
 refine n_leq (j + 1) K gn rfl rfl ?_
 refine aops_end (hK5 _ ?_)
 refine awp_condQ (q := (j + 1) ≤ K) rfl (fun h1 => ?_) (fun h1 => ?_)
 ·refine awp_skip (hK4 _ (awp_seq fun K6 hK6 => ?_))
  refine awp_block ?_
  refine awp_seq fun K7 hK7 => awp_region rfl ?_
  refine o_loadA [Iv m.mod, Lv m.mul, Lv m.add] gn f72_ rfl rfl rfl rfl rfl ?_
  refine o_loadA [bp ((iterZ m j z) < 0), .sl 1 (ns .i64 (digs (iterZ m j z).natAbs))] gn f58_ rfl rfl rfl rfl rfl ?_
  refine o_ct (c_gStep m (iterZ m j z) (by first | assumption | exact okM_iff.1 (by assumption)) (by first | omega | assumption | (simp only [Int.natAbs_neg]; omega))) gn f111_ rfl ?_
  refine n_as (v' := (intR (iterZ m (j + 1) z))) (by exact rfl) ?_
  refine o_store [(2, oM 25 m), (3, oZ 31 .i64 z), (4, oZ 31 .i64 (iterZ m (j + 1) z))] gn f57_ rfl rfl rfl rfl rfl rfl ?_
  refine aops_end (hK7 _ (awp_seq fun K8 hK8 => awp_seq fun K9 hK9 => awp_region rfl ?_))
  refine o_loadA [bp ((iterZ m (j + 1) z) < 0), .sl 1 (ns .i64 (digs (iterZ m (j + 1) z).natAbs))] gn f58_ rfl rfl rfl rfl rfl ?_
  refine o_ct (c_rDigits (iterZ m (j + 1) z) (by first | omega | assumption | (simp only [Int.natAbs_neg]; omega))) gn f112_ rfl ?_
  refine n_gtr (ndig (iterZ m (j + 1) z).natAbs) 700 gn rfl rfl ?_
  refine aops_end (hK9 _ ?_)
  refine awp_condQ (q := 700 < (ndig (iterZ m (j + 1) z).natAbs)) rfl (fun h2 => ?_) (fun h2 => ?_)
  ·refine awp_seq fun K10 hK10 => awp_region rfl (o_as (Nv 0) rfl (aops_end (hK10 _ ?_)))
   refine awp_ret ?_
   refine post_ret ⟨[Nv 0], ⟨AV.le_refl _, trivial⟩, rfl, ?_⟩
   first | exact congrArg (nm _) (rtn_big hr (by omega) (by assumption)) | exact congrArg (nm _) (rtn_y hr (by omega) (by assumption) (cmpZ_eq0.1 (by assumption))) | exact congrArg (nm _) (rtn_0 hr (by omega))
  ·refine awp_skip (hK8 _ (awp_seq fun K11 hK11 => awp_region rfl ?_))
   refine o_loadA [bp ((iterZ m (j + 1) z) < 0), .sl 1 (ns .i64 (digs (iterZ m (j + 1) z).natAbs))] gn f58_ rfl rfl rfl rfl rfl ?_
   refine o_loadA [bp (z < 0), .sl 1 (ns .i64 (digs z.natAbs))] gn f58_ rfl rfl rfl rfl rfl ?_
   refine o_ct (c_rCmp (iterZ m (j + 1) z) z) gn f113_ rfl ?_
   refine o_eql (a := (cmpZ (iterZ m (j + 1) z) z)) (c := ((0 : Nat) : Int)) gn rfl rfl ?_
   refine aops_end (hK11 _ ?_)
   refine awp_condQ (q := (cmpZ (iterZ m (j + 1) z) z) = ((0 : Nat) : Int)) rfl (fun h3 => ?_) (fun h3 => ?_)
   ·refine awp_seq fun K12 hK12 => awp_region rfl (o_mv (Nv (j + 1)) rfl (o_as (Nv (j + 1)) rfl (aops_end (hK12 _ ?_))))
    refine awp_ret ?_
    refine post_ret ⟨[Nv (j + 1)], ⟨AV.le_refl _, trivial⟩, rfl, ?_⟩
    first | exact congrArg (nm _) (rtn_big hr (by omega) (by assumption)) | exact congrArg (nm _) (rtn_y hr (by omega) (by assumption) (cmpZ_eq0.1 (by assumption))) | exact congrArg (nm _) (rtn_0 hr (by omega))
   ·refine awp_skip (hK6 _ (awp_region rfl (o_mv (Nv (j + 1)) rfl ?_)))
    refine n_add (j + 1) 1 gn rfl rfl (by simp only [topOf]; omega) ?_
    refine o_as (Nv ((j + 1) + 1)) rfl (aops_end ?_)
    refine ⟨_, _, ?lt, ⟨j + 1, (by omega), (rtn_n hr (by omega) (by assumption) (fun e => absurd (cmpZ_eq0.2 e) (by assumption))), rfl, rfl⟩, ?wk⟩
    case lt => omega
    case wk => exact Wk.sub ⟨rfl, rfl, rfl, rfl, (by first | rfl | exact nm_int (by omega)), trivial⟩ ⟨rfl, rfl, rfl, trivial⟩
 ·refine awp_exit ?_
  refine hK2 _ (awp_seq fun K13 hK13 => awp_region rfl (o_as (Nv 0) rfl (aops_end (hK13 _ ?_))))
  refine awp_ret ?_
  refine post_ret ⟨[Nv 0], ⟨AV.le_refl _, trivial⟩, rfl, ?_⟩
  first | exact congrArg (nm _) (rtn_big hr (by omega) (by assumption)) | exact congrArg (nm _) (rtn_y hr (by omega) (by assumption) (cmpZ_eq0.1 (by assumption))) | exact congrArg (nm _) (rtn_0 hr (by omega))

theorem c_tOdd (m : MapM) (z : Int) (K : Nat) (hM : OkM m) (hK : K ≤ 60) (hz : (digs z.natAbs).length ≤ 1000) : ECalls cx 7 [mapV m, intR z, Nv K] (oddV m z K) := by
 refine ecalls_of_awp Try.func7 (c := _) rfl (Nat.le_of_ble_eq_true rfl) ?_
 show awp cx 48 _ (postF cx Try.f7 _) ⟨[(0, mapV m), (1, intR z), (2, Nv K)], []⟩
 have hrt : rtn m z K 0 ≤ K := by rcases Nat.eq_zero_or_pos (rtn m z K 0) with e | e; omega; have := (rtn_per _ _ e).2; omega
 refine awp_seq fun K0 hK0 => awp_region rfl ?_
 refine o_box 2 [Iv m.mod, Lv m.mul, Lv m.add] gn rfl rfl ?_
 refine o_box 3 [bp (z < 0), .sl 1 (ns .i64 (digs z.natAbs))] gn rfl rfl ?_
 refine o_as (Nv 0) rfl (o_as (Nv 0) rfl ?_)
 refine o_alloc 4 [Fv, Zv] gn f53_ rfl rfl rfl ?_
 refine o_as Fv rfl (aops_end (hK0 _ (awp_seq fun K1 hK1 => awp_region rfl ?_)))
 refine o_loadA [Iv m.mod, Lv m.mul, Lv m.add] gn f72_ rfl rfl rfl rfl rfl ?_
 refine o_loadA [bp (z < 0), .sl 1 (ns .i64 (digs z.natAbs))] gn f58_ rfl rfl rfl rfl rfl ?_
 refine o_mv (Nv K) rfl ?_
 refine o_ct (c_tReturns m z K hM (by omega) (by omega)) gn f114_ rfl ?_
 refine o_as (Nv (rtn m z K 0)) rfl (aops_end (hK1 _ (awp_seq fun K2 hK2 => awp_regionD rfl ?_)))
 refine o_loadA [bp (z < 0), .sl 1 (ns .i64 (digs z.natAbs))] gn f58_ rfl rfl rfl rfl rfl ?_
 refine o_loadA [bp (z < 0), .sl 1 (ns .i64 (digs z.natAbs))] gn f58_ rfl rfl rfl rfl rfl ?_
 refine o_alloc 5 [Fv, Zv] gn f53_ rfl rfl rfl ?_
 refine o_alloc 6 [Fv, Zv] gn f53_ rfl rfl rfl ?_
 refine o_as (Nv 0) rfl ?_
 refine o_store [(6, .var 31 [Fv, Zv]), (5, oZ 31 .i64 z), (4, .var 31 [Fv, Zv]), (3, oZ 31 .i64 z), (2, oM 25 m)] gn f57_ rfl rfl rfl rfl rfl rfl ?_
 refine o_store [(6, oZ 31 .i64 z), (5, oZ 31 .i64 z), (4, .var 31 [Fv, Zv]), (3, oZ 31 .i64 z), (2, oM 25 m)] gn f57_ rfl rfl rfl rfl rfl rfl ?_
 refine aops_end ⟨by kernel_rfl, ?_⟩
 refine hK2 _ (awp_seq fun K3 hK3 => awp_seq fun K4 hK4 => awp_region rfl (o_as (Nv 0) rfl (aops_end (hK4 _ ?_))))
 refine awp_block ?_
 refine awp_loopR (fun κ σ => ∃ (j : Nat), (j ≤ rtn m z K 0) ∧ (∀ i, i < j → 0 < iterZ m i z) ∧ (rtn m z K 0 - j) = κ ∧ σ = ⟨[(3, .ref 2 0), (4, .ref 3 0), (8, .ref 4 0), (10, Nv (rtn m z K 0)), (11, Nv (sumR m z j)), (12, .ref 5 0), (13, .ref 6 0), (14, Nv j)], [(2, oM 25 m), (3, oZ 31 .i64 z), (4, .var 31 [Fv, Zv]), (5, oZ 31 .i64 (leaZ m z j)), (6, oZ 31 .i64 (iterZ m j z))]⟩) ⟨_, _, ⟨0, Nat.zero_le _, (fun i hi => by omega), rfl, rfl⟩, ?wk0⟩ ?rd0
 case wk0 =>
  exact Wk.sub ⟨rfl, rfl, rfl, rfl, (by first | rfl | exact nm_int (by omega)), rfl, rfl, (by first | rfl | exact nm_int (by omega)), trivial⟩ ⟨(by first | rfl | (first | exact congrArg (fun q : Int => (some (.var 31 [bp (q < 0), .sl 1 (ns .i64 (digs q.natAbs))]) : Option AO)) (leaZ_y (cmpZ_lt.1 (by assumption))).symm | exact congrArg (fun q : Int => (some (.var 31 [bp (q < 0), .sl 1 (ns .i64 (digs q.natAbs))]) : Option AO)) (leaZ_n (fun e => absurd (cmpZ_lt.2 e) (by assumption))).symm)), (by first | rfl | (first | exact congrArg (fun q : Int => (some (.var 31 [bp (q < 0), .sl 1 (ns .i64 (digs q.natAbs))]) : Option AO)) (leaZ_y (cmpZ_lt.1 (by assumption))).symm | exact congrArg (fun q : Int => (some (.var 31 [bp (q < 0), .sl 1 (ns .i64 (digs q.natAbs))]) : Option AO)) (leaZ_n (fun e => absurd (cmpZ_lt.2 e) (by assumption))).symm)), (by first | rfl | (first | exact congrArg (fun q : Int => (some (.var 31 [bp (q < 0), .sl 1 (ns .i64 (digs q.natAbs))]) : Option AO)) (leaZ_y (cmpZ_lt.1 (by assumption))).symm | exact congrArg (fun q : Int => (some (.var 31 [bp (q < 0), .sl 1 (ns .i64 (digs q.natAbs))]) : Option AO)) (leaZ_n (fun e => absurd (cmpZ_lt.2 e) (by assumption))).symm)), (by first | rfl | (first | exact congrArg (fun q : Int => (some (.var 31 [bp (q < 0), .sl 1 (ns .i64 (digs q.natAbs))]) : Option AO)) (leaZ_y (cmpZ_lt.1 (by assumption))).symm | exact congrArg (fun q : Int => (some (.var 31 [bp (q < 0), .sl 1 (ns .i64 (digs q.natAbs))]) : Option AO)) (leaZ_n (fun e => absurd (cmpZ_lt.2 e) (by assumption))).symm)), (by first | rfl | (first | exact congrArg (fun q : Int => (some (.var 31 [bp (q < 0), .sl 1 (ns .i64 (digs q.natAbs))]) : Option AO)) (leaZ_y (cmpZ_lt.1 (by assumption))).symm | exact congrArg (fun q : Int => (some (.var 31 [bp (q < 0), .sl 1 (ns .i64 (digs q.natAbs))]) : Option AO)) (leaZ_n (fun e => absurd (cmpZ_lt.2 e) (by assumption))).symm)), trivial⟩
 rintro κ _ ⟨j, hj, hp, rfl, rfl⟩
 have k2 := iter_len hM z j
 have k4 := iter_len hM z (j + 1)
 have k5 := leaZ_len hM z j
 have k6 := sumR_le hM z j
 have k9 := hM.1
 have k10 := hM.2.1
 have k7 := Int.emod_nonneg (iterZ m j z) (show m.mod ≠ 0 by omega)
 have k8 := Int.emod_lt_of_pos (iterZ m j z) (show 0 < m.mod by omega)
 refine awp_seq fun K5 hK5 => awp_seq fun K6 hK6 => awp_region rfl (o_mv (Nv j) rfl (o_mv (Nv (rtn m z K 0)) rfl ?_))
 refine n_lss j (rtn m z K 0) gn rfl rfl ?_
 refine aops_end (hK6 _ ?_)
 refine awp_condQ (q := j < (rtn m z K 0)) rfl (fun h1 => ?_) (fun h1 => ?_)
 ·refine awp_skip (hK5 _ (awp_seq fun K7 hK7 => ?_))
  refine awp_block ?_
  refine awp_seq fun K8 hK8 => awp_seq fun K9 hK9 => awp_region rfl ?_
  refine o_loadA [bp ((iterZ m j z) < 0), .sl 1 (ns .i64 (digs (iterZ m j z).natAbs))] gn f58_ rfl rfl rfl rfl rfl ?_
  refine o_ct (c_rSign (iterZ m j z)) gn f59_ rfl ?_
  refine o_leq (a := (sgn (iterZ m j z))) (c := ((0 : Nat) : Int)) gn rfl rfl ?_
  refine aops_end (hK9 _ ?_)
  refine awp_condQ (q := (sgn (iterZ m j z)) ≤ ((0 : Nat) : Int)) rfl (fun h2 => ?_) (fun h2 => ?_)
  ·refine awp_seq fun K10 hK10 => awp_regionD rfl ?_
   refine o_loadA [bp (z < 0), .sl 1 (ns .i64 (digs z.natAbs))] gn f58_ rfl rfl rfl rfl rfl ?_
   refine o_as (Nv 0) rfl (o_as (Nv 0) rfl ?_)
   refine o_store [(2, oM 25 m), (3, oZ 31 .i64 z), (4, oZ 31 .i64 z), (5, oZ 31 .i64 (leaZ m z j)), (6, oZ 31 .i64 (iterZ m j z))] gn f57_ rfl rfl rfl rfl rfl rfl ?_
   refine o_as Fv rfl ?_
   refine aops_end ⟨by kernel_rfl, ?_⟩
   refine hK10 _ ?_
   refine awp_ret ?_
   refine post_ret ⟨[Nv 0, Nv 0, intR z, Fv], ⟨AV.le_refl _, AV.le_refl _, ⟨4, oZ 31 .i64 z, rfl, rfl, rfl, Or.inl ⟨f58_, AV.le_refl _⟩⟩, AV.le_refl _, trivial⟩, rfl, ?_⟩
   exact odd_n (odd_stop (by omega) (fun e => by have h9 : iterZ m j z ≤ 0 := sgn_le.1 (by assumption); omega))
  ·refine awp_skip (hK8 _ (awp_seq fun K11 hK11 => awp_seq fun K12 hK12 => awp_region rfl ?_))
   refine o_loadA [bp ((iterZ m j z) < 0), .sl 1 (ns .i64 (digs (iterZ m j z).natAbs))] gn f58_ rfl rfl rfl rfl rfl ?_
   refine o_loadA [bp ((leaZ m z j) < 0), .sl 1 (ns .i64 (digs (leaZ m z j).natAbs))] gn f58_ rfl rfl rfl rfl rfl ?_
   refine o_ct (c_rCmp (iterZ m j z) (leaZ m z j)) gn f113_ rfl ?_
   refine o_lss (a := (cmpZ (iterZ m j z) (leaZ m z j))) (c := ((0 : Nat) : Int)) gn rfl rfl ?_
   refine aops_end (hK12 _ ?_)
   refine awp_condQ (q := (cmpZ (iterZ m j z) (leaZ m z j)) < ((0 : Nat) : Int)) rfl (fun h3 => ?_) (fun h3 => ?_)
   ·refine awp_region rfl ?_
    refine o_loadA [bp ((iterZ m j z) < 0), .sl 1 (ns .i64 (digs (iterZ m j z).natAbs))] gn f58_ rfl rfl rfl rfl rfl ?_
    refine o_store [(2, oM 25 m), (3, oZ 31 .i64 z), (4, .var 31 [Fv, Zv]), (5, oZ 31 .i64 (iterZ m j z)), (6, oZ 31 .i64 (iterZ m j z))] gn f57_ rfl rfl rfl rfl rfl rfl ?_
    refine aops_end (hK11 _ (awp_seq fun K13 hK13 => awp_region rfl (o_mv (Nv (sumR m z j)) rfl ?_)))
    refine o_loadA [Iv m.mod, Lv m.mul, Lv m.add] gn f72_ rfl rfl rfl rfl rfl ?_
    refine o_loadA [bp ((iterZ m j z) < 0), .sl 1 (ns .i64 (digs (iterZ m j z).natAbs))] gn f58_ rfl rfl rfl rfl rfl ?_
    refine o_ct (c_gRest m (iterZ m j z) (by first | assumption | exact okM_iff.1 (by assumption)) (by first | omega | assumption | (simp only [Int.natAbs_neg]; omega))) gn f73_ rfl ?_
    refine o_add (a := ((sumR m z j : Nat) : Int)) (c := ((iterZ m j z) % m.mod)) gn rfl rfl (by exact wrap64 (by omega) (by omega)) ?_
    refine n_as (v' := (Nv (sumR m z (j + 1)))) (by exact nm_int (sumR_s hM z j)) ?_
    refine o_as (Nv (sumR m z (j + 1))) rfl (aops_end (hK13 _ (awp_region rfl ?_)))
    refine o_loadA [Iv m.mod, Lv m.mul, Lv m.add] gn f72_ rfl rfl rfl rfl rfl ?_
    refine o_loadA [bp ((iterZ m j z) < 0), .sl 1 (ns .i64 (digs (iterZ m j z).natAbs))] gn f58_ rfl rfl rfl rfl rfl ?_
    refine o_ct (c_gStep m (iterZ m j z) (by first | assumption | exact okM_iff.1 (by assumption)) (by first | omega | assumption | (simp only [Int.natAbs_neg]; omega))) gn f111_ rfl ?_
    refine n_as (v' := (intR (iterZ m (j + 1) z))) (by exact rfl) ?_
    refine o_store [(2, oM 25 m), (3, oZ 31 .i64 z), (4, .var 31 [Fv, Zv]), (5, oZ 31 .i64 (iterZ m j z)), (6, oZ 31 .i64 (iterZ m (j + 1) z))] gn f57_ rfl rfl rfl rfl rfl rfl ?_
    refine aops_end (hK7 _ (awp_region rfl (o_mv (Nv j) rfl ?_)))
    refine n_add j 1 gn rfl rfl (by simp only [topOf]; omega) ?_
    refine o_as (Nv (j + 1)) rfl (aops_end ?_)
    refine ⟨_, _, ?lt, ⟨j + 1, (by omega), (fun i hi => by rcases Nat.lt_or_ge i j with e | e; exact hp i e; rw [show i = j by omega]; exact Decidable.byContradiction fun e => absurd (sgn_le.2 (show iterZ m j z ≤ 0 by omega)) (by assumption)), rfl, rfl⟩, ?wk⟩
    case lt => omega
    case wk => exact Wk.sub ⟨rfl, rfl, rfl, rfl, (by first | rfl | exact nm_int (by omega)), rfl, rfl, (by first | rfl | exact nm_int (by omega)), trivial⟩ ⟨rfl, rfl, rfl, (by first | rfl | (first | exact congrArg (fun q : Int => (some (.var 31 [bp (q < 0), .sl 1 (ns .i64 (digs q.natAbs))]) : Option AO)) (leaZ_y (cmpZ_lt.1 (by assumption))).symm | exact congrArg (fun q : Int => (some (.var 31 [bp (q < 0), .sl 1 (ns .i64 (digs q.natAbs))]) : Option AO)) (leaZ_n (fun e => absurd (cmpZ_lt.2 e) (by assumption))).symm)), (by first | rfl | (first | exact congrArg (fun q : Int => (some (.var 31 [bp (q < 0), .sl 1 (ns .i64 (digs q.natAbs))]) : Option AO)) (leaZ_y (cmpZ_lt.1 (by assumption))).symm | exact congrArg (fun q : Int => (some (.var 31 [bp (q < 0), .sl 1 (ns .i64 (digs q.natAbs))]) : Option AO)) (leaZ_n (fun e => absurd (cmpZ_lt.2 e) (by assumption))).symm)), trivial⟩
   ·refine awp_skip (hK11 _ (awp_seq fun K14 hK14 => awp_region rfl (o_mv (Nv (sumR m z j)) rfl ?_)))
    refine o_loadA [Iv m.mod, Lv m.mul, Lv m.add] gn f72_ rfl rfl rfl rfl rfl ?_
    refine o_loadA [bp ((iterZ m j z) < 0), .sl 1 (ns .i64 (digs (iterZ m j z).natAbs))] gn f58_ rfl rfl rfl rfl rfl ?_
    refine o_ct (c_gRest m (iterZ m j z) (by first | assumption | exact okM_iff.1 (by assumption)) (by first | omega | assumption | (simp only [Int.natAbs_neg]; omega))) gn f73_ rfl ?_
    refine o_add (a := ((sumR m z j : Nat) : Int)) (c := ((iterZ m j z) % m.mod)) gn rfl rfl (by exact wrap64 (by omega) (by omega)) ?_
    refine n_as (v' := (Nv (sumR m z (j + 1)))) (by exact nm_int (sumR_s hM z j)) ?_
    refine o_as (Nv (sumR m z (j + 1))) rfl (aops_end (hK14 _ (awp_region rfl ?_)))
    refine o_loadA [Iv m.mod, Lv m.mul, Lv m.add] gn f72_ rfl rfl rfl rfl rfl ?_
    refine o_loadA [bp ((iterZ m j z) < 0), .sl 1 (ns .i64 (digs (iterZ m j z).natAbs))] gn f58_ rfl rfl rfl rfl rfl ?_
    refine o_ct (c_gStep m (iterZ m j z) (by first | assumption | exact okM_iff.1 (by assumption)) (by first | omega | assumption | (simp only [Int.natAbs_neg]; omega))) gn f111_ rfl ?_
    refine n_as (v' := (intR (iterZ m (j + 1) z))) (by exact rfl) ?_
    refine o_store [(2, oM 25 m), (3, oZ 31 .i64 z), (4, .var 31 [Fv, Zv]), (5, oZ 31 .i64 (leaZ m z j)), (6, oZ 31 .i64 (iterZ m (j + 1) z))] gn f57_ rfl rfl rfl rfl rfl rfl ?_
    refine aops_end (hK7 _ (awp_region rfl (o_mv (Nv j) rfl ?_)))
    refine n_add j 1 gn rfl rfl (by simp only [topOf]; omega) ?_
    refine o_as (Nv (j + 1)) rfl (aops_end ?_)
    refine ⟨_, _, ?lt, ⟨j + 1, (by omega), (fun i hi => by rcases Nat.lt_or_ge i j with e | e; exact hp i e; rw [show i = j by omega]; exact Decidable.byContradiction fun e => absurd (sgn_le.2 (show iterZ m j z ≤ 0 by omega)) (by assumption)), rfl, rfl⟩, ?wk⟩
    case lt => omega
    case wk => exact Wk.sub ⟨rfl, rfl, rfl, rfl, (by first | rfl | exact nm_int (by omega)), rfl, rfl, (by first | rfl | exact nm_int (by omega)), trivial⟩ ⟨rfl, rfl, rfl, (by first | rfl | (first | exact congrArg (fun q : Int => (some (.var 31 [bp (q < 0), .sl 1 (ns .i64 (digs q.natAbs))]) : Option AO)) (leaZ_y (cmpZ_lt.1 (by assumption))).symm | exact congrArg (fun q : Int => (some (.var 31 [bp (q < 0), .sl 1 (ns .i64 (digs q.natAbs))]) : Option AO)) (leaZ_n (fun e => absurd (cmpZ_lt.2 e) (by assumption))).symm)), (by first | rfl | (first | exact congrArg (fun q : Int => (some (.var 31 [bp (q < 0), .sl 1 (ns .i64 (digs q.natAbs))]) : Option AO)) (leaZ_y (cmpZ_lt.1 (by assumption))).symm | exact congrArg (fun q : Int => (some (.var 31 [bp (q < 0), .sl 1 (ns .i64 (digs q.natAbs))]) : Option AO)) (leaZ_n (fun e => absurd (cmpZ_lt.2 e) (by assumption))).symm)), trivial⟩
 ·refine awp_exit ?_
  refine hK3 _ (awp_seq fun K15 hK15 => awp_regionD rfl (o_mv (Nv (sumR m z j)) rfl (o_mv (Nv (rtn m z K 0)) rfl ?_)))
  refine o_loadA [bp ((leaZ m z j) < 0), .sl 1 (ns .i64 (digs (leaZ m z j).natAbs))] gn f58_ rfl rfl rfl rfl rfl ?_
  refine o_mv (Nv (rtn m z K 0)) rfl ?_
  refine n_gtr (rtn m z K 0) 0 gn rfl rfl ?_
  refine o_as (Nv (sumR m z j)) rfl (o_as (Nv (rtn m z K 0)) rfl ?_)
  refine o_store [(2, oM 25 m), (3, oZ 31 .i64 z), (4, oZ 31 .i64 (leaZ m z j)), (5, oZ 31 .i64 (leaZ m z j)), (6, oZ 31 .i64 (iterZ m j z))] gn f57_ rfl rfl rfl rfl rfl rfl ?_
  refine o_as (bp (0 < (rtn m z K 0))) rfl ?_
  refine aops_end ⟨by kernel_rfl, ?_⟩
  refine hK15 _ ?_
  refine awp_ret ?_
  refine post_ret ⟨[Nv (sumR m z j), Nv (rtn m z K 0), intR (leaZ m z j), bp (0 < (rtn m z K 0))], ⟨AV.le_refl _, AV.le_refl _, ⟨4, oZ 31 .i64 (leaZ m z j), rfl, rfl, rfl, Or.inl ⟨f58_, AV.le_refl _⟩⟩, AV.le_refl _, trivial⟩, rfl, ?_⟩
  exact odd_end (by omega) hp

end Go.Proofs.Ytaeknciienkijaa

namespace Go.Proofs.Ytaeknciienkijaa
open Go Go.Ab Go.Mth
theorem f115_ : callable cx.P 15 = true := by kernel_rfl
theorem c_tLimits  : ECalls cx 6 [] (.lit (.bool true)) := by
 refine ecalls_of_awp Try.func6 (c := _) rfl (Nat.le_of_ble_eq_true rfl) ?_
 show awp cx 31 _ (postF cx Try.f6 _) ⟨[], []⟩
 refine awp_seq fun K0 hK0 => awp_region rfl (o_as Fv rfl (aops_end (hK0 _ (awp_seq fun K1 hK1 => awp_region rfl ?_))))
 refine o_call [Nv 3, Nv 1, (Sv ({data := #[54]} : ByteArray)), Nv 10] (.tup [Nv 5, Nv 8, Nv 0]) gn f115_ rfl (by have h := c_bLeast 3 1 6 10 (by decide) (by decide) ex8_sz.2 (by decide) (by decide) (by have h9 := ex8_sz.1; omega); rw [ex8_a, show txt ((6 : Nat) : Int) = ⟨#[54]⟩ from tx6] at h; exact h) ?_
 refine o_mv (.tup [Nv 5, Nv 8, Nv 0]) rfl (o_extract (Nv 5) gn rfl rfl (o_extract (Nv 8) gn rfl rfl (o_extract (Nv 0) gn rfl rfl (o_as (Nv 5) rfl (o_as (Nv 8) rfl (o_as (Nv 0) rfl (aops_end (hK1 _ (awp_seq fun K2 hK2 => awp_region rfl ?_)))))))))
 refine o_call [Nv 3, Nv 1, (Sv ({data := #[54]} : ByteArray)), Nv 4] (.tup [Nv 0, Nv 0, Nv 4]) gn f115_ rfl (by have h := c_bLeast 3 1 6 4 (by decide) (by decide) ex8_sz.2 (by decide) (by decide) (by have h9 := ex8_sz.1; omega); rw [ex8_b, show txt ((6 : Nat) : Int) = ⟨#[54]⟩ from tx6] at h; exact h) ?_
 refine o_mv (.tup [Nv 0, Nv 0, Nv 4]) rfl (o_extract (Nv 0) gn rfl rfl (o_extract (Nv 0) gn rfl rfl (o_extract (Nv 4) gn rfl rfl (o_as (Nv 0) rfl (o_as (Nv 0) rfl (o_as (Nv 4) rfl (aops_end (hK2 _ (awp_seq fun K3 hK3 => awp_region rfl (o_mv (Nv 0) rfl ?_))))))))))
 refine n_eql 0 0 gn rfl rfl ?_
 refine n_as (v' := Tv) (by exact bp6y (by first | rfl | decide)) ?_
 refine o_mv Tv rfl (o_move (Nv 5) (Gd.yes rfl rfl rfl) rfl ?_)
 refine n_eql 5 5 (Gd.yes rfl rfl rfl) rfl rfl ?_
 refine n_as (v' := Tv) (by exact bp6y (by first | rfl | decide)) ?_
 refine o_pickT Tv gn rfl rfl rfl ?_
 refine o_mv Tv rfl (o_move (Nv 8) (Gd.yes rfl rfl rfl) rfl ?_)
 refine n_eql 8 8 (Gd.yes rfl rfl rfl) rfl rfl ?_
 refine n_as (v' := Tv) (by exact bp6y (by first | rfl | decide)) ?_
 refine o_pickT Tv gn rfl rfl rfl ?_
 refine o_mv Tv rfl (o_move (Nv 4) (Gd.yes rfl rfl rfl) rfl ?_)
 refine n_eql 4 4 (Gd.yes rfl rfl rfl) rfl rfl ?_
 refine n_as (v' := Tv) (by exact bp6y (by first | rfl | decide)) ?_
 refine o_pickT Tv gn rfl rfl rfl ?_
 refine o_as Tv rfl (aops_end (hK3 _ ?_))
 refine awp_ret ?_
 refine post_ret ⟨[Tv], ⟨AV.le_refl _, trivial⟩, rfl, ?_⟩
 first | rfl | exact (bp6y (by first | rfl | decide)).symm

end Go.Proofs.Ytaeknciienkijaa

namespace Go.Proofs.Ytaeknciienkijaa
open Go Go.Ab Go.Mth
theorem f116_ : tyArr cx.P 22 = some (2, 3, 1) := by kernel_rfl
theorem f117_ : callable cx.P 4 = true := by kernel_rfl
theorem f118_ : tyZero cx.P 9 = some [(Go.Value.string {data := #[]})] := by kernel_rfl
theorem f119_ : callable cx.P 5 = true := by kernel_rfl
theorem f120_ : callable cx.P 6 = true := by kernel_rfl
theorem f121_ : callable cx.P 8 = true := by kernel_rfl
theorem f122_ : callable cx.P 7 = true := by kernel_rfl
theorem f123_ : callable cx.P 11 = true := by kernel_rfl
theorem f124_ : callable cx.P 9 = true := by kernel_rfl
theorem f125_ : callable cx.P 14 = true := by kernel_rfl
theorem f126_ : callable cx.P 13 = true := by kernel_rfl
theorem f127_ : callable cx.P 16 = true := by kernel_rfl
theorem c_TopLong_y (q c : Nat) (a : ByteArray) (less : Int) (hk : KinB (q : Int) (c : Int)) (hsz0 : a.size ≤ 9223372036854775807) (hlb : -9223372036854775808 ≤ less ∧ less ≤ 9223372036854775807) : ECalls cx 3 [.agg [Nv q, Nv c], Sv a, Iv less] (.lit (.bool true)) := by
 refine ecalls_of_awp Try.func3 (c := _) rfl (Nat.le_of_ble_eq_true rfl) ?_
 show awp cx 182 _ (postF cx Try.f3 _) ⟨[(0, .agg [Nv q, Nv c]), (1, Sv a), (2, Iv less)], []⟩
 have hko := kinB_ok hk
 have hM := kin_ok hko
 have hk0 := hk
 obtain ⟨e1, e2, e3, e4, e5, e6⟩ := hk0
 refine awp_seq fun K0 hK0 => awp_region rfl ?_
 refine o_box 2 [Nv q, Nv c] gn rfl rfl ?_
 refine o_as Fv rfl (aops_end (hK0 _ (awp_seq fun K1 hK1 => awp_regionD rfl ?_)))
 refine n_indexArr 0 0 gn f116_ rfl rfl (by omega) (by first | rfl | simp) ?_
 refine o_loadS (Nv q) gn f55_ rfl rfl rfl ?_
 refine n_indexArr 1 1 gn f116_ rfl rfl (by omega) (by first | rfl | simp) ?_
 refine o_loadS (Nv c) gn f55_ rfl rfl rfl ?_
 refine o_as (Nv q) rfl (o_as (Nv c) rfl ?_)
 refine aops_end ⟨by kernel_rfl, ?_⟩
 refine hK1 _ (awp_seq fun K2 hK2 => awp_region rfl (o_mv (Nv q) rfl (o_mv (Nv c) rfl ?_)))
 refine o_ct (c_gKin ((q : Nat) : Int) ((c : Nat) : Int)) gn f117_ rfl ?_
 refine o_mv (.tup [(mapV (if kinOk ((q : Nat) : Int) ((c : Nat) : Int) then kinM ((q : Nat) : Int) ((c : Nat) : Int) else noM)), (bp (kinOk ((q : Nat) : Int) ((c : Nat) : Int)))]) rfl (o_extract (mapV (if kinOk ((q : Nat) : Int) ((c : Nat) : Int) then kinM ((q : Nat) : Int) ((c : Nat) : Int) else noM)) gn rfl rfl ?_)
 refine n_as (v' := (mapV (kinM ((q : Nat) : Int) ((c : Nat) : Int)))) (by exact congrArg mapV (if_pos hko)) ?_
 refine o_extract (bp (kinOk ((q : Nat) : Int) ((c : Nat) : Int))) gn rfl rfl ?_
 refine n_as (v' := Tv) (by exact bp6y hko) ?_
 refine o_alloc 3 [Nv 0, Zv, Zv] gn f77_ rfl rfl rfl ?_
 refine o_store [(3, (oM 25 (kinM ((q : Nat) : Int) ((c : Nat) : Int)))), (2, .var 22 [Nv q, Nv c])] gn f79_ rfl rfl rfl rfl rfl rfl ?_
 refine o_as Tv rfl (aops_end (hK2 _ (awp_seq fun K3 hK3 => awp_seq fun K4 hK4 => awp_region rfl (o_mv Tv rfl ?_))))
 refine o_not (b := true) gn rfl ?_
 refine o_mv Fv rfl (o_move (Nv q) (Gd.yes rfl rfl rfl) rfl ?_)
 refine n_lss q 3 (Gd.yes rfl rfl rfl) rfl rfl ?_
 refine n_as (v' := Fv) (by exact bp6n (by omega)) ?_
 refine o_pickF Fv gn rfl rfl rfl ?_
 refine o_mv Fv rfl (o_move (Nv c) (Gd.yes rfl rfl rfl) rfl ?_)
 refine n_lss c 1 (Gd.yes rfl rfl rfl) rfl rfl ?_
 refine n_as (v' := Fv) (by exact bp6n (by omega)) ?_
 refine o_pickF Fv gn rfl rfl rfl ?_
 refine o_mv Fv rfl (o_move (Sv a) (Gd.yes rfl rfl rfl) rfl ?_)
 refine o_buildSlice 4 (sbs ([a])) [(0, [Sv a])] (Gd.yes rfl rfl rfl) f108_ rfl f118_ rfl rfl rfl rfl rfl rfl rfl ?_
 refine o_callG [(4, 1, sbs ([a]))] [.sl 1 (sbs ([a]))] _ (bp (ShortS [a])) [(3, (oM 25 (kinM ((q : Nat) : Int) ((c : Nat) : Int)))), (2, .var 22 [Nv q, Nv c])] (Gd.yes rfl rfl rfl) f119_ rfl ⟨⟨_, rfl⟩, trivial⟩ rfl rfl (LeL.cons (AV.le_refl _) LeL.nil) (c_tShort [a] (by simp) (fun x hx => by rw [List.mem_singleton.1 hx]; exact hsz0)) rfl ?_
 refine o_notP (q := ShortS [a]) (Gd.yes rfl rfl rfl) rfl ?_
 refine o_pickF (bp (¬ (ShortS [a]))) gn rfl rfl rfl ?_
 refine aops_end (hK4 _ ?_)
 refine awp_condQ (q := ¬ (ShortS [a])) rfl (fun h1 => ?_) (fun h1 => ?_)
 ·refine awp_seq fun K5 hK5 => awp_region rfl ?_
  refine o_ct c_tLimits gn f120_ rfl ?_
  refine o_as Tv rfl (aops_end (hK5 _ ?_))
  refine awp_ret ?_
  refine post_ret ⟨[Tv], ⟨AV.le_refl _, trivial⟩, rfl, ?_⟩
  rfl
 ·refine awp_skip (hK3 _ (awp_seq fun K6 hK6 => ?_))
  have hsh : ShortS [a] := Decidable.not_not.1 (show ¬ ¬ ShortS [a] by assumption)
  have hb : shortB a = true := hsh 0 (by simp)
  have ho := shortB_ok hb
  have hS := okS_iff.1 ho
  obtain ⟨bb, hbb, h601⟩ := numS_601 hS (shortB_le hb)
  have hzl := len_numS hS
  refine awp_regionD rfl ?_
  refine o_loadA [(Iv ((kinM ((q : Nat) : Int) ((c : Nat) : Int)).mod)), (Lv ((kinM ((q : Nat) : Int) ((c : Nat) : Int)).mul)), (Lv ((kinM ((q : Nat) : Int) ((c : Nat) : Int)).add))] gn f72_ rfl rfl rfl rfl rfl ?_
  refine o_mv (Sv a) rfl ?_
  refine o_ct (c_rParse a (by first | assumption | exact okS_iff.1 (by assumption))) gn f121_ rfl ?_
  refine o_ct (c_tOdd (kinM ((q : Nat) : Int) ((c : Nat) : Int)) (numS a) 60 hM (by omega) (by omega)) gn f122_ rfl ?_
  refine o_mv (.tup [(Nv (oddA (kinM ((q : Nat) : Int) ((c : Nat) : Int)) (numS a) 60)), (Nv (oddK (kinM ((q : Nat) : Int) ((c : Nat) : Int)) (numS a) 60)), (intR (oddL (kinM ((q : Nat) : Int) ((c : Nat) : Int)) (numS a) 60)), (bp (isC (kinM ((q : Nat) : Int) ((c : Nat) : Int)) (numS a) 60))]) rfl (o_extract (Nv (oddA (kinM ((q : Nat) : Int) ((c : Nat) : Int)) (numS a) 60)) gn rfl rfl (o_extract (Nv (oddK (kinM ((q : Nat) : Int) ((c : Nat) : Int)) (numS a) 60)) gn rfl rfl (o_extract (intR (oddL (kinM ((q : Nat) : Int) ((c : Nat) : Int)) (numS a) 60)) gn rfl rfl (o_extract (bp (isC (kinM ((q : Nat) : Int) ((c : Nat) : Int)) (numS a) 60)) gn rfl rfl ?_))))
  refine o_alloc 5 [Fv, Zv] gn f53_ rfl rfl rfl ?_
  refine o_as (Nv (oddA (kinM ((q : Nat) : Int) ((c : Nat) : Int)) (numS a) 60)) rfl (o_as (Nv (oddK (kinM ((q : Nat) : Int) ((c : Nat) : Int)) (numS a) 60)) rfl ?_)
  refine o_store [(5, (oZ 31 .i64 (oddL (kinM ((q : Nat) : Int) ((c : Nat) : Int)) (numS a) 60))), (3, (oM 25 (kinM ((q : Nat) : Int) ((c : Nat) : Int)))), (2, .var 22 [Nv q, Nv c])] gn f57_ rfl rfl rfl rfl rfl rfl ?_
  refine o_as (bp (isC (kinM ((q : Nat) : Int) ((c : Nat) : Int)) (numS a) 60)) rfl ?_
  refine aops_end ⟨by kernel_rfl, ?_⟩
  refine hK6 _ (awp_seq fun K7 hK7 => awp_seq fun K8 hK8 => awp_region rfl (o_mv (bp (isC (kinM ((q : Nat) : Int) ((c : Nat) : Int)) (numS a) 60)) rfl ?_))
  refine o_notP (q := isC (kinM ((q : Nat) : Int) ((c : Nat) : Int)) (numS a) 60) gn rfl ?_
  refine aops_end (hK8 _ ?_)
  refine awp_condQ (q := ¬ (isC (kinM ((q : Nat) : Int) ((c : Nat) : Int)) (numS a) 60)) rfl (fun h2 => ?_) (fun h2 => ?_)
  ·refine awp_seq fun K9 hK9 => awp_region rfl ?_
   refine o_ct c_tLimits gn f120_ rfl ?_
   refine o_as Tv rfl (aops_end (hK9 _ ?_))
   refine awp_ret ?_
   refine post_ret ⟨[Tv], ⟨AV.le_refl _, trivial⟩, rfl, ?_⟩
   rfl
  ·refine awp_skip (hK7 _ (awp_seq fun K10 hK10 => awp_seq fun K11 hK11 => ?_))
   have hC : isC (kinM ((q : Nat) : Int) ((c : Nat) : Int)) (numS a) 60 := Decidable.not_not.1 (show ¬ ¬ isC (kinM ((q : Nat) : Int) ((c : Nat) : Int)) (numS a) 60 by assumption)
   obtain ⟨N, hN, n1, n2, a1, a2, a3, hF⟩ := tl_main hk hC h601
   obtain ⟨s1, s2, s3, s4⟩ := sz_601 (q := q) (c := c) hbb n2 (by omega) (by omega)
   have s5 : (digs ((N : Nat) : Int).natAbs).length ≤ 601 := s3
   have hF1 := hF N n1 (Nat.le_refl _)
   have hL1 := fitB_L hF1
   have hmz := Nat.mul_le_mul (show oddA (kinM ((q : Nat) : Int) ((c : Nat) : Int)) (numS a) 60 ≤ 60 by omega) s1
   have hw0 := Int.emod_nonneg less (show ((1000 : Nat) : Int) ≠ 0 by decide)
   have hw1 := Int.emod_lt_of_pos less (show (0 : Int) < ((1000 : Nat) : Int) by decide)
   have hwl := small_len (z := less % ((1000 : Nat) : Int)) (by omega)
   obtain ⟨v1, v2, v3⟩ := bl_fits hk a1 (by omega)
   have vS := okS_txt v1
   have vS2 := okS_yes vS
   have vSz := okS_sz6 vS
   have vle := bl_max a1 hL1
   rw [hN]
   refine awp_region rfl (o_mv (Nv (oddA (kinM ((q : Nat) : Int) ((c : Nat) : Int)) (numS a) 60)) rfl ?_)
   refine n_eql (oddA (kinM ((q : Nat) : Int) ((c : Nat) : Int)) (numS a) 60) 0 gn rfl rfl ?_
   refine n_as (v' := Fv) (by exact bp6n (by omega)) ?_
   refine aops_end (hK11 _ ?_)
   refine awp_condB (b := false) rfl (fun hh => absurd (hh.symm.trans rfl) (by decide)) (fun _ => ?_)
   refine awp_skip (hK10 _ (awp_seq fun K12 hK12 => awp_regionD rfl ?_))
   refine o_loadA [(bp (((N : Nat) : Int) < 0)), (.sl 1 (ns .i64 (digs ((N : Nat) : Int).natAbs)))] gn f58_ rfl rfl rfl rfl rfl ?_
   refine o_mv (Iv less) rfl ?_
   refine o_ct (c_tWrapped less 1000 hlb.1 hlb.2 (by omega) (by omega)) gn f123_ rfl ?_
   refine o_ct (c_rOf (less % ((1000 : Nat) : Int)) (by first | decide | omega) (by first | decide | omega)) gn f69_ rfl ?_
   refine o_ct (c_rSub ((N : Nat) : Int) (less % ((1000 : Nat) : Int)) (by first | omega | assumption | (simp only [Int.natAbs_neg]; omega)) (by first | omega | assumption | (simp only [Int.natAbs_neg]; omega))) gn f124_ rfl ?_
   refine o_alloc 6 [Fv, Zv] gn f53_ rfl rfl rfl ?_
   refine o_store [(6, (oZ 31 .i64 (((N : Nat) : Int) - (less % ((1000 : Nat) : Int))))), (5, (oZ 31 .i64 ((N : Nat) : Int))), (3, (oM 25 (kinM ((q : Nat) : Int) ((c : Nat) : Int)))), (2, .var 22 [Nv q, Nv c])] gn f57_ rfl rfl rfl rfl rfl rfl ?_
   refine aops_end ⟨by kernel_rfl, ?_⟩
   refine hK12 _ ?_
   refine awp_seqJ (J := fun σ => ∃ (M : Nat), (1 ≤ M) ∧ (M ≤ N) ∧ True ∧ σ = ⟨[(7, Nv q), (8, Nv c), (11, (Nv (oddA (kinM ((q : Nat) : Int) ((c : Nat) : Int)) (numS a) 60))), (12, (Nv (oddK (kinM ((q : Nat) : Int) ((c : Nat) : Int)) (numS a) 60))), (13, .ref 4 0), (15, .ref 5 0)], [(4, (oZ 31 .i64 ((N : Nat) : Int))), (5, (oZ 31 .i64 ((M : Nat) : Int)))]⟩) ?ja0 ?jb0
   case ja0 =>
    refine awp_seq fun K13 hK13 => awp_region rfl ?_
    refine o_loadA [(bp ((((N : Nat) : Int) - (less % ((1000 : Nat) : Int))) < 0)), (.sl 1 (ns .i64 (digs (((N : Nat) : Int) - (less % ((1000 : Nat) : Int))).natAbs)))] gn f58_ rfl rfl rfl rfl rfl ?_
    refine o_ct (c_rSign (((N : Nat) : Int) - (less % ((1000 : Nat) : Int)))) gn f59_ rfl ?_
    refine o_leq (a := (sgn (((N : Nat) : Int) - (less % ((1000 : Nat) : Int))))) (c := ((0 : Nat) : Int)) gn rfl rfl ?_
    refine aops_end (hK13 _ ?_)
    refine awp_condQ (q := (sgn (((N : Nat) : Int) - (less % ((1000 : Nat) : Int)))) ≤ ((0 : Nat) : Int)) rfl (fun h3 => ?_) (fun h3 => ?_)
    ·refine awp_region rfl ?_
     refine o_ct (c_rOf (1 : Int) (by first | decide | omega) (by first | decide | omega)) gn f69_ rfl ?_
     refine o_store [(6, (oZ 31 .i64 (1 : Int))), (5, (oZ 31 .i64 ((N : Nat) : Int))), (3, (oM 25 (kinM ((q : Nat) : Int) ((c : Nat) : Int)))), (2, .var 22 [Nv q, Nv c])] gn f57_ rfl rfl rfl rfl rfl rfl ?_
     refine aops_end ?_
     exact ⟨_, ⟨1, (by omega), (by omega), trivial, rfl⟩, Wk.trans (Wk.sub (σ' := ⟨[(7, Nv q), (8, Nv c), (11, (Nv (oddA (kinM ((q : Nat) : Int) ((c : Nat) : Int)) (numS a) 60))), (12, (Nv (oddK (kinM ((q : Nat) : Int) ((c : Nat) : Int)) (numS a) 60))), (13, .ref 5 0), (15, .ref 6 0)], [(5, (oZ 31 .i64 ((N : Nat) : Int))), (6, (oZ 31 .i64 (1 : Int)))]⟩) ⟨rfl, rfl, rfl, rfl, rfl, rfl, trivial⟩ ⟨rfl, rfl, trivial⟩) (Wk.trans (Wk.ren (id := 6) (id' := 900) rfl) (Wk.trans (Wk.ren (id := 5) (id' := 4) rfl) (Wk.trans (Wk.ren (id := 900) (id' := 5) rfl) (Wk.sub ⟨rfl, rfl, rfl, rfl, (by first | rfl | simp), (by first | rfl | simp), trivial⟩ ⟨(by first | rfl | (exact congrArg (fun q : Int => (some (.var 31 [bp (q < 0), .sl 1 (ns .i64 (digs q.natAbs))]) : Option AO)) (Int.toNat_of_nonneg (by omega)).symm)), (by first | rfl | (exact congrArg (fun q : Int => (some (.var 31 [bp (q < 0), .sl 1 (ns .i64 (digs q.natAbs))]) : Option AO)) (Int.toNat_of_nonneg (by omega)).symm)), trivial⟩))))⟩
    ·have hsg : 0 < ((N : Nat) : Int) - less % ((1000 : Nat) : Int) := Decidable.byContradiction fun e => absurd (sgn_le.2 (show ((N : Nat) : Int) - less % ((1000 : Nat) : Int) ≤ 0 by omega)) h3
     refine awp_skip ?_
     exact ⟨_, ⟨(((N : Nat) : Int) - less % ((1000 : Nat) : Int)).toNat, (by omega), (by omega), trivial, rfl⟩, Wk.trans (Wk.sub (σ' := ⟨[(7, Nv q), (8, Nv c), (11, (Nv (oddA (kinM ((q : Nat) : Int) ((c : Nat) : Int)) (numS a) 60))), (12, (Nv (oddK (kinM ((q : Nat) : Int) ((c : Nat) : Int)) (numS a) 60))), (13, .ref 5 0), (15, .ref 6 0)], [(5, (oZ 31 .i64 ((N : Nat) : Int))), (6, (oZ 31 .i64 (((N : Nat) : Int) - (less % ((1000 : Nat) : Int)))))]⟩) ⟨rfl, rfl, rfl, rfl, rfl, rfl, trivial⟩ ⟨rfl, rfl, trivial⟩) (Wk.trans (Wk.ren (id := 6) (id' := 900) rfl) (Wk.trans (Wk.ren (id := 5) (id' := 4) rfl) (Wk.trans (Wk.ren (id := 900) (id' := 5) rfl) (Wk.sub ⟨rfl, rfl, rfl, rfl, (by first | rfl | simp), (by first | rfl | simp), trivial⟩ ⟨(by first | rfl | (exact congrArg (fun q : Int => (some (.var 31 [bp (q < 0), .sl 1 (ns .i64 (digs q.natAbs))]) : Option AO)) (Int.toNat_of_nonneg (by omega)).symm)), (by first | rfl | (exact congrArg (fun q : Int => (some (.var 31 [bp (q < 0), .sl 1 (ns .i64 (digs q.natAbs))]) : Option AO)) (Int.toNat_of_nonneg (by omega)).symm)), trivial⟩))))⟩
   rintro _ ⟨M, hm1, hm2, -, rfl⟩
   refine awp_seq fun K14 hK14 => ?_
   obtain ⟨w1, w2, w3, w4⟩ := sz_601 (q := q) (c := c) (N := M) hbb (Nat.lt_of_le_of_lt hm2 n2) (by omega) (by omega)
   have w5 : (digs ((M : Nat) : Int).natAbs).length ≤ 601 := w3
   have hF2 := hF M hm1 hm2
   have hmw := Nat.mul_le_mul (show oddA (kinM ((q : Nat) : Int) ((c : Nat) : Int)) (numS a) 60 ≤ 60 by omega) w1
   refine awp_region rfl (o_mv (Nv q) rfl (o_mv (Nv c) rfl ?_))
   refine o_loadA [(bp (((N : Nat) : Int) < 0)), (.sl 1 (ns .i64 (digs ((N : Nat) : Int).natAbs)))] gn f58_ rfl rfl rfl rfl rfl ?_
   refine o_ct (c_rText ((N : Nat) : Int) (by first | omega | assumption | (simp only [Int.natAbs_neg]; omega))) gn f125_ rfl ?_
   refine n_as (v' := (Sv (txt ((N : Nat) : Int)))) (by rfl) ?_
   refine o_mv (Nv (oddA (kinM ((q : Nat) : Int) ((c : Nat) : Int)) (numS a) 60)) rfl (o_mv (Nv (oddK (kinM ((q : Nat) : Int) ((c : Nat) : Int)) (numS a) 60)) rfl ?_)
   refine o_ct (c_bFits q c N (oddA (kinM ((q : Nat) : Int) ((c : Nat) : Int)) (numS a) 60) (oddK (kinM ((q : Nat) : Int) ((c : Nat) : Int)) (numS a) 60) hk (by omega) s2 (by omega) (by omega) (by omega) (by omega) (by omega)) gn f126_ rfl ?_
   refine o_mv (.tup [(bp (FitB q c N (oddA (kinM ((q : Nat) : Int) ((c : Nat) : Int)) (numS a) 60) (oddK (kinM ((q : Nat) : Int) ((c : Nat) : Int)) (numS a) 60))), Nv 0]) rfl (o_extract (bp (FitB q c N (oddA (kinM ((q : Nat) : Int) ((c : Nat) : Int)) (numS a) 60) (oddK (kinM ((q : Nat) : Int) ((c : Nat) : Int)) (numS a) 60))) gn rfl rfl ?_)
   refine n_as (v' := Tv) (by exact bp6y hF1) ?_
   refine o_extract (Nv 0) gn rfl rfl (o_as Tv rfl (o_as (Nv 0) rfl (aops_end (hK14 _ (awp_seq fun K15 hK15 => awp_region rfl (o_mv (Nv q) rfl (o_mv (Nv c) rfl ?_)))))))
   refine o_loadA [(bp (((M : Nat) : Int) < 0)), (.sl 1 (ns .i64 (digs ((M : Nat) : Int).natAbs)))] gn f58_ rfl rfl rfl rfl rfl ?_
   refine o_ct (c_rText ((M : Nat) : Int) (by first | omega | assumption | (simp only [Int.natAbs_neg]; omega))) gn f125_ rfl ?_
   refine o_mv (Nv (oddA (kinM ((q : Nat) : Int) ((c : Nat) : Int)) (numS a) 60)) rfl (o_mv (Nv (oddK (kinM ((q : Nat) : Int) ((c : Nat) : Int)) (numS a) 60)) rfl ?_)
   refine o_ct (c_bFits q c M (oddA (kinM ((q : Nat) : Int) ((c : Nat) : Int)) (numS a) 60) (oddK (kinM ((q : Nat) : Int) ((c : Nat) : Int)) (numS a) 60) hk (by omega) w2 (by omega) (by omega) (by omega) (by omega) (by omega)) gn f126_ rfl ?_
   refine o_mv (.tup [(bp (FitB q c M (oddA (kinM ((q : Nat) : Int) ((c : Nat) : Int)) (numS a) 60) (oddK (kinM ((q : Nat) : Int) ((c : Nat) : Int)) (numS a) 60))), Nv 0]) rfl (o_extract (bp (FitB q c M (oddA (kinM ((q : Nat) : Int) ((c : Nat) : Int)) (numS a) 60) (oddK (kinM ((q : Nat) : Int) ((c : Nat) : Int)) (numS a) 60))) gn rfl rfl ?_)
   refine n_as (v' := Tv) (by exact bp6y hF2) ?_
   refine o_extract (Nv 0) gn rfl rfl (o_as Tv rfl (o_as (Nv 0) rfl (aops_end (hK15 _ (awp_seq fun K16 hK16 => awp_region rfl (o_mv (Nv q) rfl (o_mv (Nv c) rfl ?_)))))))
   refine o_loadA [(bp (((N : Nat) : Int) < 0)), (.sl 1 (ns .i64 (digs ((N : Nat) : Int).natAbs)))] gn f58_ rfl rfl rfl rfl rfl ?_
   refine o_ct (c_rText ((N : Nat) : Int) (by first | omega | assumption | (simp only [Int.natAbs_neg]; omega))) gn f125_ rfl ?_
   refine o_mv (Nv (oddA (kinM ((q : Nat) : Int) ((c : Nat) : Int)) (numS a) 60)) rfl ?_
   refine o_ct (c_bLeast q c N (oddA (kinM ((q : Nat) : Int) ((c : Nat) : Int)) (numS a) 60) hk (by omega) s2 (by omega) (by omega) (by omega)) gn f115_ rfl ?_
   refine o_mv (.tup [(Nv (lsF q c N (oddA (kinM ((q : Nat) : Int) ((c : Nat) : Int)) (numS a) 60))), (Nv (if lsF q c N (oddA (kinM ((q : Nat) : Int) ((c : Nat) : Int)) (numS a) 60) = 0 then 0 else Mw.bits (q ^ (lsF q c N (oddA (kinM ((q : Nat) : Int) ((c : Nat) : Int)) (numS a) 60))))), (Nv (if lsF q c N (oddA (kinM ((q : Nat) : Int) ((c : Nat) : Int)) (numS a) 60) = 0 then 4 else 0))]) rfl (o_extract (Nv (lsF q c N (oddA (kinM ((q : Nat) : Int) ((c : Nat) : Int)) (numS a) 60))) gn rfl rfl (o_extract (Nv (if lsF q c N (oddA (kinM ((q : Nat) : Int) ((c : Nat) : Int)) (numS a) 60) = 0 then 0 else Mw.bits (q ^ (lsF q c N (oddA (kinM ((q : Nat) : Int) ((c : Nat) : Int)) (numS a) 60))))) gn rfl rfl (o_extract (Nv (if lsF q c N (oddA (kinM ((q : Nat) : Int) ((c : Nat) : Int)) (numS a) 60) = 0 then 4 else 0)) gn rfl rfl ?_)))
   refine n_as (v' := (Nv 0)) (by exact congrArg (nm _) (if_neg (by rcases lsF_spec (q := q) (c := c) (N := N) (a := oddA (kinM ((q : Nat) : Int) ((c : Nat) : Int)) (numS a) 60) with e | e; exact absurd hL1 (lsF_zero e _ a1 (Nat.le_refl _)); omega))) ?_
   refine o_as (Nv (lsF q c N (oddA (kinM ((q : Nat) : Int) ((c : Nat) : Int)) (numS a) 60))) rfl (o_as (Nv (if lsF q c N (oddA (kinM ((q : Nat) : Int) ((c : Nat) : Int)) (numS a) 60) = 0 then 0 else Mw.bits (q ^ (lsF q c N (oddA (kinM ((q : Nat) : Int) ((c : Nat) : Int)) (numS a) 60))))) rfl (o_as (Nv 0) rfl (aops_end (hK16 _ (awp_seq fun K17 hK17 => awp_region rfl (o_mv (Nv q) rfl (o_mv (Nv c) rfl (o_mv (Nv (oddA (kinM ((q : Nat) : Int) ((c : Nat) : Int)) (numS a) 60)) rfl ?_))))))))
   refine o_ct (c_bBelow q c (oddA (kinM ((q : Nat) : Int) ((c : Nat) : Int)) (numS a) 60) hk a1 (by omega)) gn f127_ rfl ?_
   refine o_mv (.tup [(Sv (txt ((blN q c (oddA (kinM ((q : Nat) : Int) ((c : Nat) : Int)) (numS a) 60) : Nat) : Int))), Nv 0]) rfl (o_extract (Sv (txt ((blN q c (oddA (kinM ((q : Nat) : Int) ((c : Nat) : Int)) (numS a) 60) : Nat) : Int))) gn rfl rfl (o_extract (Nv 0) gn rfl rfl (o_as (Sv (txt ((blN q c (oddA (kinM ((q : Nat) : Int) ((c : Nat) : Int)) (numS a) 60) : Nat) : Int))) rfl (o_as (Nv 0) rfl (aops_end (hK17 _ (awp_seq fun K18 hK18 => awp_seq fun K19 hK19 => awp_regionD rfl (o_mv (Nv 0) rfl ?_))))))))
   refine n_neq 0 0 gn rfl rfl ?_
   refine o_mv (bp (0 ≠ 0)) rfl ?_
   refine o_move (Nv 0) (Gd.yes rfl rfl (decide_eq_false (by decide))) rfl ?_
   refine n_neq 0 0 (Gd.yes rfl rfl (decide_eq_false (by decide))) rfl rfl ?_
   refine o_pickF (bp (0 ≠ 0)) gn rfl (decide_eq_false (by decide)) rfl ?_
   refine o_mv (bp (0 ≠ 0)) rfl ?_
   refine o_move (Nv 0) (Gd.yes rfl rfl (decide_eq_false (by decide))) rfl ?_
   refine n_neq 0 0 (Gd.yes rfl rfl (decide_eq_false (by decide))) rfl rfl ?_
   refine o_pickF (bp (0 ≠ 0)) gn rfl (decide_eq_false (by decide)) rfl ?_
   refine o_mv (bp (0 ≠ 0)) rfl ?_
   refine o_move (Nv 0) (Gd.yes rfl rfl (decide_eq_false (by decide))) rfl ?_
   refine n_neq 0 0 (Gd.yes rfl rfl (decide_eq_false (by decide))) rfl rfl ?_
   refine o_pickF (bp (0 ≠ 0)) gn rfl (decide_eq_false (by decide)) rfl ?_
   refine o_mv (bp (0 ≠ 0)) rfl ?_
   refine o_move Tv (Gd.yes rfl rfl (decide_eq_false (by decide))) rfl ?_
   refine o_not (b := true) (Gd.yes rfl rfl (decide_eq_false (by decide))) rfl ?_
   refine o_pickF Fv gn rfl (decide_eq_false (by decide)) rfl ?_
   refine o_mv Fv rfl (o_move Tv (Gd.yes rfl rfl rfl) rfl ?_)
   refine o_not (b := true) (Gd.yes rfl rfl rfl) rfl ?_
   refine o_pickF Fv gn rfl rfl rfl ?_
   refine o_mv Fv rfl (o_move (Nv (lsF q c N (oddA (kinM ((q : Nat) : Int) ((c : Nat) : Int)) (numS a) 60))) (Gd.yes rfl rfl rfl) rfl (o_move (Nv (oddA (kinM ((q : Nat) : Int) ((c : Nat) : Int)) (numS a) 60)) (Gd.yes rfl rfl rfl) rfl ?_))
   refine n_gtr (lsF q c N (oddA (kinM ((q : Nat) : Int) ((c : Nat) : Int)) (numS a) 60)) (oddA (kinM ((q : Nat) : Int) ((c : Nat) : Int)) (numS a) 60) (Gd.yes rfl rfl rfl) rfl rfl ?_
   refine n_as (v' := Fv) (by exact bp6n (by rcases lsF_spec (q := q) (c := c) (N := N) (a := oddA (kinM ((q : Nat) : Int) ((c : Nat) : Int)) (numS a) 60) with e | e <;> omega)) ?_
   refine o_pickF Fv gn rfl rfl rfl ?_
   refine o_mv Fv rfl (o_move (Sv (txt ((blN q c (oddA (kinM ((q : Nat) : Int) ((c : Nat) : Int)) (numS a) 60) : Nat) : Int))) (Gd.yes rfl rfl rfl) rfl ?_)
   refine o_ct (c_rValid (txt ((blN q c (oddA (kinM ((q : Nat) : Int) ((c : Nat) : Int)) (numS a) 60) : Nat) : Int)) (by first | assumption | decide | omega)) (Gd.yes rfl rfl rfl) f110_ rfl ?_
   refine n_as (v' := Tv) (by exact congrArg (fun b => AV.lit (.bool b)) vS2) ?_
   refine o_not (b := true) (Gd.yes rfl rfl rfl) rfl ?_
   refine o_pickF Fv gn rfl rfl rfl ?_
   refine o_mv Fv rfl ?_
   refine o_loadA [(bp (((N : Nat) : Int) < 0)), (.sl 1 (ns .i64 (digs ((N : Nat) : Int).natAbs)))] (Gd.yes rfl rfl rfl) f58_ rfl rfl rfl rfl rfl ?_
   refine o_move (Sv (txt ((blN q c (oddA (kinM ((q : Nat) : Int) ((c : Nat) : Int)) (numS a) 60) : Nat) : Int))) (Gd.yes rfl rfl rfl) rfl ?_
   refine o_ct (c_rParse (txt ((blN q c (oddA (kinM ((q : Nat) : Int) ((c : Nat) : Int)) (numS a) 60) : Nat) : Int)) (by first | assumption | exact okS_iff.1 (by assumption))) (Gd.yes rfl rfl rfl) f121_ rfl ?_
   refine n_as (v' := (intR ((blN q c (oddA (kinM ((q : Nat) : Int) ((c : Nat) : Int)) (numS a) 60) : Nat) : Int))) (by exact congrArg intR (numS_txt _)) ?_
   refine o_ct (c_rCmp ((N : Nat) : Int) ((blN q c (oddA (kinM ((q : Nat) : Int) ((c : Nat) : Int)) (numS a) 60) : Nat) : Int)) (Gd.yes rfl rfl rfl) f113_ rfl ?_
   refine o_gtr (a := (cmpZ ((N : Nat) : Int) ((blN q c (oddA (kinM ((q : Nat) : Int) ((c : Nat) : Int)) (numS a) 60) : Nat) : Int))) (c := ((0 : Nat) : Int)) (Gd.yes rfl rfl rfl) rfl rfl ?_
   refine n_as (v' := Fv) (by exact bp6n (fun e => cmp_le (by omega) e)) ?_
   refine o_pickF Fv gn rfl rfl rfl ?_
   refine aops_end ⟨by kernel_rfl, ?_⟩
   refine hK19 _ ?_
   refine awp_condB (b := false) rfl (fun hh => absurd (hh.symm.trans rfl) (by decide)) (fun _ => ?_)
   refine awp_skip (hK18 _ (awp_seq fun K20 hK20 => awp_seq fun K21 hK21 => awp_region rfl (o_mv (Nv (oddA (kinM ((q : Nat) : Int) ((c : Nat) : Int)) (numS a) 60)) rfl ?_)))
   refine n_gtr (oddA (kinM ((q : Nat) : Int) ((c : Nat) : Int)) (numS a) 60) 1 gn rfl rfl ?_
   refine aops_end (hK21 _ ?_)
   refine awp_condQ (q := 1 < (oddA (kinM ((q : Nat) : Int) ((c : Nat) : Int)) (numS a) 60)) rfl (fun h4 => ?_) (fun h4 => ?_)
   ·refine awp_seq fun K22 hK22 => ?_
    have ha1 : 1 < oddA (kinM ((q : Nat) : Int) ((c : Nat) : Int)) (numS a) 60 := by omega
    obtain ⟨p1, p2, p3⟩ := lsF_pred ha1 hL1
    have hmz2 := Nat.mul_le_mul (show oddA (kinM ((q : Nat) : Int) ((c : Nat) : Int)) (numS a) 60 - 1 ≤ 60 by omega) s1
    refine awp_region rfl (o_mv (Nv q) rfl (o_mv (Nv c) rfl ?_))
    refine o_loadA [(bp (((N : Nat) : Int) < 0)), (.sl 1 (ns .i64 (digs ((N : Nat) : Int).natAbs)))] gn f58_ rfl rfl rfl rfl rfl ?_
    refine o_ct (c_rText ((N : Nat) : Int) (by first | omega | assumption | (simp only [Int.natAbs_neg]; omega))) gn f125_ rfl ?_
    refine o_mv (Nv (oddA (kinM ((q : Nat) : Int) ((c : Nat) : Int)) (numS a) 60)) rfl ?_
    refine n_sub (oddA (kinM ((q : Nat) : Int) ((c : Nat) : Int)) (numS a) 60) 1 gn rfl rfl (by omega) (by simp only [topOf]; omega) ?_
    refine n_as (v' := (Nv (oddA (kinM ((q : Nat) : Int) ((c : Nat) : Int)) (numS a) 60 - 1))) (congrArg (nm _) (by omega)) ?_
    refine o_ct (c_bLeast q c N (oddA (kinM ((q : Nat) : Int) ((c : Nat) : Int)) (numS a) 60 - 1) hk (by omega) s2 (by omega) (by omega) (by omega)) gn f115_ rfl ?_
    refine o_mv (.tup [(Nv (lsF q c N (oddA (kinM ((q : Nat) : Int) ((c : Nat) : Int)) (numS a) 60 - 1))), (Nv (if lsF q c N (oddA (kinM ((q : Nat) : Int) ((c : Nat) : Int)) (numS a) 60 - 1) = 0 then 0 else Mw.bits (q ^ (lsF q c N (oddA (kinM ((q : Nat) : Int) ((c : Nat) : Int)) (numS a) 60 - 1))))), (Nv (if lsF q c N (oddA (kinM ((q : Nat) : Int) ((c : Nat) : Int)) (numS a) 60 - 1) = 0 then 4 else 0))]) rfl (o_extract (Nv (lsF q c N (oddA (kinM ((q : Nat) : Int) ((c : Nat) : Int)) (numS a) 60 - 1))) gn rfl rfl (o_extract (Nv (if lsF q c N (oddA (kinM ((q : Nat) : Int) ((c : Nat) : Int)) (numS a) 60 - 1) = 0 then 0 else Mw.bits (q ^ (lsF q c N (oddA (kinM ((q : Nat) : Int) ((c : Nat) : Int)) (numS a) 60 - 1))))) gn rfl rfl (o_extract (Nv (if lsF q c N (oddA (kinM ((q : Nat) : Int) ((c : Nat) : Int)) (numS a) 60 - 1) = 0 then 4 else 0)) gn rfl rfl (o_as (Nv (lsF q c N (oddA (kinM ((q : Nat) : Int) ((c : Nat) : Int)) (numS a) 60 - 1))) rfl (o_as (Nv (if lsF q c N (oddA (kinM ((q : Nat) : Int) ((c : Nat) : Int)) (numS a) 60 - 1) = 0 then 0 else Mw.bits (q ^ (lsF q c N (oddA (kinM ((q : Nat) : Int) ((c : Nat) : Int)) (numS a) 60 - 1))))) rfl (o_as (Nv (if lsF q c N (oddA (kinM ((q : Nat) : Int) ((c : Nat) : Int)) (numS a) 60 - 1) = 0 then 4 else 0)) rfl (aops_end (hK22 _ (awp_seq fun K23 hK23 => awp_region rfl (o_mv (Nv (if lsF q c N (oddA (kinM ((q : Nat) : Int) ((c : Nat) : Int)) (numS a) 60 - 1) = 0 then 4 else 0)) rfl ?_))))))))))
    refine n_neq (if lsF q c N (oddA (kinM ((q : Nat) : Int) ((c : Nat) : Int)) (numS a) 60 - 1) = 0 then 4 else 0) 0 gn rfl rfl ?_
    refine o_mv (bp ((if lsF q c N (oddA (kinM ((q : Nat) : Int) ((c : Nat) : Int)) (numS a) 60 - 1) = 0 then 4 else 0) ≠ 0)) rfl ?_
    refine o_splitP (q := (if lsF q c N (oddA (kinM ((q : Nat) : Int) ((c : Nat) : Int)) (numS a) 60 - 1) = 0 then 4 else 0) ≠ 0) 169 rfl (fun h5 => ?_) (fun h5 => ?_)
    ·refine o_move (Nv (if lsF q c N (oddA (kinM ((q : Nat) : Int) ((c : Nat) : Int)) (numS a) 60 - 1) = 0 then 4 else 0)) (Gd.yes rfl rfl (decide_eq_true h5)) rfl ?_
     refine n_neq (if lsF q c N (oddA (kinM ((q : Nat) : Int) ((c : Nat) : Int)) (numS a) 60 - 1) = 0 then 4 else 0) 4 (Gd.yes rfl rfl (decide_eq_true h5)) rfl rfl ?_
     refine n_as (v' := Fv) (by exact bp6n (fun e => e (by have e9 : ¬ (if lsF q c N (oddA (kinM ((q : Nat) : Int) ((c : Nat) : Int)) (numS a) 60 - 1) = 0 then 4 else 0) = 0 := (by assumption); by_cases e8 : lsF q c N (oddA (kinM ((q : Nat) : Int) ((c : Nat) : Int)) (numS a) 60 - 1) = 0; exact if_pos e8; exact absurd (if_neg e8) e9))) ?_
     refine o_pickT Fv gn rfl (decide_eq_true h5) rfl ?_
     refine o_mv Fv rfl (o_move (Nv (if lsF q c N (oddA (kinM ((q : Nat) : Int) ((c : Nat) : Int)) (numS a) 60 - 1) = 0 then 4 else 0)) (Gd.yes rfl rfl rfl) rfl ?_)
     refine n_eql (if lsF q c N (oddA (kinM ((q : Nat) : Int) ((c : Nat) : Int)) (numS a) 60 - 1) = 0 then 4 else 0) 4 (Gd.yes rfl rfl rfl) rfl rfl ?_
     refine o_move (Nv (lsF q c N (oddA (kinM ((q : Nat) : Int) ((c : Nat) : Int)) (numS a) 60))) (Gd.yes rfl rfl rfl) rfl (o_move (Nv (oddA (kinM ((q : Nat) : Int) ((c : Nat) : Int)) (numS a) 60)) (Gd.yes rfl rfl rfl) rfl ?_)
     refine n_eql (lsF q c N (oddA (kinM ((q : Nat) : Int) ((c : Nat) : Int)) (numS a) 60)) (oddA (kinM ((q : Nat) : Int) ((c : Nat) : Int)) (numS a) 60) (Gd.yes rfl rfl rfl) rfl rfl ?_
     refine o_neqB (a := (decide ((if lsF q c N (oddA (kinM ((q : Nat) : Int) ((c : Nat) : Int)) (numS a) 60 - 1) = 0 then 4 else 0) = 4))) (c := (decide ((lsF q c N (oddA (kinM ((q : Nat) : Int) ((c : Nat) : Int)) (numS a) 60)) = (oddA (kinM ((q : Nat) : Int) ((c : Nat) : Int)) (numS a) 60)))) (Gd.yes rfl rfl rfl) rfl rfl f29_ ?_
     refine n_as (v' := Fv) (by exact bp6n (fun h => h (decide_eq_decide.2 (err_iff ha1 hL1)))) ?_
     refine o_pickF Fv gn rfl rfl rfl ?_
     refine aops_end (hK23 _ ?_)
     refine awp_condB (b := false) rfl (fun hh => absurd (hh.symm.trans rfl) (by decide)) (fun _ => ?_)
     refine awp_skip (hK20 _ (awp_seq fun K24 hK24 => awp_region rfl ?_))
     refine o_ct c_tLimits gn f120_ rfl ?_
     refine o_as Tv rfl (aops_end (hK24 _ ?_))
     refine awp_ret ?_
     refine post_ret ⟨[Tv], ⟨AV.le_refl _, trivial⟩, rfl, ?_⟩
     rfl
    ·refine o_skip rfl rfl (decide_eq_false h5) (o_skip rfl rfl (decide_eq_false h5) ?_)
     refine o_pickF Fv gn rfl (decide_eq_false h5) rfl ?_
     refine o_mv Fv rfl (o_move (Nv (if lsF q c N (oddA (kinM ((q : Nat) : Int) ((c : Nat) : Int)) (numS a) 60 - 1) = 0 then 4 else 0)) (Gd.yes rfl rfl rfl) rfl ?_)
     refine n_eql (if lsF q c N (oddA (kinM ((q : Nat) : Int) ((c : Nat) : Int)) (numS a) 60 - 1) = 0 then 4 else 0) 4 (Gd.yes rfl rfl rfl) rfl rfl ?_
     refine o_move (Nv (lsF q c N (oddA (kinM ((q : Nat) : Int) ((c : Nat) : Int)) (numS a) 60))) (Gd.yes rfl rfl rfl) rfl (o_move (Nv (oddA (kinM ((q : Nat) : Int) ((c : Nat) : Int)) (numS a) 60)) (Gd.yes rfl rfl rfl) rfl ?_)
     refine n_eql (lsF q c N (oddA (kinM ((q : Nat) : Int) ((c : Nat) : Int)) (numS a) 60)) (oddA (kinM ((q : Nat) : Int) ((c : Nat) : Int)) (numS a) 60) (Gd.yes rfl rfl rfl) rfl rfl ?_
     refine o_neqB (a := (decide ((if lsF q c N (oddA (kinM ((q : Nat) : Int) ((c : Nat) : Int)) (numS a) 60 - 1) = 0 then 4 else 0) = 4))) (c := (decide ((lsF q c N (oddA (kinM ((q : Nat) : Int) ((c : Nat) : Int)) (numS a) 60)) = (oddA (kinM ((q : Nat) : Int) ((c : Nat) : Int)) (numS a) 60)))) (Gd.yes rfl rfl rfl) rfl rfl f29_ ?_
     refine n_as (v' := Fv) (by exact bp6n (fun h => h (decide_eq_decide.2 (err_iff ha1 hL1)))) ?_
     refine o_pickF Fv gn rfl rfl rfl ?_
     refine aops_end (hK23 _ ?_)
     refine awp_condB (b := false) rfl (fun hh => absurd (hh.symm.trans rfl) (by decide)) (fun _ => ?_)
     refine awp_skip (hK20 _ (awp_seq fun K25 hK25 => awp_region rfl ?_))
     refine o_ct c_tLimits gn f120_ rfl ?_
     refine o_as Tv rfl (aops_end (hK25 _ ?_))
     refine awp_ret ?_
     refine post_ret ⟨[Tv], ⟨AV.le_refl _, trivial⟩, rfl, ?_⟩
     rfl
   ·refine awp_skip (hK20 _ (awp_seq fun K26 hK26 => awp_region rfl ?_))
    refine o_ct c_tLimits gn f120_ rfl ?_
    refine o_as Tv rfl (aops_end (hK26 _ ?_))
    refine awp_ret ?_
    refine post_ret ⟨[Tv], ⟨AV.le_refl _, trivial⟩, rfl, ?_⟩
    rfl

theorem c_TopLong_n (q c : Int) (a : ByteArray) (less : Int) (hk : ¬ (kinOk q c ∧ 3 ≤ q ∧ 1 ≤ c)) (hsz0 : a.size ≤ 9223372036854775807) : ECalls cx 3 [.agg [Iv q, Iv c], Sv a, Iv less] (.lit (.bool true)) := by
 refine ecalls_of_awp Try.func3 (c := _) rfl (Nat.le_of_ble_eq_true rfl) ?_
 show awp cx 182 _ (postF cx Try.f3 _) ⟨[(0, .agg [Iv q, Iv c]), (1, Sv a), (2, Iv less)], []⟩
 refine awp_seq fun K0 hK0 => awp_region rfl ?_
 refine o_box 2 [Iv q, Iv c] gn rfl rfl ?_
 refine o_as Fv rfl (aops_end (hK0 _ (awp_seq fun K1 hK1 => awp_regionD rfl ?_)))
 refine n_indexArr 0 0 gn f116_ rfl rfl (by omega) (by first | rfl | simp) ?_
 refine o_loadS (Iv q) gn f55_ rfl rfl rfl ?_
 refine n_indexArr 1 1 gn f116_ rfl rfl (by omega) (by first | rfl | simp) ?_
 refine o_loadS (Iv c) gn f55_ rfl rfl rfl ?_
 refine o_as (Iv q) rfl (o_as (Iv c) rfl ?_)
 refine aops_end ⟨by kernel_rfl, ?_⟩
 refine hK1 _ (awp_seq fun K2 hK2 => awp_region rfl (o_mv (Iv q) rfl (o_mv (Iv c) rfl ?_)))
 refine o_ct (c_gKin q c) gn f117_ rfl ?_
 refine o_mv (.tup [mapV (if kinOk q c then kinM q c else noM), bp (kinOk q c)]) rfl (o_extract (mapV (if kinOk q c then kinM q c else noM)) gn rfl rfl (o_extract (bp (kinOk q c)) gn rfl rfl ?_))
 refine o_alloc 3 [Nv 0, Zv, Zv] gn f77_ rfl rfl rfl ?_
 refine o_store [(3, oM 25 (if kinOk q c then kinM q c else noM)), (2, .var 22 [Iv q, Iv c])] gn f79_ rfl rfl rfl rfl rfl rfl ?_
 refine o_as (bp (kinOk q c)) rfl (aops_end (hK2 _ (awp_seq fun K3 hK3 => awp_seq fun K4 hK4 => awp_region rfl (o_mv (bp (kinOk q c)) rfl ?_))))
 refine o_notP (q := kinOk q c) gn rfl ?_
 refine o_mv (bp (¬ (kinOk q c))) rfl ?_
 refine o_splitP (q := ¬ (kinOk q c)) 40 rfl (fun h1 => ?_) (fun h1 => ?_)
 ·refine o_skip rfl rfl (decide_eq_true h1) (o_skip rfl rfl (decide_eq_true h1) ?_)
  refine o_pickT Tv gn rfl (decide_eq_true h1) rfl ?_
  refine o_mv Tv rfl (o_skip rfl rfl rfl (o_skip rfl rfl rfl ?_))
  refine o_pickT Tv gn rfl rfl rfl ?_
  refine o_mv Tv rfl (o_skip rfl rfl rfl (o_skip rfl rfl rfl (o_skip rfl rfl rfl (o_skip rfl rfl rfl ?_))))
  refine o_pickT Tv gn rfl rfl rfl ?_
  refine aops_end (hK4 _ ?_)
  refine awp_condB (b := true) rfl (fun _ => ?_) (fun hh => absurd (hh.symm.trans rfl) (by decide))
  refine awp_seq fun K5 hK5 => awp_region rfl ?_
  refine o_ct c_tLimits gn f120_ rfl ?_
  refine o_as Tv rfl (aops_end (hK5 _ ?_))
  refine awp_ret ?_
  refine post_ret ⟨[Tv], ⟨AV.le_refl _, trivial⟩, rfl, ?_⟩
  rfl
 ·refine o_move (Iv q) (Gd.yes rfl rfl (decide_eq_false h1)) rfl ?_
  refine o_lss (a := q) (c := ((3 : Nat) : Int)) (Gd.yes rfl rfl (decide_eq_false h1)) rfl rfl ?_
  refine o_pickF (bp (q < ((3 : Nat) : Int))) gn rfl (decide_eq_false h1) rfl ?_
  refine o_mv (bp (q < ((3 : Nat) : Int))) rfl ?_
  refine o_splitP (q := q < ((3 : Nat) : Int)) 44 rfl (fun h2 => ?_) (fun h2 => ?_)
  ·refine o_skip rfl rfl (decide_eq_true h2) (o_skip rfl rfl (decide_eq_true h2) ?_)
   refine o_pickT Tv gn rfl (decide_eq_true h2) rfl ?_
   refine o_mv Tv rfl (o_skip rfl rfl rfl (o_skip rfl rfl rfl (o_skip rfl rfl rfl (o_skip rfl rfl rfl ?_))))
   refine o_pickT Tv gn rfl rfl rfl ?_
   refine aops_end (hK4 _ ?_)
   refine awp_condB (b := true) rfl (fun _ => ?_) (fun hh => absurd (hh.symm.trans rfl) (by decide))
   refine awp_seq fun K6 hK6 => awp_region rfl ?_
   refine o_ct c_tLimits gn f120_ rfl ?_
   refine o_as Tv rfl (aops_end (hK6 _ ?_))
   refine awp_ret ?_
   refine post_ret ⟨[Tv], ⟨AV.le_refl _, trivial⟩, rfl, ?_⟩
   rfl
  ·refine o_move (Iv c) (Gd.yes rfl rfl (decide_eq_false h2)) rfl ?_
   refine o_lss (a := c) (c := ((1 : Nat) : Int)) (Gd.yes rfl rfl (decide_eq_false h2)) rfl rfl ?_
   refine o_pickF (bp (c < ((1 : Nat) : Int))) gn rfl (decide_eq_false h2) rfl ?_
   refine o_mv (bp (c < ((1 : Nat) : Int))) rfl ?_
   refine o_splitP (q := c < ((1 : Nat) : Int)) 48 rfl (fun h3 => ?_) (fun h3 => ?_)
   ·refine o_skip rfl rfl (decide_eq_true h3) (o_skip rfl rfl (decide_eq_true h3) (o_skip rfl rfl (decide_eq_true h3) (o_skip rfl rfl (decide_eq_true h3) ?_)))
    refine o_pickT Tv gn rfl (decide_eq_true h3) rfl ?_
    refine aops_end (hK4 _ ?_)
    refine awp_condB (b := true) rfl (fun _ => ?_) (fun hh => absurd (hh.symm.trans rfl) (by decide))
    refine awp_seq fun K7 hK7 => awp_region rfl ?_
    refine o_ct c_tLimits gn f120_ rfl ?_
    refine o_as Tv rfl (aops_end (hK7 _ ?_))
    refine awp_ret ?_
    refine post_ret ⟨[Tv], ⟨AV.le_refl _, trivial⟩, rfl, ?_⟩
    rfl
   ·refine o_move (Sv a) (Gd.yes rfl rfl (decide_eq_false h3)) rfl ?_
    refine o_buildSlice 4 (sbs ([a])) [(0, [Sv a])] (Gd.yes rfl rfl (decide_eq_false h3)) f108_ rfl f118_ rfl rfl rfl rfl rfl rfl rfl ?_
    refine o_callG [(4, 1, sbs ([a]))] [.sl 1 (sbs ([a]))] _ (bp (ShortS [a])) [(3, oM 25 (if kinOk q c then kinM q c else noM)), (2, .var 22 [Iv q, Iv c])] (Gd.yes rfl rfl (decide_eq_false h3)) f119_ rfl ⟨⟨_, rfl⟩, trivial⟩ rfl rfl (LeL.cons (AV.le_refl _) LeL.nil) (c_tShort [a] (by simp) (fun x hx => by rw [List.mem_singleton.1 hx]; exact hsz0)) rfl ?_
    refine o_notP (q := ShortS [a]) (Gd.yes rfl rfl (decide_eq_false h3)) rfl ?_
    refine o_pickF (bp (¬ (ShortS [a]))) gn rfl (decide_eq_false h3) rfl ?_
    refine aops_end (hK4 _ ?_)
    refine awp_condQ (q := ¬ (ShortS [a])) rfl (fun h4 => ?_) (fun h4 => ?_)
    ·refine awp_seq fun K8 hK8 => awp_region rfl ?_
     refine o_ct c_tLimits gn f120_ rfl ?_
     refine o_as Tv rfl (aops_end (hK8 _ ?_))
     refine awp_ret ?_
     refine post_ret ⟨[Tv], ⟨AV.le_refl _, trivial⟩, rfl, ?_⟩
     rfl
    ·exact (hk ⟨Decidable.not_not.1 (by assumption), by omega, by omega⟩).elim

end Go.Proofs.Ytaeknciienkijaa

namespace Go.Proofs.Ytaeknciienkijaa.topLong
open Go Go.Ab Go.Mth Go.ChangeShapes Go.WideShapes Go.ChangeAt Go.RowKit
theorem c_TopLong (q c : Int) (a : ByteArray) (less : Int) (hsz : a.size ≤ 9223372036854775807) (hb : -9223372036854775808 ≤ less ∧ less ≤ 9223372036854775807) : ECalls cx 3 [(.agg [.lit (.int .i64 q), .lit (.int .i64 c)]), (.lit (.string a)), (.lit (.int .i64 less))] (.lit (.bool true)) := by
 by_cases h : kinOk q c ∧ 3 ≤ q ∧ 1 ≤ c
 ·have hk := kinB_of h.1 h.2.1 h.2.2
  obtain ⟨Q, rfl⟩ : ∃ Q : Nat, q = (Q : Int) := ⟨q.toNat, by have := hk.1; omega⟩
  obtain ⟨C, rfl⟩ : ∃ C : Nat, c = (C : Int) := ⟨c.toNat, by have := h.2.2; omega⟩
  exact c_TopLong_y Q C a less hk hsz hb
 ·exact c_TopLong_n q c a less h hsz
theorem reads (os : Os) {H : Type} (enc : TypeId × Value → H) : ∃ places, DataW.whole enc Try.prog ((World.laidAll Try.prog os []).forCall (fun _ _ => 0) ⟨#[], #[.agg #[.int .i64 0, .int .i64 0], .string ByteArray.empty, .int .i64 0], []⟩).memory Try.f3.params.toList Rows.topLongSpec.vars false (#[.agg #[.int .i64 0, .int .i64 0], .string ByteArray.empty, .int .i64 0] : Array Value).toList 8 = some ([.agg [.lit (.int .i64 0), .lit (.int .i64 0)], .lit (.string []), .lit (.int .i64 0)], [], places) := ⟨[], by kernel_rfl⟩
theorem met (os : Os) : laidMetH Try.prog [] ((World.laidAll Try.prog os []).forCall (fun _ _ => 0) ⟨#[], #[.agg #[.int .i64 0, .int .i64 0], .string ByteArray.empty, .int .i64 0], []⟩).memory := (MakeChecks.laidMetH_plain _ _ _ (by kernel_rfl)).mpr (laidMet_laidAll _ (by kernel_rfl) (by kernel_rfl))
theorem specs {H : Type} (ds : List (DataW H)) (h : ds.length = 3) : (Rows.topLongSpec.fn H ds).results = [.lit (.bool true)] ∧ (Rows.topLongSpec.fn H ds).args = ds ∧ (Rows.topLongSpec.fn H ds).vars = [] := by
 rcases ds with _ | ⟨d0, _ | ⟨d1, _ | ⟨d2, _ | ⟨e, t⟩⟩⟩⟩ <;> simp at h <;> exact ⟨rfl, rfl, rfl⟩
set_option maxRecDepth 100000 in
theorem opened {H : Type} (enc : TypeId × Value → H) (W : World) (base : Nat) (args : Array Value) (ds : List (DataW H)) (ps : List MemPlace) (hval : ∀ (j : Nat) t v, (#[22, 9, 3] : Array TypeId)[j]? = some t → args[j]? = some v → Value.okWide Try.prog W .any base t v)
  (hA : DataW.TrodAll enc Try.prog W 0 (fun _ => true) true [22, 9, 3] args.toList ds ps) (hsz : (DataW.weightsEach Try.prog [22, 9, 3] ds).all (· ≤ reachBytes) = true) : ∃ xs, RepL (memOf W) xs noLoc args.toList ∧ ECalls cx 3 xs (.lit (.bool true)) := by
 obtain ⟨v0, vs0, d0, ds0, p0, q0, hargs, rfl, rfl, h0, r0⟩ := trodAll_cons hA
 obtain ⟨v1, vs1, d1, ds1, p1, q1, rfl, rfl, rfl, h1, r1⟩ := trodAll_cons r0
 obtain ⟨v2, vs2, d2, ds2, p2, q2, rfl, rfl, rfl, h2, r2⟩ := trodAll_cons r1
 obtain ⟨rfl, rfl, rfl⟩ := trodAll_nil r2
 obtain rfl : args = #[v0, v1, v2] := by cases args; simp_all
 obtain ⟨q, c, e0⟩ := rep_pair (hval 0 22 v0 rfl rfl) h0
 obtain ⟨a1, e1, b1⟩ := rep_str (hval 1 9 v1 rfl rfl) h1
 obtain ⟨k2, e2, b2⟩ := rep_int (hval 2 3 v2 rfl rfl) h2
 exact ⟨[.agg [.lit (.int .i64 q), .lit (.int .i64 c)], .lit (.string a1), .lit (.int .i64 k2)], RepL.cons e0 (RepL.cons e1 (RepL.cons e2 (by simp only [RepL]))), c_TopLong q c a1 k2 b1 b2⟩
set_option maxRecDepth 100000 in
theorem lifted (os : Os) (started : os.Started) (H : Type) (enc : TypeId × Value → H) (F : Stop.Interp) :
  ReturnsInHanded {} Try.checked os 3 .any ((OpenSpec.ofChange Rows.topLongSpec).preRow enc Try.prog Try.f3 Rows.topLongRow.domain false Rows.topLongRow.laid) (((OpenSpec.ofChange Rows.topLongSpec).at F).post enc Try.prog Try.f3 false true false false) := by
 obtain ⟨places, hx⟩ := reads os enc
 refine lifted_of (C := Try.checked) started cx rfl ownT (by kernel_rfl) Try.func3 (witness_laid #[.agg #[.int .i64 0, .int .i64 0], .string ByteArray.empty, .int .i64 0] (by kernel_rfl) (by kernel_rfl) (by kernel_rfl) (OpenSpec.preRow_of_cond 8 hx (by kernel_rfl) (fun k hk => by cases hk) (by kernel_rfl) (met os))) laidOutT (by kernel_rfl) (tb := 4) (by kernel_rfl) u4T rfl (fun ds h => specs ds (h.trans (by kernel_rfl))) (fun W h => trivial) ?_
 intro W base args ds ps hval hA hsz
 exact opened enc W base args ds ps hval hA hsz
theorem said : Rows.TopLongSaid :=
 OpenClaim.holds_of_cond 3 Try.f3 rfl rfl rfl rfl rfl rfl rfl ⟨rfl, rfl, rfl, rfl, rfl⟩ rfl rfl rfl rfl rfl (by kernel_rfl) Try.func3 (by kernel_rfl)
  (of_decide_eq_true (by kernel_rfl)) (by unfold Func.isWrapper; first | (rw [if_pos (by decide +kernel)]; kernel_rfl) | (rw [if_neg (by decide +kernel)]; exact ⟨rfl, rfl⟩))
  (fun os started H enc _ F => by rw [OpenClaim.pre_eq_preRow]; exact lifted os started H enc F)
end Go.Proofs.Ytaeknciienkijaa.topLong
namespace Go.Proofs.Ytaeknciienkijaa
open Go
theorem topLong_holds : Rows.TopLongSaid := topLong.said
#print axioms topLong_holds
end Go.Proofs.Ytaeknciienkijaa

