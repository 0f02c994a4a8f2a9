/- The law 'katabasistop.TopCycles' is true for every map, list and string: by a regular map every word that is not empty has a cycle of fractions, which is found, and every integer that comes back to itself after at most the number of steps that is searched is a number of exactly one of the loops that are found. Its condition: none but the row's own (the listed tables of the library). -/
import Derived.Test.YtdmkejloknejdaaGreatDoorPkTopCyclese
set_option linter.unusedVariables false
set_option linter.unusedSimpArgs false
namespace Go.Proofs.YtdmkejloknejdaaGreatDoor
open Go Go.Ab Go.Mth
theorem f149_ : cx.P.underlying 36 = some (.slice 9) := by kernel_rfl
theorem f150_ : tySc cx.P 9 = true := by kernel_rfl
theorem f151_ : callable cx.P 25 = true := by kernel_rfl
theorem f152_ : callable cx.P 77 = true := by kernel_rfl
theorem f153_ : callable cx.P 27 = true := by kernel_rfl
theorem f154_ : callable cx.P 76 = true := by kernel_rfl
theorem f155_ : callable cx.P 42 = true := by kernel_rfl
theorem f156_ : callable cx.P 19 = true := by kernel_rfl
theorem f157_ : callable cx.P 10 = true := by kernel_rfl
theorem f158_ : cx.P.underlying 26 = some (.slice 38) := by kernel_rfl
theorem f159_ : callable cx.P 12 = true := by kernel_rfl
theorem f160_ : callable cx.P 34 = true := by kernel_rfl
theorem f161_ : callable cx.P 14 = true := by kernel_rfl
theorem f162_ : callable cx.P 33 = true := by kernel_rfl
theorem f163_ : callable cx.P 35 = true := by kernel_rfl
theorem f164_ : callable cx.P 26 = true := by kernel_rfl
theorem f165_ : callable cx.P 36 = true := by kernel_rfl
theorem f166_ : tyField cx.P 38 0 = some (0, 36) := by kernel_rfl
theorem f167_ : tySc cx.P 36 = true := by kernel_rfl
theorem f168_ : callable cx.P 37 = true := by kernel_rfl
theorem f169_ : callable cx.P 38 = true := by kernel_rfl
theorem f170_ : callable cx.P 29 = true := by kernel_rfl
theorem f171_ : cx.P.underlying 63 = some (.slice 45) := by kernel_rfl
theorem f172_ : tyField cx.P 45 0 = some (0, 9) := by kernel_rfl
theorem f173_ : tyField cx.P 45 1 = some (1, 9) := by kernel_rfl
theorem f174_ : callable cx.P 41 = true := by kernel_rfl
theorem f175_ : callable cx.P 32 = true := by kernel_rfl
theorem c_tWrapped (i : Int) (n : Nat) (hi : -9223372036854775808 ≤ i) (hi2 : i ≤ 9223372036854775807) (hn : 0 < n) (hn2 : n ≤ 100000000) : ECalls cx 77 [Iv i, Nv n] (.lit (.int .i64 (i % (n : Int)))) := by
 refine ecalls_of_awp Tryz.func77 (c := _) rfl (Nat.le_of_ble_eq_true rfl) ?_
 show awp cx 12 _ (postF cx Tryz.f77 _) ⟨[(0, Iv i), (1, Nv n)], []⟩
 have hw := wrap_bd i hn
 refine awp_seq fun K0 hK0 => awp_region rfl (o_as (Nv 0) rfl (aops_end (hK0 _ (awp_seq fun K1 hK1 => awp_region rfl (o_mv (Iv i) rfl (o_mv (Nv n) rfl ?_))))))
 refine o_remT (a := i) (c := ((n : Nat) : Int)) gn rfl rfl (by omega) ?_
 refine o_mv (Nv n) rfl ?_
 refine o_add (a := (Int.tmod i ((n : Nat) : Int))) (c := ((n : Nat) : Int)) gn rfl rfl (by exact wrap64 (by omega) (by omega)) ?_
 refine o_mv (Nv n) rfl ?_
 refine o_remT (a := ((Int.tmod i ((n : Nat) : Int)) + ((n : Nat) : Int))) (c := ((n : Nat) : Int)) gn rfl rfl (by omega) ?_
 refine o_as (Iv (Int.tmod ((Int.tmod i ((n : Nat) : Int)) + ((n : Nat) : Int)) ((n : Nat) : Int))) rfl (aops_end (hK1 _ ?_))
 refine awp_ret ?_
 refine post_ret ⟨[(Iv (Int.tmod ((Int.tmod i ((n : Nat) : Int)) + ((n : Nat) : Int)) ((n : Nat) : Int)))], ⟨AV.le_refl _, trivial⟩, rfl, ?_⟩
 exact congrArg (fun z => AV.lit (.int .i64 z)) (wrap_eq i hn).symm

theorem c_tShort (l : List ByteArray) (hl : l.length ≤ 17592186044416) (hs : ∀ a ∈ l, a.size ≤ 9223372036854775807) : ECalls cx 33 [.sl 1 (sbs l)] (bp (ShortS l)) := by
 refine ecalls_of_awp Tryz.func33 (c := _) rfl (Nat.le_of_ble_eq_true rfl) ?_
 show awp cx 24 _ (postF cx Tryz.f33 _) ⟨[(0, .sl 1 (sbs l))], []⟩
 refine awp_seq fun K0 hK0 => awp_region rfl (o_as Fv rfl (aops_end (hK0 _ (awp_seq fun K1 hK1 => awp_seq fun K2 hK2 => awp_region rfl (o_as (Nv 0) rfl (aops_end (hK2 _ ?_)))))))
 refine awp_block ?_
 refine awp_loopR (fun κ σ => ∃ (i : Nat), (i ≤ l.length) ∧ (∀ k, k < i → shortB (l.getD k { data := #[] }) = true) ∧ (l.length - i) = κ ∧ σ = ⟨[(0, .sl 1 (sbs l)), (3, Nv i)], []⟩) ⟨_, _, ⟨0, (by omega), (fun k hk => by omega), rfl, rfl⟩, ?wk0⟩ ?rd0
 case wk0 =>
  exact Wk.sub ⟨rfl, (by first | rfl | exact nm_int (by omega)), trivial⟩ trivial
 rintro κ _ ⟨i, hi, hf, rfl, rfl⟩
 refine awp_seq fun K3 hK3 => awp_seq fun K4 hK4 => awp_region rfl (o_mv (Nv i) rfl (o_mv (.sl 1 (sbs l)) rfl ?_))
 refine s_len l gn f149_ rfl ?_
 refine n_lss i (l.length) gn rfl rfl ?_
 refine aops_end (hK4 _ ?_)
 refine awp_condQ (q := i < (l.length)) rfl (fun h1 => ?_) (fun h1 => ?_)
 ·have hsi := hs _ (getD_mem (l := l) (i := i) (d := { data := #[] }) (by omega))
  refine awp_skip (hK3 _ (awp_seq fun K5 hK5 => ?_))
  refine awp_block ?_
  refine awp_seq fun K6 hK6 => awp_region rfl (o_mv (.sl 1 (sbs l)) rfl (o_mv (Nv i) rfl ?_))
  refine s_index l i gn f144_ rfl rfl (by omega) ?_
  refine s_loadI l i gn f150_ rfl (by omega) ?_
  refine n_lenS (l.getD i { data := #[] }) gn rfl f54_ ?_
  refine n_gtr ((l.getD i { data := #[] }).size) 601 gn rfl rfl ?_
  refine o_mv (bp (601 < ((l.getD i { data := #[] }).size))) rfl ?_
  refine o_splitP (q := 601 < ((l.getD i { data := #[] }).size)) 16 rfl (fun h2 => ?_) (fun h2 => ?_)
  ·refine o_skip rfl rfl (decide_eq_true h2) (o_skip rfl rfl (decide_eq_true h2) (o_skip rfl rfl (decide_eq_true h2) (o_skip rfl rfl (decide_eq_true h2) (o_skip rfl rfl (decide_eq_true h2) (o_skip rfl rfl (decide_eq_true h2) ?_)))))
   refine o_pickT Tv gn rfl (decide_eq_true h2) rfl ?_
   refine aops_end (hK6 _ ?_)
   refine awp_condB (b := true) rfl (fun _ => ?_) (fun hh => absurd (hh.symm.trans rfl) (by decide))
   refine awp_seq fun K7 hK7 => awp_region rfl (o_as Fv rfl (aops_end (hK7 _ ?_)))
   refine awp_ret ?_
   refine post_ret ⟨[Fv], ⟨AV.le_refl _, trivial⟩, rfl, ?_⟩
   exact (bl_bp (b := false) ⟨fun h => (by cases h), fun h => absurd h (fun hh => absurd (shortB_le (hh i (by omega))) (by omega))⟩).symm
  ·refine o_move (.sl 1 (sbs l)) (Gd.yes rfl rfl (decide_eq_false h2)) rfl (o_move (Nv i) (Gd.yes rfl rfl (decide_eq_false h2)) rfl ?_)
   refine s_index l i (Gd.yes rfl rfl (decide_eq_false h2)) f144_ rfl rfl (by omega) ?_
   refine s_loadI l i (Gd.yes rfl rfl (decide_eq_false h2)) f150_ rfl (by omega) ?_
   refine o_ct (c_rValid (l.getD i { data := #[] }) (by first | assumption | decide | omega)) (Gd.yes rfl rfl (decide_eq_false h2)) f151_ rfl ?_
   refine o_not (b := okS (l.getD i { data := #[] })) (Gd.yes rfl rfl (decide_eq_false h2)) rfl ?_
   refine o_pickF (.lit (.bool (!(okS (l.getD i { data := #[] }))))) gn rfl (decide_eq_false h2) rfl ?_
   refine aops_end (hK6 _ ?_)
   refine awp_condB (b := !(okS (l.getD i { data := #[] }))) rfl (fun h3 => ?_) (fun h3 => ?_)
   ·refine awp_seq fun K8 hK8 => awp_region rfl (o_as Fv rfl (aops_end (hK8 _ ?_)))
    refine awp_ret ?_
    refine post_ret ⟨[Fv], ⟨AV.le_refl _, trivial⟩, rfl, ?_⟩
    exact (bl_bp (b := false) ⟨fun h => (by cases h), fun h => absurd h (fun hh => absurd (shortB_ok (hh i (by omega))) (by simpa using h3))⟩).symm
   ·refine awp_skip (hK5 _ (awp_region rfl (o_mv (Nv i) rfl ?_)))
    refine n_add i 1 gn rfl rfl (by simp only [topOf]; omega) ?_
    refine o_as (Nv (i + 1)) rfl (aops_end ?_)
    refine ⟨_, _, ?lt, ⟨i + 1, (by omega), (fun k hk => by rcases Nat.lt_or_ge k i with e | e; exact hf k e; rw [show k = i by omega]; exact shortB_yes (by omega) (by simpa using h3)), rfl, rfl⟩, ?wk⟩
    case lt => omega
    case wk => exact Wk.sub ⟨rfl, (by first | rfl | exact nm_int (by omega)), trivial⟩ trivial
 ·refine awp_exit ?_
  refine hK1 _ (awp_seq fun K9 hK9 => awp_region rfl (o_as Tv rfl (aops_end (hK9 _ ?_))))
  refine awp_ret ?_
  refine post_ret ⟨[Tv], ⟨AV.le_refl _, trivial⟩, rfl, ?_⟩
  exact (bl_bp (b := true) ⟨fun _ => (show ShortS l from fun k hk => hf k (by omega)), fun _ => rfl⟩).symm

theorem c_tProper (m : MapM) (w : List Int) (hM : OkM m) (hwl : w.length ≤ 17592186044416) (hwb : ∀ z ∈ w, -9223372036854775808 ≤ z ∧ z ≤ 9223372036854775807) : ECalls cx 38 [mapV m, Lv w, Nv 40] (.sl 1 (is .i64 (propW m w))) := by
 refine ecalls_of_awp Tryz.func38 (c := _) rfl (Nat.le_of_ble_eq_true rfl) ?_
 show awp cx 31 _ (postF cx Tryz.f38 _) ⟨[(0, mapV m), (1, Lv w), (2, Nv 40)], []⟩
 have hM2 := hM
 obtain ⟨o1, o2, o3, o4, o5⟩ := hM2
 refine awp_seq fun K0 hK0 => awp_region rfl ?_
 refine o_box 2 [Iv m.mod, Lv m.mul, Lv m.add] gn rfl rfl ?_
 refine o_as Zv rfl (aops_end (hK0 _ (awp_seq fun K1 hK1 => awp_region rfl (o_as Zv rfl (aops_end (hK1 _ (awp_seq fun K2 hK2 => awp_seq fun K3 hK3 => awp_region rfl (o_as (Nv 0) rfl ?_))))))))
 refine aops_end (hK3 _ ?_)
 refine awp_block ?_
 refine awp_loopR (fun κ σ => ∃ (i : Nat), (i ≤ w.length) ∧ (i ≤ 40) ∧ (w.length - i) = κ ∧ σ = ⟨[(1, Lv w), (2, Nv 40), (3, .ref 2 0), (7, .row 50), (8, Nv i)], [(2, oM 24 m), (50, .row 3 1 (is .i64 (propN m w i)))]⟩) ⟨_, _, ⟨0, (by omega), (by omega), rfl, rfl⟩, ?wk0⟩ ?rd0
 case wk0 =>
  exact Wk.trans (Wk.newNil (i := 7) (id := 503) (e := 3) (sz := 1) rfl rfl (by decide)) (Wk.trans (Wk.sub (σ' := ⟨[(1, Lv w), (2, Nv 40), (3, .ref 2 0), (7, .row 503), (8, Nv 0)], [(2, oM 24 m), (503, .row 3 1 (is .i64 ([])))]⟩) ⟨rfl, rfl, rfl, rfl, rfl, trivial⟩ ⟨rfl, rfl, trivial⟩) (Wk.trans (Wk.ren (id := 503) (id' := 50) rfl) (Wk.sub ⟨rfl, rfl, rfl, (by first | rfl | simp), (by first | rfl | exact nm_int (by omega)), trivial⟩ ⟨(by first | rfl | (rw [propN, hmd]; rfl)), (by first | rfl | exact row_ns (by simp) | (rw [propN, hmd]; rfl)), trivial⟩)))
 rintro κ _ ⟨i, hi, hi2, rfl, rfl⟩
 refine awp_seq fun K4 hK4 => awp_seq fun K5 hK5 => awp_region rfl (o_mv (Nv i) rfl (o_mv (Lv w) rfl ?_))
 refine i_len w gn f2_ rfl ?_
 refine n_lss i (w.length) gn rfl rfl ?_
 refine o_mv (bp (i < (w.length))) rfl ?_
 refine o_splitP (q := i < (w.length)) 13 rfl (fun h1 => ?_) (fun h1 => ?_)
 ·refine o_move (Nv i) (Gd.yes rfl rfl (decide_eq_true h1)) rfl (o_move (Nv 40) (Gd.yes rfl rfl (decide_eq_true h1)) rfl ?_)
  refine n_lss i 40 (Gd.yes rfl rfl (decide_eq_true h1)) rfl rfl ?_
  refine o_pickT (bp (i < 40)) gn rfl (decide_eq_true h1) rfl ?_
  refine aops_end (hK5 _ ?_)
  refine awp_condQ (q := i < 40) rfl (fun h2 => ?_) (fun h2 => ?_)
  ·have hwi := hwb _ (getD_mem (l := w) (i := i) (d := 0) (by omega))
   have hmd : ((m.mod.toNat : Nat) : Int) = m.mod := Int.toNat_of_nonneg (by omega)
   refine awp_skip (hK4 _ (awp_seq fun K6 hK6 => ?_))
   refine awp_block ?_
   refine awp_regionD rfl (o_mv (.row 50) rfl (o_mv (Lv w) rfl (o_mv (Nv i) rfl ?_)))
   refine i_index w i gn f10_ rfl rfl (by omega) ?_
   refine i_loadI w i gn f11_ rfl (by omega) ?_
   refine o_fieldRef 0 gn f59_ rfl rfl ?_
   refine o_loadS (Iv m.mod) gn f11_ rfl rfl rfl ?_
   refine n_as (v' := (Nv m.mod.toNat)) (nm_int (by omega)) ?_
   refine o_ct (c_tWrapped (w.getD i 0) m.mod.toNat (by omega) (by omega) (by omega) (by omega)) gn f152_ rfl ?_
   refine o_buildSlice 101 (is .i64 ([(w.getD i 0) % ((m.mod.toNat : Nat) : Int)])) [(0, [(Iv ((w.getD i 0) % ((m.mod.toNat : Nat) : Int)))])] gn f10_ rfl f26_ rfl rfl rfl rfl rfl rfl rfl ?_
   refine i_append 102 (propN m w i) ([(w.getD i 0) % ((m.mod.toNat : Nat) : Int)]) [(101, (.row 3 1 (is .i64 ([(w.getD i 0) % ((m.mod.toNat : Nat) : Int)])))), (2, oM 24 m)] gn f10_ f26_ rfl rfl rfl rfl rfl (by simp only [propN_len, List.length_cons, List.length_nil]; omega) (by decide) rfl rfl ?_
   refine o_as (.row 102) rfl ?_
   refine aops_end ⟨by kernel_rfl, ?_⟩
   refine hK6 _ (awp_region rfl (o_mv (Nv i) rfl ?_))
   refine n_add i 1 gn rfl rfl (by simp only [topOf]; omega) ?_
   refine o_as (Nv (i + 1)) rfl (aops_end ?_)
   refine ⟨_, _, ?lt, ⟨i + 1, (by omega), (by omega), rfl, rfl⟩, ?wk⟩
   case lt => omega
   case wk => exact Wk.trans (Wk.sub (σ' := ⟨[(1, Lv w), (2, Nv 40), (3, .ref 2 0), (7, .row 102), (8, Nv (i + 1))], [(2, oM 24 m), (102, (.row 3 1 (is .i64 ((propN m w i) ++ ([(w.getD i 0) % ((m.mod.toNat : Nat) : Int)])))))]⟩) ⟨rfl, rfl, rfl, rfl, rfl, trivial⟩ ⟨rfl, rfl, trivial⟩) (Wk.trans (Wk.ren (id := 102) (id' := 50) rfl) (Wk.sub ⟨rfl, rfl, rfl, (by first | rfl | simp), (by first | rfl | exact nm_int (by omega)), trivial⟩ ⟨rfl, (by first | rfl | exact row_ns (by simp) | (rw [propN, hmd]; rfl)), trivial⟩))
  ·refine awp_exit ?_
   refine hK2 _ (awp_seq fun K7 hK7 => awp_region rfl (o_mv (.row 50) rfl (o_as (.row 50) rfl (aops_end (hK7 _ ?_)))))
   refine awp_wk (σ' := ⟨[(6, .row 50)], [(50, .row 3 1 (is .i64 (propN m w i)))]⟩) (Wk.sub ⟨rfl, trivial⟩ ⟨rfl, trivial⟩) ?_
   refine awp_wk (σ' := ⟨[(6, Lv (propN m w i))], []⟩) (Wk.freeze (id := 50) (e := 3) (sz := 1) (cs := (is .i64 (propN m w i))) rfl) ?_
   refine awp_ret ?_
   refine post_ret ⟨[Lv (propN m w i)], ⟨AV.le_refl _, trivial⟩, rfl, ?_⟩
   exact is_as (by unfold propW; congr 1; omega)
 ·refine o_skip rfl rfl (decide_eq_false h1) (o_skip rfl rfl (decide_eq_false h1) (o_skip rfl rfl (decide_eq_false h1) ?_))
  refine o_pickF Fv gn rfl (decide_eq_false h1) rfl ?_
  refine aops_end (hK5 _ ?_)
  refine awp_condB (b := false) rfl (fun hh => absurd (hh.symm.trans rfl) (by decide)) (fun _ => ?_)
  refine awp_exit ?_
  refine hK2 _ (awp_seq fun K8 hK8 => awp_region rfl (o_mv (.row 50) rfl (o_as (.row 50) rfl (aops_end (hK8 _ ?_)))))
  refine awp_wk (σ' := ⟨[(6, .row 50)], [(50, .row 3 1 (is .i64 (propN m w i)))]⟩) (Wk.sub ⟨rfl, trivial⟩ ⟨rfl, trivial⟩) ?_
  refine awp_wk (σ' := ⟨[(6, Lv (propN m w i))], []⟩) (Wk.freeze (id := 50) (e := 3) (sz := 1) (cs := (is .i64 (propN m w i))) rfl) ?_
  refine awp_ret ?_
  refine post_ret ⟨[Lv (propN m w i)], ⟨AV.le_refl _, trivial⟩, rfl, ?_⟩
  exact is_as (by unfold propW; congr 1; omega)

theorem c_tDepth (m : MapM) (hM : OkM m) : ECalls cx 35 [mapV m, Nv 600] (Nv (dpB m 600)) := by
 refine ecalls_of_awp Tryz.func35 (c := _) rfl (Nat.le_of_ble_eq_true rfl) ?_
 show awp cx 19 _ (postF cx Tryz.f35 _) ⟨[(0, mapV m), (1, Nv 600)], []⟩
 have hM2 := hM
 obtain ⟨o1, o2, o3, o4, o5⟩ := hM2
 refine awp_seq fun K0 hK0 => awp_region rfl ?_
 refine o_box 2 [Iv m.mod, Lv m.mul, Lv m.add] gn rfl rfl ?_
 refine o_as (Nv 0) rfl (aops_end (hK0 _ (awp_seq fun K1 hK1 => awp_region rfl (o_as (Nv 0) rfl (aops_end (hK1 _ (awp_seq fun K2 hK2 => awp_seq fun K3 hK3 => awp_region rfl ?_)))))))
 refine o_fieldRef 0 gn f59_ rfl rfl ?_
 refine o_loadS (Iv m.mod) gn f11_ rfl rfl rfl ?_
 refine n_as (v' := (Iv (m.mod ^ (0 + 1)))) (by exact congrArg (fun z => AV.lit (.int .i64 z)) (by rw [Nat.zero_add, Int.pow_one])) ?_
 refine o_as (Iv (m.mod ^ (0 + 1))) rfl (aops_end (hK3 _ ?_))
 refine awp_block ?_
 refine awp_loopR (fun κ σ => ∃ (i : Nat), (m.mod ^ i ≤ 600) ∧ (17 - i) = κ ∧ σ = ⟨[(1, Nv 600), (2, .ref 2 0), (5, Nv i), (6, Iv (m.mod ^ (i + 1)))], [(2, oM 24 m)]⟩) ⟨_, _, ⟨0, (by rw [Int.pow_zero]; decide), rfl, rfl⟩, ?wk0⟩ ?rd0
 case wk0 =>
  exact Wk.sub ⟨rfl, rfl, (by first | rfl | exact nm_int (by omega)), (by first | rfl | exact int_eq (by omega) | exact int_nm (by omega)), trivial⟩ ⟨rfl, trivial⟩
 rintro κ _ ⟨i, hb, rfl, rfl⟩
 have hi16 := may_16 hM (k := i) (by omega)
 have hpp : 0 < m.mod ^ i := Int.pow_pos (by omega)
 have hpp1 : 0 < m.mod ^ (i + 1) := Int.pow_pos (by omega)
 have hpe : m.mod ^ (i + 1) = m.mod ^ i * m.mod := Int.pow_succ _ _
 have hmb := Int.mul_le_mul hb o2 (show (0 : Int) ≤ m.mod by omega) (by decide)
 refine awp_seq fun K4 hK4 => awp_seq fun K5 hK5 => awp_region rfl (o_mv (Iv (m.mod ^ (i + 1))) rfl (o_mv (Nv 600) rfl ?_))
 refine o_leq (a := (m.mod ^ (i + 1))) (c := ((600 : Nat) : Int)) gn rfl rfl ?_
 refine aops_end (hK5 _ ?_)
 refine awp_condQ (q := (m.mod ^ (i + 1)) ≤ ((600 : Nat) : Int)) rfl (fun h1 => ?_) (fun h1 => ?_)
 ·have hi17 := may_16 hM (k := i + 1) (by omega)
  have hmb2 := Int.mul_le_mul (show m.mod ^ (i + 1) ≤ 600 by omega) o2 (show (0 : Int) ≤ m.mod by omega) (by decide)
  have hml2 := Int.mul_pos hpp1 (show 0 < m.mod by omega)
  refine awp_skip (hK4 _ (awp_seq fun K6 hK6 => ?_))
  refine awp_block ?_
  refine awp_region rfl (o_mv (Nv i) rfl ?_)
  refine n_add i 1 gn rfl rfl (by simp only [topOf]; omega) ?_
  refine o_as (Nv (i + 1)) rfl (aops_end (hK6 _ (awp_region rfl (o_mv (Iv (m.mod ^ (i + 1))) rfl ?_))))
  refine o_fieldRef 0 gn f59_ rfl rfl ?_
  refine o_loadS (Iv m.mod) gn f11_ rfl rfl rfl ?_
  refine o_mul (a := (m.mod ^ (i + 1))) (c := m.mod) gn rfl rfl (by exact wrap64 (by omega) (by omega)) ?_
  refine n_as (v' := (Iv (m.mod ^ (i + 1 + 1)))) (by exact congrArg (fun z => AV.lit (.int .i64 z)) (Int.pow_succ _ _).symm) ?_
  refine o_as (Iv (m.mod ^ (i + 1 + 1))) rfl (aops_end ?_)
  refine ⟨_, _, ?lt, ⟨i + 1, (by omega), rfl, rfl⟩, ?wk⟩
  case lt => omega
  case wk => exact Wk.sub ⟨rfl, rfl, (by first | rfl | exact nm_int (by omega)), (by first | rfl | exact int_eq (by omega) | exact int_nm (by omega)), trivial⟩ ⟨rfl, trivial⟩
 ·refine awp_exit ?_
  refine hK2 _ (awp_seq fun K7 hK7 => awp_region rfl (o_mv (Nv i) rfl (o_as (Nv i) rfl (aops_end (hK7 _ ?_)))))
  refine awp_ret ?_
  refine post_ret ⟨[Nv i], ⟨AV.le_refl _, trivial⟩, rfl, ?_⟩
  exact congrArg (nm _) (dpB_eq hM hb (by omega))

theorem c_tReturns (m : MapM) (z : Int) (K : Nat) (hM : OkM m) (hK : K ≤ 100) (hz : (digs z.natAbs).length ≤ 1000) : ECalls cx 36 [mapV m, intR z, Nv K] (Nv (rtn m z K 0)) := by
 refine ecalls_of_awp Tryz.func36 (c := _) rfl (Nat.le_of_ble_eq_true rfl) ?_
 show awp cx 26 _ (postF cx Tryz.f36 _) ⟨[(0, mapV m), (1, intR z), (2, Nv K)], []⟩
 refine awp_seq fun K0 hK0 => awp_region rfl ?_
 refine o_box 2 [Iv m.mod, Lv m.mul, Lv m.add] gn rfl rfl ?_
 refine o_box 3 [bp (z < 0), .sl 1 (ns .i64 (digs z.natAbs))] gn rfl rfl ?_
 refine o_as (Nv 0) rfl (aops_end (hK0 _ (awp_seq fun K1 hK1 => awp_region rfl ?_)))
 refine o_loadA [bp (z < 0), .sl 1 (ns .i64 (digs z.natAbs))] gn f14_ rfl rfl rfl rfl rfl ?_
 refine o_alloc 4 [Fv, Zv] gn f9_ rfl rfl rfl ?_
 refine o_store [(4, oZ 42 .i64 z), (3, oZ 42 .i64 z), (2, oM 24 m)] gn f13_ rfl rfl rfl rfl rfl rfl ?_
 refine aops_end (hK1 _ (awp_seq fun K2 hK2 => awp_seq fun K3 hK3 => awp_region rfl (o_as (Nv 1) rfl (aops_end (hK3 _ ?_)))))
 refine awp_block ?_
 refine awp_loopR (fun κ σ => ∃ (j : Nat), (j ≤ K) ∧ (rtn m z K 0 = rtn m z (K - j) j) ∧ (K - j) = κ ∧ σ = ⟨[(2, Nv K), (3, .ref 2 0), (4, .ref 3 0), (7, .ref 4 0), (8, Nv (j + 1))], [(2, oM 24 m), (3, oZ 42 .i64 z), (4, oZ 42 .i64 (iterZ m j z))]⟩) ⟨_, _, ⟨0, Nat.zero_le _, rfl, rfl, rfl⟩, ?wk0⟩ ?rd0
 case wk0 =>
  exact Wk.sub ⟨rfl, rfl, rfl, rfl, (by first | rfl | exact nm_int (by omega)), trivial⟩ ⟨rfl, rfl, rfl, trivial⟩
 rintro κ _ ⟨j, hj, hr, rfl, rfl⟩
 have k2 := iter_len hM z j
 have k4 := iter_len hM z (j + 1)
 refine awp_seq fun K4 hK4 => awp_seq fun K5 hK5 => awp_region rfl (o_mv (Nv (j + 1)) rfl (o_mv (Nv K) rfl ?_))
 refine n_leq (j + 1) K gn rfl rfl ?_
 refine aops_end (hK5 _ ?_)
 refine awp_condQ (q := (j + 1) ≤ K) rfl (fun h1 => ?_) (fun h1 => ?_)
 ·refine awp_skip (hK4 _ (awp_seq fun K6 hK6 => ?_))
  refine awp_block ?_
  refine awp_seq fun K7 hK7 => awp_region rfl ?_
  refine o_loadA [Iv m.mod, Lv m.mul, Lv m.add] gn f63_ rfl rfl rfl rfl rfl ?_
  refine o_loadA [bp ((iterZ m j z) < 0), .sl 1 (ns .i64 (digs (iterZ m j z).natAbs))] gn f14_ rfl rfl rfl rfl rfl ?_
  refine o_ct (c_gStep m (iterZ m j z) (by first | assumption | exact okM_iff.1 (by assumption)) (by first | omega | assumption | (simp only [Int.natAbs_neg]; omega))) gn f153_ rfl ?_
  refine n_as (v' := (intR (iterZ m (j + 1) z))) (by exact rfl) ?_
  refine o_store [(2, oM 24 m), (3, oZ 42 .i64 z), (4, oZ 42 .i64 (iterZ m (j + 1) z))] gn f13_ rfl rfl rfl rfl rfl rfl ?_
  refine aops_end (hK7 _ (awp_seq fun K8 hK8 => awp_seq fun K9 hK9 => awp_region rfl ?_))
  refine o_loadA [bp ((iterZ m (j + 1) z) < 0), .sl 1 (ns .i64 (digs (iterZ m (j + 1) z).natAbs))] gn f14_ rfl rfl rfl rfl rfl ?_
  refine o_ct (c_rDigits (iterZ m (j + 1) z) (by first | omega | assumption | (simp only [Int.natAbs_neg]; omega))) gn f154_ rfl ?_
  refine n_gtr (ndig (iterZ m (j + 1) z).natAbs) 700 gn rfl rfl ?_
  refine aops_end (hK9 _ ?_)
  refine awp_condQ (q := 700 < (ndig (iterZ m (j + 1) z).natAbs)) rfl (fun h2 => ?_) (fun h2 => ?_)
  ·refine awp_seq fun K10 hK10 => awp_region rfl (o_as (Nv 0) rfl (aops_end (hK10 _ ?_)))
   refine awp_ret ?_
   refine post_ret ⟨[Nv 0], ⟨AV.le_refl _, trivial⟩, rfl, ?_⟩
   first | exact congrArg (nm _) (rtn_big hr (by omega) (by assumption)) | exact congrArg (nm _) (rtn_y hr (by omega) (by assumption) (cmpZ_eq0.1 (by assumption))) | exact congrArg (nm _) (rtn_0 hr (by omega))
  ·refine awp_skip (hK8 _ (awp_seq fun K11 hK11 => awp_region rfl ?_))
   refine o_loadA [bp ((iterZ m (j + 1) z) < 0), .sl 1 (ns .i64 (digs (iterZ m (j + 1) z).natAbs))] gn f14_ rfl rfl rfl rfl rfl ?_
   refine o_loadA [bp (z < 0), .sl 1 (ns .i64 (digs z.natAbs))] gn f14_ rfl rfl rfl rfl rfl ?_
   refine o_ct (c_rCmp (iterZ m (j + 1) z) z) gn f108_ rfl ?_
   refine o_eql (a := (cmpZ (iterZ m (j + 1) z) z)) (c := ((0 : Nat) : Int)) gn rfl rfl ?_
   refine aops_end (hK11 _ ?_)
   refine awp_condQ (q := (cmpZ (iterZ m (j + 1) z) z) = ((0 : Nat) : Int)) rfl (fun h3 => ?_) (fun h3 => ?_)
   ·refine awp_seq fun K12 hK12 => awp_region rfl (o_mv (Nv (j + 1)) rfl (o_as (Nv (j + 1)) rfl (aops_end (hK12 _ ?_))))
    refine awp_ret ?_
    refine post_ret ⟨[Nv (j + 1)], ⟨AV.le_refl _, trivial⟩, rfl, ?_⟩
    first | exact congrArg (nm _) (rtn_big hr (by omega) (by assumption)) | exact congrArg (nm _) (rtn_y hr (by omega) (by assumption) (cmpZ_eq0.1 (by assumption))) | exact congrArg (nm _) (rtn_0 hr (by omega))
   ·refine awp_skip (hK6 _ (awp_region rfl (o_mv (Nv (j + 1)) rfl ?_)))
    refine n_add (j + 1) 1 gn rfl rfl (by simp only [topOf]; omega) ?_
    refine o_as (Nv ((j + 1) + 1)) rfl (aops_end ?_)
    refine ⟨_, _, ?lt, ⟨j + 1, (by omega), (rtn_n hr (by omega) (by assumption) (fun e => absurd (cmpZ_eq0.2 e) (by assumption))), rfl, rfl⟩, ?wk⟩
    case lt => omega
    case wk => exact Wk.sub ⟨rfl, rfl, rfl, rfl, (by first | rfl | exact nm_int (by omega)), trivial⟩ ⟨rfl, rfl, rfl, trivial⟩
 ·refine awp_exit ?_
  refine hK2 _ (awp_seq fun K13 hK13 => awp_region rfl (o_as (Nv 0) rfl (aops_end (hK13 _ ?_))))
  refine awp_ret ?_
  refine post_ret ⟨[Nv 0], ⟨AV.le_refl _, trivial⟩, rfl, ?_⟩
  first | exact congrArg (nm _) (rtn_big hr (by omega) (by assumption)) | exact congrArg (nm _) (rtn_y hr (by omega) (by assumption) (cmpZ_eq0.1 (by assumption))) | exact congrArg (nm _) (rtn_0 hr (by omega))

theorem c_tHas (X : List Int) (z : Int) (hl : X.length ≤ 17592186044416) (hz : (digs z.natAbs).length ≤ 1000) : ECalls cx 37 [.sl 1 (sbs (List.map txt X)), intR z] (bp (z ∈ X)) := by
 refine ecalls_of_awp Tryz.func37 (c := _) rfl (Nat.le_of_ble_eq_true rfl) ?_
 show awp cx 21 _ (postF cx Tryz.f37 _) ⟨[(0, .sl 1 (sbs (List.map txt X))), (1, intR z)], []⟩
 have hml : (List.map txt X).length = X.length := List.length_map (f := txt)
 refine awp_seq fun K0 hK0 => awp_region rfl ?_
 refine o_box 2 [bp (z < 0), .sl 1 (ns .i64 (digs z.natAbs))] gn rfl rfl ?_
 refine o_as Fv rfl (aops_end (hK0 _ (awp_seq fun K1 hK1 => awp_region rfl ?_)))
 refine o_loadA [bp (z < 0), .sl 1 (ns .i64 (digs z.natAbs))] gn f14_ rfl rfl rfl rfl rfl ?_
 refine o_ct (c_rText z (by first | omega | assumption | (simp only [Int.natAbs_neg]; omega))) gn f118_ rfl ?_
 refine o_as (Sv (txt z)) rfl (aops_end (hK1 _ (awp_seq fun K2 hK2 => awp_seq fun K3 hK3 => awp_region rfl (o_as (Nv 0) rfl (aops_end (hK3 _ ?_))))))
 refine awp_block ?_
 refine awp_loopR (fun κ σ => ∃ (i : Nat), (i ≤ X.length) ∧ (∀ q, q < i → X.getD q default ≠ z) ∧ (X.length - i) = κ ∧ σ = ⟨[(0, .sl 1 (sbs (List.map txt X))), (5, Sv (txt z)), (6, Nv i)], []⟩) ⟨_, _, ⟨0, Nat.zero_le _, (fun q hq => by omega), rfl, rfl⟩, ?wk0⟩ ?rd0
 case wk0 =>
  exact Wk.sub ⟨rfl, (by first | rfl | simp), (by first | rfl | exact nm_int (by omega)), trivial⟩ trivial
 rintro κ _ ⟨i, hi, hv, rfl, rfl⟩
 refine awp_seq fun K4 hK4 => awp_seq fun K5 hK5 => awp_region rfl (o_mv (Nv i) rfl (o_mv (.sl 1 (sbs (List.map txt X))) rfl ?_))
 refine s_len (List.map txt X) gn f149_ rfl ?_
 refine n_as (v' := (Nv X.length)) (by exact congrArg (nm _) hml) ?_
 refine n_lss i X.length gn rfl rfl ?_
 refine aops_end (hK5 _ ?_)
 refine awp_condQ (q := i < X.length) rfl (fun h1 => ?_) (fun h1 => ?_)
 ·refine awp_skip (hK4 _ (awp_seq fun K6 hK6 => ?_))
  refine awp_block ?_
  refine awp_seq fun K7 hK7 => awp_region rfl (o_mv (.sl 1 (sbs (List.map txt X))) rfl (o_mv (Nv i) rfl ?_))
  refine s_index (List.map txt X) i gn f144_ rfl rfl (by omega) ?_
  refine s_loadI (List.map txt X) i gn f150_ rfl (by omega) ?_
  refine n_as (v' := (Sv (txt (X.getD i default)))) (by exact str_as (map_getD (by omega))) ?_
  refine o_mv (Sv (txt z)) rfl ?_
  refine o_eqlS (a := (txt (X.getD i default))) (c := (txt z)) gn rfl rfl ?_
  refine aops_end (hK7 _ ?_)
  refine awp_condQ (q := (txt (X.getD i default)).toList = (txt z).toList) rfl (fun h2 => ?_) (fun h2 => ?_)
  ·refine awp_seq fun K8 hK8 => awp_region rfl (o_as Tv rfl (aops_end (hK8 _ ?_)))
   refine awp_ret ?_
   refine post_ret ⟨[Tv], ⟨AV.le_refl _, trivial⟩, rfl, ?_⟩
   exact bpy (by have e := txt_inj (str_eq.1 h2); rw [← e]; exact getD_mem (l := X) (i := i) (d := 0) (by omega))
  ·refine awp_skip (hK6 _ (awp_region rfl (o_mv (Nv i) rfl ?_)))
   refine n_add i 1 gn rfl rfl (by simp only [topOf]; omega) ?_
   refine o_as (Nv (i + 1)) rfl (aops_end ?_)
   refine ⟨_, _, ?lt, ⟨i + 1, (by omega), (fun q hq => by by_cases e : q = i; subst e; exact (fun e => absurd (str_eq.2 (congrArg txt e)) (by assumption)); exact hv q (by omega)), rfl, rfl⟩, ?wk⟩
   case lt => omega
   case wk => exact Wk.sub ⟨rfl, rfl, (by first | rfl | exact nm_int (by omega)), trivial⟩ trivial
 ·refine awp_exit ?_
  refine hK2 _ (awp_seq fun K9 hK9 => awp_region rfl (o_as Fv rfl (aops_end (hK9 _ ?_))))
  refine awp_ret ?_
  refine post_ret ⟨[Fv], ⟨AV.le_refl _, trivial⟩, rfl, ?_⟩
  exact bpn (not_mem_of fun q hq => hv q (by omega))

theorem c_tTurns  : ECalls cx 34 [] (.lit (.bool true)) := by
 refine ecalls_of_awp Tryz.func34 (c := _) rfl (Nat.le_of_ble_eq_true rfl) ?_
 show awp cx 32 _ (postF cx Tryz.f34 _) ⟨[], []⟩
 refine awp_seq fun K0 hK0 => awp_region rfl (o_as Fv rfl (aops_end (hK0 _ (awp_seq fun K1 hK1 => awp_region rfl ?_))))
 refine o_ct c_sCollatz gn f155_ rfl ?_
 refine o_buildSlice 2 (ns .i64 ([1, 0, 0])) [(0, [Nv 1]), (1, [Nv 0]), (2, [Nv 0])] gn f10_ rfl f26_ rfl rfl rfl rfl rfl rfl rfl ?_
 refine o_callG [(2, 1, ns .i64 ([1, 0, 0]))] [mapV (kinM 3 1), .sl 1 (ns .i64 ([1, 0, 0]))] _ (.tup [(.agg [(Sv ({data := #[49]} : ByteArray)), (Sv ({data := #[53]} : ByteArray))]), Nv 0]) [] gn f156_ rfl ⟨⟨_, rfl⟩, trivial⟩ rfl rfl (LeL.cons (AV.le_refl _) (LeL.cons (AV.le_refl _) LeL.nil)) (by have h := c_yFixed (kinM 3 1) [1, 0, 0] (by decide); rw [ex6_f2.1, ex6_f2.2] at h; exact h) rfl ?_
 refine o_mv (.tup [(.agg [(Sv ({data := #[49]} : ByteArray)), (Sv ({data := #[53]} : ByteArray))]), Nv 0]) rfl (o_extract (.agg [(Sv ({data := #[49]} : ByteArray)), (Sv ({data := #[53]} : ByteArray))]) gn rfl rfl (o_extract (Nv 0) gn rfl rfl ?_))
 refine o_alloc 3 [Sv Ev, Sv Ev] gn f91_ rfl rfl rfl ?_
 refine o_store [(3, (.var 45 [(Sv ({data := #[49]} : ByteArray)), (Sv ({data := #[53]} : ByteArray))]))] gn f96_ rfl rfl rfl rfl rfl rfl ?_
 refine o_as (Nv 0) rfl (aops_end (hK1 _ (awp_seq fun K2 hK2 => awp_region rfl ?_)))
 refine o_ct c_sCollatz gn f155_ rfl ?_
 refine o_call [mapV (kinM 3 1), Nv 3] (.tup [.sl 1 (gcells cP ([[-1], [0], [1, 2], [-10, -5, -7]])), Nv 0]) gn f157_ rfl (by have h := c_Loops (kinM 3 1) 3 (by decide); rw [col_lp3.1, col_lp3.2] at h; exact h) ?_
 refine o_mv (.tup [.sl 1 (gcells cP ([[-1], [0], [1, 2], [-10, -5, -7]])), Nv 0]) rfl (o_extract (.sl 1 (gcells cP ([[-1], [0], [1, 2], [-10, -5, -7]]))) gn rfl rfl (o_extract (Nv 0) gn rfl rfl (o_as (.sl 1 (gcells cP ([[-1], [0], [1, 2], [-10, -5, -7]]))) rfl (o_as (Nv 0) rfl (aops_end (hK2 _ (awp_seq fun K3 hK3 => awp_region rfl (o_mv (Nv 0) rfl ?_))))))))
 refine n_eql 0 0 gn rfl rfl ?_
 refine o_mv (bp (0 = 0)) rfl ?_
 refine n_as (v' := Tv) (by exact bpy (by first | rfl | decide)) ?_
 refine o_loadA [(Sv ({data := #[49]} : ByteArray)), (Sv ({data := #[53]} : ByteArray))] (Gd.yes rfl rfl rfl) f97_ rfl rfl rfl rfl rfl ?_
 refine o_build [(Sv ({data := #[49]} : ByteArray)), (Sv ({data := #[53]} : ByteArray))] [(0, [(Sv ({data := #[49]} : ByteArray))]), (1, [(Sv ({data := #[53]} : ByteArray))])] (Gd.yes rfl rfl rfl) f95_ f91_ rfl rfl rfl ?_
 refine o_eqlA [.string ({data := #[49]} : ByteArray), .string ({data := #[53]} : ByteArray)] [.string ({data := #[49]} : ByteArray), .string ({data := #[53]} : ByteArray)] (({data := #[49]} : ByteArray) = ({data := #[49]} : ByteArray) ∧ ({data := #[53]} : ByteArray) = ({data := #[53]} : ByteArray)) (Gd.yes rfl rfl rfl) rfl rfl (eq_api_Frac _ _ _ _) ?_
 refine o_pickT (bp (({data := #[49]} : ByteArray) = ({data := #[49]} : ByteArray) ∧ ({data := #[53]} : ByteArray) = ({data := #[53]} : ByteArray))) gn rfl rfl rfl ?_
 refine o_mv (bp (({data := #[49]} : ByteArray) = ({data := #[49]} : ByteArray) ∧ ({data := #[53]} : ByteArray) = ({data := #[53]} : ByteArray))) rfl ?_
 refine n_as (v' := Tv) (by exact bpy (by first | rfl | decide)) ?_
 refine o_move (Nv 0) (Gd.yes rfl rfl rfl) rfl ?_
 refine n_eql 0 0 (Gd.yes rfl rfl rfl) rfl rfl ?_
 refine o_pickT (bp (0 = 0)) gn rfl rfl rfl ?_
 refine o_mv (bp (0 = 0)) rfl ?_
 refine n_as (v' := Tv) (by exact bpy (by first | rfl | decide)) ?_
 refine o_move (.sl 1 (gcells cP ([[-1], [0], [1, 2], [-10, -5, -7]]))) (Gd.yes rfl rfl rfl) rfl ?_
 refine g_len cP ([[-1], [0], [1, 2], [-10, -5, -7]]) cP_len (Gd.yes rfl rfl rfl) f158_ rfl ?_
 refine n_eql (([[-1], [0], [1, 2], [-10, -5, -7]]).length) 4 (Gd.yes rfl rfl rfl) rfl rfl ?_
 refine o_pickT (bp ((([[-1], [0], [1, 2], [-10, -5, -7]]).length) = 4)) gn rfl rfl rfl ?_
 refine o_as (bp ((([[-1], [0], [1, 2], [-10, -5, -7]]).length) = 4)) rfl (aops_end (hK3 _ ?_))
 refine awp_ret ?_
 refine post_ret ⟨[bp ((([[-1], [0], [1, 2], [-10, -5, -7]]).length) = 4)], ⟨AV.le_refl _, trivial⟩, rfl, ?_⟩
 first | rfl | exact (bpy (by first | rfl | decide)).symm

theorem c_TopCycles (m : MapM) (w : List Int) (a : ByteArray) (h1m : m.mul.length ≤ 17592186044416) (h2m : m.add.length ≤ 17592186044416) (hwl : w.length ≤ 17592186044416) (hwb : ∀ z ∈ w, -9223372036854775808 ≤ z ∧ z ≤ 9223372036854775807) (hsz : a.size ≤ 9223372036854775807) : ECalls cx 7 [mapV m, Lv w, Sv a] (.lit (.bool true)) := by
 refine ecalls_of_awp Tryz.func7 (c := _) rfl (Nat.le_of_ble_eq_true rfl) ?_
 show awp cx 168 _ (postF cx Tryz.f7 _) ⟨[(0, mapV m), (1, Lv w), (2, Sv a)], []⟩
 refine awp_seq fun K0 hK0 => awp_region rfl ?_
 refine o_box 2 [Iv m.mod, Lv m.mul, Lv m.add] gn rfl rfl ?_
 refine o_as Fv rfl (aops_end (hK0 _ (awp_seq fun K1 hK1 => awp_seq fun K2 hK2 => awp_region rfl ?_)))
 refine o_loadA [Iv m.mod, Lv m.mul, Lv m.add] gn f63_ rfl rfl rfl rfl rfl ?_
 refine o_ct (c_gValid m) gn f159_ rfl ?_
 refine o_not (b := okM m) gn rfl ?_
 refine o_mv (.lit (.bool (!(okM m)))) rfl ?_
 refine o_split (b := !(okM m)) 20 rfl (fun h1 => ?_) (fun h1 => ?_)
 ·refine o_skip rfl rfl h1 (o_skip rfl rfl h1 (o_skip rfl rfl h1 ?_))
  refine o_pickT Tv gn rfl h1 rfl ?_
  refine o_mv Tv rfl (o_skip rfl rfl rfl (o_skip rfl rfl rfl (o_skip rfl rfl rfl (o_skip rfl rfl rfl ?_))))
  refine o_pickT Tv gn rfl rfl rfl ?_
  refine aops_end (hK2 _ ?_)
  refine awp_condB (b := true) rfl (fun _ => ?_) (fun hh => absurd (hh.symm.trans rfl) (by decide))
  refine awp_seq fun K3 hK3 => awp_region rfl ?_
  refine o_ct c_tTurns gn f160_ rfl ?_
  refine o_as Tv rfl (aops_end (hK3 _ ?_))
  refine awp_ret ?_
  refine post_ret ⟨[Tv], ⟨AV.le_refl _, trivial⟩, rfl, ?_⟩
  first | rfl | simp [bp]
 ·have hm' : okM m = true := by simpa using h1
  have hM := okM_iff.1 hm'
  refine o_loadA [Iv m.mod, Lv m.mul, Lv m.add] (Gd.yes rfl rfl h1) f63_ rfl rfl rfl rfl rfl ?_
  refine o_ct (c_gRegular m (by first | assumption | exact okM_iff.1 (by assumption))) (Gd.yes rfl rfl h1) f161_ rfl ?_
  refine o_notP (q := freeM m) (Gd.yes rfl rfl h1) rfl ?_
  refine o_pickF (bp (¬ (freeM m))) gn rfl h1 rfl ?_
  refine o_mv (bp (¬ (freeM m))) rfl ?_
  refine o_splitP (q := ¬ (freeM m)) 25 rfl (fun h2 => ?_) (fun h2 => ?_)
  ·refine o_skip rfl rfl (decide_eq_true h2) (o_skip rfl rfl (decide_eq_true h2) (o_skip rfl rfl (decide_eq_true h2) (o_skip rfl rfl (decide_eq_true h2) ?_)))
   refine o_pickT Tv gn rfl (decide_eq_true h2) rfl ?_
   refine aops_end (hK2 _ ?_)
   refine awp_condB (b := true) rfl (fun _ => ?_) (fun hh => absurd (hh.symm.trans rfl) (by decide))
   refine awp_seq fun K4 hK4 => awp_region rfl ?_
   refine o_ct c_tTurns gn f160_ rfl ?_
   refine o_as Tv rfl (aops_end (hK4 _ ?_))
   refine awp_ret ?_
   refine post_ret ⟨[Tv], ⟨AV.le_refl _, trivial⟩, rfl, ?_⟩
   first | rfl | simp [bp]
  ·refine o_move (Sv a) (Gd.yes rfl rfl (decide_eq_false h2)) rfl ?_
   refine o_buildSlice 3 (sbs ([a])) [(0, [Sv a])] (Gd.yes rfl rfl (decide_eq_false h2)) f144_ rfl f145_ rfl rfl rfl rfl rfl rfl rfl ?_
   refine o_callG [(3, 1, sbs ([a]))] [.sl 1 (sbs ([a]))] _ (bp (ShortS [a])) [(2, oM 24 m)] (Gd.yes rfl rfl (decide_eq_false h2)) f162_ rfl ⟨⟨_, rfl⟩, trivial⟩ rfl rfl (LeL.cons (AV.le_refl _) LeL.nil) (c_tShort [a] (by simp) (fun x hx => by rw [List.mem_singleton.1 hx]; exact hsz)) rfl ?_
   refine o_notP (q := ShortS [a]) (Gd.yes rfl rfl (decide_eq_false h2)) rfl ?_
   refine o_pickF (bp (¬ (ShortS [a]))) gn rfl (decide_eq_false h2) rfl ?_
   refine aops_end (hK2 _ ?_)
   refine awp_condQ (q := ¬ (ShortS [a])) rfl (fun h3 => ?_) (fun h3 => ?_)
   ·refine awp_seq fun K5 hK5 => awp_region rfl ?_
    refine o_ct c_tTurns gn f160_ rfl ?_
    refine o_as Tv rfl (aops_end (hK5 _ ?_))
    refine awp_ret ?_
    refine post_ret ⟨[Tv], ⟨AV.le_refl _, trivial⟩, rfl, ?_⟩
    first | rfl | simp [bp]
   ·have hf : freeM m := Decidable.not_not.1 h2
    have hsh : ShortS [a] := Decidable.not_not.1 h3
    have ho := shortB_ok (hsh 0 (by simp))
    have hS := okS_iff.1 (show okS a = true from ho)
    have hlz := len_numS hS
    have hmy := dpB_may hM hf
    have hc := chk_0 hm' hmy
    have hlp : lpL m ((dpB m 600 : Nat) : Int) = cyU m (dpB m 600) := lpL_ok hc
    have hk16 : dpB m 600 ≤ 16 := may_16 hM hmy.2.2
    have hul := cyU_len m hM (dpB m 600)
    have hpw := toNat_pw hM (dpB m 600)
    have hm65 : m.mod ^ (dpB m 600) ≤ 65536 := hmy.2.2
    have hul2 := Nat.mul_le_mul hk16 (show m.mod.toNat ^ (dpB m 600) ≤ 65536 by omega)
    refine awp_skip (hK1 _ (awp_seq fun K6 hK6 => awp_region rfl ?_))
    refine o_loadA [Iv m.mod, Lv m.mul, Lv m.add] gn f63_ rfl rfl rfl rfl rfl ?_
    refine o_ct (c_tDepth m hM) gn f163_ rfl ?_
    refine o_as (Nv (dpB m 600)) rfl (aops_end (hK6 _ (awp_seq fun K7 hK7 => awp_region rfl ?_)))
    refine o_loadA [Iv m.mod, Lv m.mul, Lv m.add] gn f63_ rfl rfl rfl rfl rfl ?_
    refine o_mv (Nv (dpB m 600)) rfl ?_
    refine o_ct (c_Loops m ((dpB m 600 : Nat) : Int) (by first | assumption | omega)) gn f157_ rfl ?_
    refine o_mv (.tup [(.sl 1 (gcells cP (lpL m ((dpB m 600 : Nat) : Int)))), (Nv (chkE m ((dpB m 600 : Nat) : Int)))]) rfl (o_extract (.sl 1 (gcells cP (lpL m ((dpB m 600 : Nat) : Int)))) gn rfl rfl ?_)
    refine n_as (v' := (.sl 1 (gcells cP (cyU m (dpB m 600))))) (by rw [hlp]) ?_
    refine o_extract (Nv (chkE m ((dpB m 600 : Nat) : Int))) gn rfl rfl (o_as (.sl 1 (gcells cP (cyU m (dpB m 600)))) rfl (o_as (Nv (chkE m ((dpB m 600 : Nat) : Int))) rfl (aops_end (hK7 _ (awp_seq fun K8 hK8 => awp_seq fun K9 hK9 => awp_region rfl (o_mv (Nv (chkE m ((dpB m 600 : Nat) : Int))) rfl ?_))))))
    refine n_as (v' := (Nv 0)) (by rw [hc]) ?_
    refine n_neq 0 0 gn rfl rfl ?_
    refine aops_end (hK9 _ ?_)
    refine awp_condB (b := decide (0 ≠ 0)) rfl (fun hh => absurd (hh.symm.trans (decide_eq_false (by decide))) (by decide)) (fun _ => ?_)
    refine awp_skip (hK8 _ (awp_seq fun K10 hK10 => awp_region rfl (o_mv (Sv a) rfl ?_)))
    refine o_ct (c_rParse a (by first | assumption | exact okS_iff.1 (by assumption))) gn f164_ rfl ?_
    refine o_alloc 4 [Fv, Zv] gn f9_ rfl rfl rfl ?_
    refine o_store [(4, oZ 42 .i64 (numS a)), (2, oM 24 m)] gn f13_ rfl rfl rfl rfl rfl rfl ?_
    refine aops_end (hK10 _ ?_)
    refine awp_seqJ (J := fun σ => True ∧ σ = ⟨[(1, Lv w), (3, .ref 3 0)], [(3, oM 24 m)]⟩) ?ja0 ?jb0
    case ja0 =>
     refine awp_seq fun K11 hK11 => awp_region rfl ?_
     refine o_loadA [Iv m.mod, Lv m.mul, Lv m.add] gn f63_ rfl rfl rfl rfl rfl ?_
     refine o_loadA [bp ((numS a) < 0), .sl 1 (ns .i64 (digs (numS a).natAbs))] gn f14_ rfl rfl rfl rfl rfl ?_
     refine o_mv (Nv (dpB m 600)) rfl ?_
     refine o_ct (c_tReturns m (numS a) (dpB m 600) hM (by omega) (by omega)) gn f165_ rfl ?_
     refine n_gtr (rtn m (numS a) (dpB m 600) 0) 0 gn rfl rfl ?_
     refine aops_end (hK11 _ ?_)
     refine awp_condQ (q := 0 < (rtn m (numS a) (dpB m 600) 0)) rfl (fun h4 => ?_) (fun h4 => ?_)
     ·refine awp_seq fun K12 hK12 => awp_region rfl (o_as (Nv 0) rfl (aops_end (hK12 _ (awp_seq fun K13 hK13 => awp_seq fun K14 hK14 => awp_region rfl (o_as (Nv 0) rfl (aops_end (hK14 _ ?_)))))))
      refine awp_block ?_
      refine awp_loopR (fun κ σ => ∃ (i : Nat), (i ≤ (cyU m (dpB m 600)).length) ∧ ((cyU m (dpB m 600)).length - i) = κ ∧ σ = ⟨[(1, Lv w), (3, .ref 3 0), (8, .sl 1 (gcells cP (cyU m (dpB m 600)))), (10, .ref 10 0), (11, Nv (hasC (numS a) ((cyU m (dpB m 600)).take i))), (12, Nv i)], [(3, oM 24 m), (10, oZ 42 .i64 (numS a))]⟩) ⟨_, _, ⟨0, Nat.zero_le _, rfl, rfl⟩, ?wk1⟩ ?rd1
      case wk1 =>
       exact Wk.trans (Wk.sub (σ' := ⟨[(1, Lv w), (3, .ref 2 0), (8, .sl 1 (gcells cP (cyU m (dpB m 600)))), (10, .ref 4 0), (11, Nv 0), (12, Nv 0)], [(2, oM 24 m), (4, oZ 42 .i64 (numS a))]⟩) ⟨rfl, rfl, rfl, rfl, rfl, rfl, trivial⟩ ⟨rfl, rfl, trivial⟩) (Wk.trans (Wk.ren (id := 2) (id' := 3) rfl) (Wk.trans (Wk.ren (id := 4) (id' := 10) rfl) (Wk.sub ⟨rfl, (by first | rfl | (first | rfl | exact congrArg (fun l => AV.sl 2 (gcells cF l)) hx2.2)), rfl, (by first | rfl | (first | rfl | exact congrArg (fun l => AV.sl 2 (gcells cF l)) hx2.2)), (by first | rfl | exact nm_int (by omega)), (by first | rfl | exact nm_int (by omega)), trivial⟩ ⟨rfl, rfl, trivial⟩)))
      rintro κ _ ⟨i, hi, rfl, rfl⟩
      refine awp_seq fun K15 hK15 => awp_seq fun K16 hK16 => awp_region rfl (o_mv (Nv i) rfl (o_mv (.sl 1 (gcells cP (cyU m (dpB m 600)))) rfl ?_))
      refine g_len cP (cyU m (dpB m 600)) cP_len gn f158_ rfl ?_
      refine n_lss i ((cyU m (dpB m 600)).length) gn rfl rfl ?_
      refine aops_end (hK16 _ ?_)
      refine awp_condQ (q := i < ((cyU m (dpB m 600)).length)) rfl (fun h5 => ?_) (fun h5 => ?_)
      ·have hin := getD_memL (l := cyU m (dpB m 600)) (i := i) (by omega)
       obtain ⟨c1, c2⟩ := cyU_loo hM hf (by omega) hin
       have hle := hasC_le (z := (numS a)) (cyU m (dpB m 600)) i
       refine awp_skip (hK15 _ (awp_seq fun K17 hK17 => ?_))
       refine awp_block ?_
       refine awp_seq fun K18 hK18 => awp_regionD rfl (o_mv (.sl 1 (gcells cP (cyU m (dpB m 600)))) rfl (o_mv (Nv i) rfl ?_))
       refine g_index cP (cyU m (dpB m 600)) i cP_len rfl gn f148_ rfl rfl (by omega) ?_
       refine g_field cP (cyU m (dpB m 600)) i cP_len gn f166_ rfl (by omega) rfl ?_
       refine g_loadS cP (cyU m (dpB m 600)) i default (.sl 1 (sbs (((cyU m (dpB m 600)).getD i default).map txt))) cP_len gn f167_ rfl (by omega) rfl ?_
       refine o_loadA [bp ((numS a) < 0), .sl 1 (ns .i64 (digs (numS a).natAbs))] gn f14_ rfl rfl rfl rfl rfl ?_
       refine o_ct (c_tHas ((cyU m (dpB m 600)).getD i default) (numS a) (by omega) (by omega)) gn f168_ rfl ?_
       refine aops_end ⟨by kernel_rfl, ?_⟩
       refine hK18 _ ?_
       refine awp_condQ (q := (numS a) ∈ ((cyU m (dpB m 600)).getD i default)) rfl (fun h6 => ?_) (fun h6 => ?_)
       ·refine awp_region rfl (o_mv (Nv (hasC (numS a) ((cyU m (dpB m 600)).take i))) rfl ?_)
        refine n_add (hasC (numS a) ((cyU m (dpB m 600)).take i)) 1 gn rfl rfl (by simp only [topOf]; omega) ?_
        refine n_as (v' := (Nv (hasC (numS a) ((cyU m (dpB m 600)).take (i + 1))))) (by exact congrArg (nm _) (hasC_y (by omega) (by assumption))) ?_
        refine o_as (Nv (hasC (numS a) ((cyU m (dpB m 600)).take (i + 1)))) rfl (aops_end (hK17 _ (awp_region rfl (o_mv (Nv i) rfl ?_))))
        refine n_add i 1 gn rfl rfl (by simp only [topOf]; omega) ?_
        refine o_as (Nv (i + 1)) rfl (aops_end ?_)
        refine ⟨_, _, ?lt, ⟨i + 1, (by omega), rfl, rfl⟩, ?wk⟩
        case lt => omega
        case wk => exact Wk.sub ⟨rfl, rfl, rfl, rfl, (by first | rfl | exact nm_int (by omega)), (by first | rfl | exact nm_int (by omega)), trivial⟩ ⟨rfl, rfl, trivial⟩
       ·refine awp_wk (Wk.slot (i := 11) (y := (Nv (hasC (numS a) ((cyU m (dpB m 600)).take (i + 1))))) (AV.le_eq (by exact congrArg (nm _) (hasC_n (by omega) (by assumption))))) ?_
        refine awp_skip (hK17 _ (awp_region rfl (o_mv (Nv i) rfl ?_)))
        refine n_add i 1 gn rfl rfl (by simp only [topOf]; omega) ?_
        refine o_as (Nv (i + 1)) rfl (aops_end ?_)
        refine ⟨_, _, ?lt, ⟨i + 1, (by omega), rfl, rfl⟩, ?wk⟩
        case lt => omega
        case wk => exact Wk.sub ⟨rfl, rfl, rfl, rfl, (by first | rfl | exact nm_int (by omega)), (by first | rfl | exact nm_int (by omega)), trivial⟩ ⟨rfl, rfl, trivial⟩
      ·refine awp_exit ?_
       refine hK13 _ (awp_seq fun K19 hK19 => awp_region rfl (o_mv (Nv (hasC (numS a) ((cyU m (dpB m 600)).take i))) rfl ?_))
       refine n_as (v' := (Nv 1)) (by exact congrArg (nm _) (by rw [show i = (cyU m (dpB m 600)).length by omega, List.take_length]; exact hasC_one hM hf (by omega) h4)) ?_
       refine n_neq 1 1 gn rfl rfl ?_
       refine n_as (v' := Fv) (by exact bp_no (fun e => e rfl)) ?_
       refine aops_end (hK19 _ ?_)
       refine awp_condB (b := false) rfl (fun hh => absurd (hh.symm.trans rfl) (by decide)) (fun _ => ?_)
       refine awp_skip ?_
       exact ⟨_, ⟨trivial, rfl⟩, Wk.sub ⟨rfl, rfl, trivial⟩ ⟨rfl, trivial⟩⟩
     ·refine awp_skip ?_
      exact ⟨_, ⟨trivial, rfl⟩, Wk.trans (Wk.sub (σ' := ⟨[(1, Lv w), (3, .ref 2 0)], [(2, oM 24 m)]⟩) ⟨rfl, rfl, trivial⟩ ⟨rfl, trivial⟩) (Wk.trans (Wk.ren (id := 2) (id' := 3) rfl) (Wk.sub ⟨rfl, (by first | rfl | (first | rfl | exact congrArg (fun l => AV.sl 2 (gcells cF l)) hx2.2)), trivial⟩ ⟨rfl, trivial⟩))⟩
    rintro _ ⟨-, rfl⟩
    refine awp_seq fun K20 hK20 => awp_region rfl ?_
    refine o_loadA [Iv m.mod, Lv m.mul, Lv m.add] gn f63_ rfl rfl rfl rfl rfl ?_
    refine o_mv (Lv w) rfl ?_
    refine o_ct (c_tProper m w hM hwl hwb) gn f169_ rfl ?_
    refine o_as (Lv (propW m w)) rfl (aops_end (hK20 _ (awp_seq fun K21 hK21 => awp_seq fun K22 hK22 => awp_region rfl (o_mv (Lv (propW m w)) rfl ?_))))
    refine i_len (propW m w) gn f2_ rfl ?_
    refine n_eql ((propW m w).length) 0 gn rfl rfl ?_
    refine aops_end (hK22 _ ?_)
    refine awp_condQ (q := ((propW m w).length) = 0) rfl (fun h7 => ?_) (fun h7 => ?_)
    ·refine awp_seq fun K23 hK23 => awp_region rfl ?_
     refine o_ct c_tTurns gn f160_ rfl ?_
     refine o_as Tv rfl (aops_end (hK23 _ ?_))
     refine awp_ret ?_
     refine post_ret ⟨[Tv], ⟨AV.le_refl _, trivial⟩, rfl, ?_⟩
     first | rfl | simp [bp]
    ·obtain ⟨hW, hvl⟩ := propW_ok hM w
     have hne : propW m w ≠ [] := fun e => h7 (by rw [e]; rfl)
     have hwp : 0 < (propW m w).length := List.length_pos_iff.2 hne
     have hc2 := cyc_0 (okM_iff.2 hM) ⟨hf, hW, hne⟩
     have hx2 := fxF_ok hc2
     have hz2 := trL_len m (propW m w) (propW m w).length
     refine awp_skip (hK21 _ (awp_seq fun K24 hK24 => awp_region rfl ?_))
     refine o_loadA [Iv m.mod, Lv m.mul, Lv m.add] gn f63_ rfl rfl rfl rfl rfl ?_
     refine o_mv (Lv (propW m w)) rfl ?_
     refine o_ct (c_yTurn m (propW m w) (by first | assumption | omega | decide)) gn f170_ rfl ?_
     refine o_mv (.tup [.sl 2 (gcells cF (tnL m (propW m w))), Nv (cycE m (propW m w))]) rfl (o_extract (.sl 2 (gcells cF (tnL m (propW m w)))) gn rfl rfl (o_extract (Nv (cycE m (propW m w))) gn rfl rfl (o_as (.sl 2 (gcells cF (tnL m (propW m w)))) rfl (o_as (Nv (cycE m (propW m w))) rfl (aops_end (hK24 _ (awp_seq fun K25 hK25 => awp_seq fun K26 hK26 => awp_region rfl (o_mv (Nv (cycE m (propW m w))) rfl ?_))))))))
     refine n_as (v' := (Nv 0)) (by rw [hc2]) ?_
     refine n_neq 0 0 gn rfl rfl ?_
     refine o_mv (bp (0 ≠ 0)) rfl ?_
     refine o_move (.sl 2 (gcells cF (tnL m (propW m w)))) (Gd.yes rfl rfl (decide_eq_false (by decide))) rfl ?_
     refine n_as (v' := (.sl 2 (gcells cF (trL m (propW m w) (propW m w).length)))) (by rw [hx2.2]) ?_
     refine g_len cF (trL m (propW m w) (propW m w).length) cF_len (Gd.yes rfl rfl (decide_eq_false (by decide))) f171_ rfl ?_
     refine o_move (Lv (propW m w)) (Gd.yes rfl rfl (decide_eq_false (by decide))) rfl ?_
     refine i_len (propW m w) (Gd.yes rfl rfl (decide_eq_false (by decide))) f2_ rfl ?_
     refine n_neq ((trL m (propW m w) (propW m w).length).length) ((propW m w).length) (Gd.yes rfl rfl (decide_eq_false (by decide))) rfl rfl ?_
     refine n_as (v' := Fv) (by exact bp_no (fun e => e hz2)) ?_
     refine o_pickF Fv gn rfl (decide_eq_false (by decide)) rfl ?_
     refine aops_end (hK26 _ ?_)
     refine awp_condB (b := false) rfl (fun hh => absurd (hh.symm.trans rfl) (by decide)) (fun _ => ?_)
     refine awp_skip (hK25 _ (awp_seq fun K27 hK27 => awp_seq fun K28 hK28 => awp_region rfl (o_as (Nv 0) rfl (aops_end (hK28 _ ?_)))))
     refine awp_block ?_
     refine awp_loopR (fun κ σ => ∃ (i : Nat), (i ≤ (propW m w).length) ∧ ((propW m w).length - i) = κ ∧ σ = ⟨[(3, .ref 3 0), (13, Lv (propW m w)), (14, .sl 2 (gcells cF (trL m (propW m w) (propW m w).length))), (15, Nv i)], [(3, oM 24 m)]⟩) ⟨_, _, ⟨0, Nat.zero_le _, rfl, rfl⟩, ?wk2⟩ ?rd2
     case wk2 =>
      exact Wk.sub ⟨rfl, rfl, (by first | rfl | (first | rfl | exact congrArg (fun l => AV.sl 2 (gcells cF l)) hx2.2)), (by first | rfl | exact nm_int (by omega)), trivial⟩ ⟨rfl, trivial⟩
     rintro κ _ ⟨i, hi, rfl, rfl⟩
     refine awp_seq fun K29 hK29 => awp_seq fun K30 hK30 => awp_region rfl (o_mv (Nv i) rfl (o_mv (Lv (propW m w)) rfl ?_))
     refine i_len (propW m w) gn f2_ rfl ?_
     refine n_lss i ((propW m w).length) gn rfl rfl ?_
     refine aops_end (hK30 _ ?_)
     refine awp_condQ (q := i < ((propW m w).length)) rfl (fun h8 => ?_) (fun h8 => ?_)
     ·have rg := trL_get (m := m) (w := propW m w) (n := (propW m w).length) (i := i) (by omega)
      have tl := trn_fit hM hf hW hne (i := i) (by omega)
      have tl2 := fit_len tl.1
      have tl3 := fit_len tl.2
      have s5 : OkS (txt ((trnZ m (propW m w) (fixZ m (propW m w)) i).num)) := okS_txt tl.1
      have s6 : OkS (txt ((trnZ m (propW m w) (fixZ m (propW m w)) i).den)) := okS_txt tl.2
      have s7 := okS_sz (okS_yes s5)
      have s8 := okS_sz (okS_yes s6)
      obtain ⟨t1, t2⟩ := trn_ok hM hf hW.1 hne (i := i) (by omega)
      have t3 := t1.1
      have hre := (trn_rest hM hf hW.1 (i := i) (by omega)).2
      have hwi := isW_get hW.1 (show i < (propW m w).length by omega)
      have u := trn_fit hM hf hW hne (i := i + 1) (by omega)
      have u2 := fit_len u.1
      have u3 := fit_len u.2
      have hM2 := hM
      obtain ⟨o1, o2, o3, o4, o5⟩ := hM2
      have hmd := small_len (z := m.mod) (by omega)
      have hmod := Nat.mod_lt (i + 1) hwp
      refine awp_skip (hK29 _ (awp_seq fun K31 hK31 => ?_))
      refine awp_block ?_
      refine awp_seq fun K32 hK32 => awp_seq fun K33 hK33 => awp_region rfl (o_mv (.sl 2 (gcells cF (trL m (propW m w) (propW m w).length))) rfl (o_mv (Nv i) rfl ?_))
      refine g_index cF (trL m (propW m w) (propW m w).length) i cF_len rfl gn f106_ rfl rfl (by omega) ?_
      refine g_field cF (trL m (propW m w) (propW m w).length) i cF_len gn f172_ rfl (by omega) rfl ?_
      refine g_loadS cF (trL m (propW m w) (propW m w).length) i default (Sv (((trL m (propW m w) (propW m w).length).getD i default).num)) cF_len gn f150_ rfl (by omega) rfl ?_
      refine n_as (v' := (Sv (txt ((trnZ m (propW m w) (fixZ m (propW m w)) i).num)))) (by exact str_as (congrArg Frc.num rg)) ?_
      refine o_ct (c_rValid (txt ((trnZ m (propW m w) (fixZ m (propW m w)) i).num)) (by first | assumption | decide | omega)) gn f151_ rfl ?_
      refine n_as (v' := Tv) (by rw [okS_yes s5]) ?_
      refine o_not (b := true) gn rfl ?_
      refine o_mv Fv rfl (o_move (.sl 2 (gcells cF (trL m (propW m w) (propW m w).length))) (Gd.yes rfl rfl rfl) rfl (o_move (Nv i) (Gd.yes rfl rfl rfl) rfl ?_))
      refine g_index cF (trL m (propW m w) (propW m w).length) i cF_len rfl (Gd.yes rfl rfl rfl) f106_ rfl rfl (by omega) ?_
      refine g_field cF (trL m (propW m w) (propW m w).length) i cF_len (Gd.yes rfl rfl rfl) f173_ rfl (by omega) rfl ?_
      refine g_loadS cF (trL m (propW m w) (propW m w).length) i default (Sv (((trL m (propW m w) (propW m w).length).getD i default).den)) cF_len (Gd.yes rfl rfl rfl) f150_ rfl (by omega) rfl ?_
      refine n_as (v' := (Sv (txt ((trnZ m (propW m w) (fixZ m (propW m w)) i).den)))) (by exact str_as (congrArg Frc.den rg)) ?_
      refine o_ct (c_rValid (txt ((trnZ m (propW m w) (fixZ m (propW m w)) i).den)) (by first | assumption | decide | omega)) (Gd.yes rfl rfl rfl) f151_ rfl ?_
      refine n_as (v' := Tv) (by rw [okS_yes s6]) ?_
      refine o_not (b := true) (Gd.yes rfl rfl rfl) rfl ?_
      refine o_pickF Fv gn rfl rfl rfl ?_
      refine o_mv Fv rfl (o_move (.sl 2 (gcells cF (trL m (propW m w) (propW m w).length))) (Gd.yes rfl rfl rfl) rfl (o_move (Nv i) (Gd.yes rfl rfl rfl) rfl ?_))
      refine g_index cF (trL m (propW m w) (propW m w).length) i cF_len rfl (Gd.yes rfl rfl rfl) f106_ rfl rfl (by omega) ?_
      refine g_field cF (trL m (propW m w) (propW m w).length) i cF_len (Gd.yes rfl rfl rfl) f173_ rfl (by omega) rfl ?_
      refine g_loadS cF (trL m (propW m w) (propW m w).length) i default (Sv (((trL m (propW m w) (propW m w).length).getD i default).den)) cF_len (Gd.yes rfl rfl rfl) f150_ rfl (by omega) rfl ?_
      refine n_as (v' := (Sv (txt ((trnZ m (propW m w) (fixZ m (propW m w)) i).den)))) (by exact str_as (congrArg Frc.den rg)) ?_
      refine o_ct (c_rParse (txt ((trnZ m (propW m w) (fixZ m (propW m w)) i).den)) (by first | assumption | exact okS_iff.1 (by assumption))) (Gd.yes rfl rfl rfl) f164_ rfl ?_
      refine n_as (v' := (intR ((trnZ m (propW m w) (fixZ m (propW m w)) i).den))) (by exact congrArg intR (numS_txt _)) ?_
      refine o_ct (c_rSign ((trnZ m (propW m w) (fixZ m (propW m w)) i).den)) (Gd.yes rfl rfl rfl) f21_ rfl ?_
      refine o_leq (a := (sgn ((trnZ m (propW m w) (fixZ m (propW m w)) i).den))) (c := ((0 : Nat) : Int)) (Gd.yes rfl rfl rfl) rfl rfl ?_
      refine n_as (v' := Fv) (by exact bp_no (fun e => by have h99 := sgn_le.1 e; omega)) ?_
      refine o_pickF Fv gn rfl rfl rfl ?_
      refine aops_end (hK33 _ ?_)
      refine awp_condB (b := false) rfl (fun hh => absurd (hh.symm.trans rfl) (by decide)) (fun _ => ?_)
      refine awp_skip (hK32 _ (awp_seq fun K34 hK34 => awp_regionD rfl (o_mv (.sl 2 (gcells cF (trL m (propW m w) (propW m w).length))) rfl (o_mv (Nv i) rfl ?_))))
      refine g_index cF (trL m (propW m w) (propW m w).length) i cF_len rfl gn f106_ rfl rfl (by omega) ?_
      refine g_field cF (trL m (propW m w) (propW m w).length) i cF_len gn f172_ rfl (by omega) rfl ?_
      refine g_loadS cF (trL m (propW m w) (propW m w).length) i default (Sv (((trL m (propW m w) (propW m w).length).getD i default).num)) cF_len gn f150_ rfl (by omega) rfl ?_
      refine n_as (v' := (Sv (txt ((trnZ m (propW m w) (fixZ m (propW m w)) i).num)))) (by exact str_as (congrArg Frc.num rg)) ?_
      refine o_ct (c_rParse (txt ((trnZ m (propW m w) (fixZ m (propW m w)) i).num)) (by first | assumption | exact okS_iff.1 (by assumption))) gn f164_ rfl ?_
      refine n_as (v' := (intR ((trnZ m (propW m w) (fixZ m (propW m w)) i).num))) (by exact congrArg intR (numS_txt _)) ?_
      refine o_mv (.sl 2 (gcells cF (trL m (propW m w) (propW m w).length))) rfl (o_mv (Nv i) rfl ?_)
      refine g_index cF (trL m (propW m w) (propW m w).length) i cF_len rfl gn f106_ rfl rfl (by omega) ?_
      refine g_field cF (trL m (propW m w) (propW m w).length) i cF_len gn f173_ rfl (by omega) rfl ?_
      refine g_loadS cF (trL m (propW m w) (propW m w).length) i default (Sv (((trL m (propW m w) (propW m w).length).getD i default).den)) cF_len gn f150_ rfl (by omega) rfl ?_
      refine n_as (v' := (Sv (txt ((trnZ m (propW m w) (fixZ m (propW m w)) i).den)))) (by exact str_as (congrArg Frc.den rg)) ?_
      refine o_ct (c_rParse (txt ((trnZ m (propW m w) (fixZ m (propW m w)) i).den)) (by first | assumption | exact okS_iff.1 (by assumption))) gn f164_ rfl ?_
      refine n_as (v' := (intR ((trnZ m (propW m w) (fixZ m (propW m w)) i).den))) (by exact congrArg intR (numS_txt _)) ?_
      refine o_build [bp (((trnZ m (propW m w) (fixZ m (propW m w)) i).num) < 0), .sl 1 (ns .i64 (digs ((trnZ m (propW m w) (fixZ m (propW m w)) i).num).natAbs)), bp (((trnZ m (propW m w) (fixZ m (propW m w)) i).den) < 0), .sl 1 (ns .i64 (digs ((trnZ m (propW m w) (fixZ m (propW m w)) i).den).natAbs))] [(0, [bp (((trnZ m (propW m w) (fixZ m (propW m w)) i).num) < 0), .sl 1 (ns .i64 (digs ((trnZ m (propW m w) (fixZ m (propW m w)) i).num).natAbs))]), (1, [bp (((trnZ m (propW m w) (fixZ m (propW m w)) i).den) < 0), .sl 1 (ns .i64 (digs ((trnZ m (propW m w) (fixZ m (propW m w)) i).den).natAbs))])] gn f114_ f112_ rfl rfl rfl ?_
      refine o_alloc 301 [Fv, Zv, Fv, Zv] gn f112_ rfl rfl rfl ?_
      refine o_store [(301, .var 50 [bp (((trnZ m (propW m w) (fixZ m (propW m w)) i).num) < 0), .sl 1 (ns .i64 (digs ((trnZ m (propW m w) (fixZ m (propW m w)) i).num).natAbs)), bp (((trnZ m (propW m w) (fixZ m (propW m w)) i).den) < 0), .sl 1 (ns .i64 (digs ((trnZ m (propW m w) (fixZ m (propW m w)) i).den).natAbs))]), (3, oM 24 m)] gn f115_ rfl rfl rfl rfl rfl rfl ?_
      refine aops_end ⟨by kernel_rfl, ?_⟩
      refine hK34 _ (awp_seq fun K35 hK35 => awp_regionD rfl ?_)
      refine o_fieldRef 2 gn f119_ rfl rfl ?_
      refine o_loadA [bp (((trnZ m (propW m w) (fixZ m (propW m w)) i).den) < 0), .sl 1 (ns .i64 (digs ((trnZ m (propW m w) (fixZ m (propW m w)) i).den).natAbs))] gn f14_ rfl rfl rfl rfl rfl ?_
      refine o_fieldRef 0 gn f59_ rfl rfl ?_
      refine o_loadS (Iv m.mod) gn f11_ rfl rfl rfl ?_
      refine o_ct (c_rOf m.mod (by first | decide | omega) (by first | decide | omega)) gn f45_ rfl ?_
      refine o_ct (c_rGcd ((trnZ m (propW m w) (fixZ m (propW m w)) i).den) m.mod (by omega) (by omega)) gn f113_ rfl ?_
      refine o_ct (c_rOf (1 : Int) (by first | decide | omega) (by first | decide | omega)) gn f45_ rfl ?_
      refine o_ct (c_rCmp ((Int.gcd ((trnZ m (propW m w) (fixZ m (propW m w)) i).den) m.mod : Nat) : Int) (1 : Int)) gn f108_ rfl ?_
      refine o_neq (a := (cmpZ ((Int.gcd ((trnZ m (propW m w) (fixZ m (propW m w)) i).den) m.mod : Nat) : Int) (1 : Int))) (c := ((0 : Nat) : Int)) gn rfl rfl ?_
      refine n_as (v' := Fv) (by exact bp_no (fun e => e (cmpZ_eq0.2 (by rw [show Int.gcd (trnZ m (propW m w) (fixZ m (propW m w)) i).den m.mod = 1 from t2]; rfl)))) ?_
      refine o_mv Fv rfl ?_
      refine o_loadA [Iv m.mod, Lv m.mul, Lv m.add] (Gd.yes rfl rfl rfl) f63_ rfl rfl rfl rfl rfl ?_
      refine o_loadA [bp (((trnZ m (propW m w) (fixZ m (propW m w)) i).num) < 0), .sl 1 (ns .i64 (digs ((trnZ m (propW m w) (fixZ m (propW m w)) i).num).natAbs)), bp (((trnZ m (propW m w) (fixZ m (propW m w)) i).den) < 0), .sl 1 (ns .i64 (digs ((trnZ m (propW m w) (fixZ m (propW m w)) i).den).natAbs))] (Gd.yes rfl rfl rfl) f116_ rfl rfl rfl rfl rfl ?_
      refine n_as (v' := (frR (trnZ m (propW m w) (fixZ m (propW m w)) i))) (by exact rfl) ?_
      refine o_ct (c_zRest m (trnZ m (propW m w) (fixZ m (propW m w)) i) hM (by omega) (by omega)) (Gd.yes rfl rfl rfl) f120_ rfl ?_
      refine n_as (v' := (Iv ((propW m w).getD i 0))) (by exact congrArg (fun z => AV.lit (.int .i64 z)) hre) ?_
      refine o_move (Lv (propW m w)) (Gd.yes rfl rfl rfl) rfl (o_move (Nv i) (Gd.yes rfl rfl rfl) rfl ?_)
      refine i_index (propW m w) i (Gd.yes rfl rfl rfl) f10_ rfl rfl (by omega) ?_
      refine i_loadI (propW m w) i (Gd.yes rfl rfl rfl) f11_ rfl (by omega) ?_
      refine o_neq (a := ((propW m w).getD i 0)) (c := ((propW m w).getD i 0)) (Gd.yes rfl rfl rfl) rfl rfl ?_
      refine n_as (v' := Fv) (by exact bp_no (fun e => e rfl)) ?_
      refine o_pickF Fv gn rfl rfl rfl ?_
      refine o_mv Fv rfl ?_
      refine o_loadA [Iv m.mod, Lv m.mul, Lv m.add] (Gd.yes rfl rfl rfl) f63_ rfl rfl rfl rfl rfl ?_
      refine o_loadA [bp (((trnZ m (propW m w) (fixZ m (propW m w)) i).num) < 0), .sl 1 (ns .i64 (digs ((trnZ m (propW m w) (fixZ m (propW m w)) i).num).natAbs)), bp (((trnZ m (propW m w) (fixZ m (propW m w)) i).den) < 0), .sl 1 (ns .i64 (digs ((trnZ m (propW m w) (fixZ m (propW m w)) i).den).natAbs))] (Gd.yes rfl rfl rfl) f116_ rfl rfl rfl rfl rfl ?_
      refine n_as (v' := (frR (trnZ m (propW m w) (fixZ m (propW m w)) i))) (by exact rfl) ?_
      refine o_ct (c_zStep m (trnZ m (propW m w) (fixZ m (propW m w)) i) hM (by omega) (by omega) (by omega) (by omega)) (Gd.yes rfl rfl rfl) f174_ rfl ?_
      refine n_as (v' := (frR (trnZ m (propW m w) (fixZ m (propW m w)) (i + 1)))) (by exact congrArg frR (congrArg (nxtZ m _) hre)) ?_
      refine o_ct (c_zText (trnZ m (propW m w) (fixZ m (propW m w)) (i + 1)) (by omega) (by omega)) (Gd.yes rfl rfl rfl) f175_ rfl ?_
      refine o_move (.sl 2 (gcells cF (trL m (propW m w) (propW m w).length))) (Gd.yes rfl rfl rfl) rfl (o_move (Nv i) (Gd.yes rfl rfl rfl) rfl ?_)
      refine n_add i 1 (Gd.yes rfl rfl rfl) rfl rfl (by simp only [topOf]; omega) ?_
      refine o_move (Lv (propW m w)) (Gd.yes rfl rfl rfl) rfl ?_
      refine i_len (propW m w) (Gd.yes rfl rfl rfl) f2_ rfl ?_
      refine n_rem (i + 1) ((propW m w).length) (Gd.yes rfl rfl rfl) rfl rfl (by omega) ?_
      refine g_index cF (trL m (propW m w) (propW m w).length) ((i + 1) % ((propW m w).length)) cF_len rfl (Gd.yes rfl rfl rfl) f106_ rfl rfl (by omega) ?_
      refine g_loadA cF (trL m (propW m w) (propW m w).length) ((i + 1) % ((propW m w).length)) default cF_len (Gd.yes rfl rfl rfl) f97_ rfl (by omega) ?_
      refine n_as (v' := (.agg [Sv ((frT (trnZ m (propW m w) (fixZ m (propW m w)) (i + 1))).num), Sv ((frT (trnZ m (propW m w) (fixZ m (propW m w)) (i + 1))).den)])) (by rw [← trn_round hM hf hW.1 (by omega)]; try rfl) ?_
      refine o_neqA [.string ((frT (trnZ m (propW m w) (fixZ m (propW m w)) (i + 1))).num), .string ((frT (trnZ m (propW m w) (fixZ m (propW m w)) (i + 1))).den)] [.string ((frT (trnZ m (propW m w) (fixZ m (propW m w)) (i + 1))).num), .string ((frT (trnZ m (propW m w) (fixZ m (propW m w)) (i + 1))).den)] (((frT (trnZ m (propW m w) (fixZ m (propW m w)) (i + 1))).num) = ((frT (trnZ m (propW m w) (fixZ m (propW m w)) (i + 1))).num) ∧ ((frT (trnZ m (propW m w) (fixZ m (propW m w)) (i + 1))).den) = ((frT (trnZ m (propW m w) (fixZ m (propW m w)) (i + 1))).den)) (Gd.yes rfl rfl rfl) rfl rfl (eq_api_Frac _ _ _ _) ?_
      refine n_as (v' := Fv) (by exact bp_no (fun e => e ⟨rfl, rfl⟩)) ?_
      refine o_pickF Fv gn rfl rfl rfl ?_
      refine aops_end ⟨by kernel_rfl, ?_⟩
      refine hK35 _ ?_
      refine awp_condB (b := false) rfl (fun hh => absurd (hh.symm.trans rfl) (by decide)) (fun _ => ?_)
      refine awp_skip (hK31 _ (awp_region rfl (o_mv (Nv i) rfl ?_)))
      refine n_add i 1 gn rfl rfl (by simp only [topOf]; omega) ?_
      refine o_as (Nv (i + 1)) rfl (aops_end ?_)
      refine ⟨_, _, ?lt, ⟨i + 1, (by omega), rfl, rfl⟩, ?wk⟩
      case lt => omega
      case wk => exact Wk.sub ⟨rfl, rfl, rfl, (by first | rfl | exact nm_int (by omega)), trivial⟩ ⟨rfl, trivial⟩
     ·refine awp_exit ?_
      refine hK27 _ (awp_seq fun K36 hK36 => awp_region rfl ?_)
      refine o_ct c_tTurns gn f160_ rfl ?_
      refine o_as Tv rfl (aops_end (hK36 _ ?_))
      refine awp_ret ?_
      refine post_ret ⟨[Tv], ⟨AV.le_refl _, trivial⟩, rfl, ?_⟩
      first | rfl | simp [bp]

end Go.Proofs.YtdmkejloknejdaaGreatDoor

namespace Go.Proofs.YtdmkejloknejdaaGreatDoor.topCycles
open Go Go.Ab Go.Mth Go.ChangeShapes Go.WideShapes Go.ChangeAt Go.RowKit
noncomputable def laid5 : List (String × DataW Unit) := [("math/bits.deBruijn32tab", Rows.laid_math_bits_deBruijn32tab), ("math/bits.deBruijn64tab", Rows.laid_math_bits_deBruijn64tab), ("internal/strconv.uint64pow10", Rows.laid_internal_strconv_uint64pow10)]
theorem laid5_met {W : World} (h : laidMetH Tryz.prog laid5 W) : laidMet Tryz.prog laid5 W := (MakeChecks.laidMetH_plain _ _ _ (by kernel_rfl)).mp h
theorem laid5_tab {W : World} (h : laidMet Tryz.prog laid5 W) : laidMet Tryz.prog (("internal/strconv.uint64pow10", Lib.tabData .u64 Lib.pow10Tab) :: []) W := h.tail.tail
set_option maxRecDepth 100000 in
theorem tabG_of {W : World} (h : laidMetH Tryz.prog laid5 W) : TabG (memOf W) :=
 var_mem gTab (Lib.tabIs_of_head gTab gTabType uTab uElTab cElTab cTab (laid5_tab (laid5_met h)))
theorem reads (os : Os) {H : Type} (enc : TypeId × Value → H) : ∃ places, DataW.whole enc Tryz.prog ((World.laidAll Tryz.prog os laid5).forCall (fun _ _ => 0) ⟨#[], #[.agg #[.int .i64 0, .slice none 0 0, .slice none 0 0], .slice none 0 0, .string ByteArray.empty], []⟩).memory Tryz.f7.params.toList Rows.topCyclesSpec.vars false (#[.agg #[.int .i64 0, .slice none 0 0, .slice none 0 0], .slice none 0 0, .string ByteArray.empty] : Array Value).toList 8 = some ([.agg [.lit (.int .i64 0), .nil, .nil], .nil, .lit (.string [])], [], places) := ⟨[], by kernel_rfl⟩
theorem met (os : Os) : laidMetH Tryz.prog laid5 ((World.laidAll Tryz.prog os laid5).forCall (fun _ _ => 0) ⟨#[], #[.agg #[.int .i64 0, .slice none 0 0, .slice none 0 0], .slice none 0 0, .string ByteArray.empty], []⟩).memory := (MakeChecks.laidMetH_plain _ _ _ (by kernel_rfl)).mpr (laidMet_laidAll _ (by kernel_rfl) (by kernel_rfl))
theorem specs {H : Type} (ds : List (DataW H)) (h : ds.length = 3) : (Rows.topCyclesSpec.fn H ds).results = [.lit (.bool true)] ∧ (Rows.topCyclesSpec.fn H ds).args = ds ∧ (Rows.topCyclesSpec.fn H ds).vars = [] := by
 rcases ds with _ | ⟨d0, _ | ⟨d1, _ | ⟨d2, _ | ⟨e, t⟩⟩⟩⟩ <;> simp at h <;> exact ⟨rfl, rfl, rfl⟩
set_option maxRecDepth 100000 in
theorem opened {H : Type} (enc : TypeId × Value → H) (W : World) (base : Nat) (args : Array Value) (ds : List (DataW H)) (ps : List MemPlace) (hval : ∀ (j : Nat) t v, (#[24, 22, 9] : Array TypeId)[j]? = some t → args[j]? = some v → Value.okWide Tryz.prog W .any base t v)
  (hA : DataW.TrodAll enc Tryz.prog W 0 (fun _ => true) true [24, 22, 9] args.toList ds ps) (hsz : (DataW.weightsEach Tryz.prog [24, 22, 9] ds).all (· ≤ reachBytes) = true) : ∃ xs, RepL (memOf W) xs noLoc args.toList ∧ ECalls cx 7 xs (.lit (.bool true)) := by
 obtain ⟨v0, vs0, d0, ds0, p0, q0, hargs, rfl, rfl, h0, r0⟩ := trodAll_cons hA
 obtain ⟨v1, vs1, d1, ds1, p1, q1, rfl, rfl, rfl, h1, r1⟩ := trodAll_cons r0
 obtain ⟨v2, vs2, d2, ds2, p2, q2, rfl, rfl, rfl, h2, r2⟩ := trodAll_cons r1
 obtain ⟨rfl, rfl, rfl⟩ := trodAll_nil r2
 obtain rfl : args = #[v0, v1, v2] := by cases args; simp_all
 obtain ⟨m0, e0, b0, c0⟩ := rep_map (hval 0 24 v0 rfl rfl) h0 (fun n hn => by simpa using List.all_eq_true.1 hsz n (DataW.weights_mem_each (j := 0) rfl rfl n hn))
 obtain ⟨l1, e1, b1, c1⟩ := rep_listB (hval 1 22 v1 rfl rfl) h1 (fun n hn => by simpa using List.all_eq_true.1 hsz n (DataW.weights_mem_each (j := 1) rfl rfl n hn))
 obtain ⟨a2, e2, b2⟩ := rep_str (hval 2 9 v2 rfl rfl) h2
 exact ⟨[mapV m0, .sl 1 (is .i64 l1), .lit (.string a2)], RepL.cons e0 (RepL.cons e1 (RepL.cons e2 (by simp only [RepL]))), c_TopCycles m0 l1 a2 b0 c0 b1 c1 b2⟩
set_option maxRecDepth 100000 in
theorem lifted (os : Os) (started : os.Started) (H : Type) (enc : TypeId × Value → H) (F : Stop.Interp) :
  ReturnsInHanded {} Tryz.checked os 7 .any ((OpenSpec.ofChange Rows.topCyclesSpec).preRow enc Tryz.prog Tryz.f7 Rows.topCyclesRow.domain false Rows.topCyclesRow.laid) (((OpenSpec.ofChange Rows.topCyclesSpec).at F).post enc Tryz.prog Tryz.f7 false true false false) := by
 obtain ⟨places, hx⟩ := reads os enc
 refine lifted_of (C := Tryz.checked) started cx rfl ownT (by kernel_rfl) Tryz.func7 (witness_laid #[.agg #[.int .i64 0, .slice none 0 0, .slice none 0 0], .slice none 0 0, .string ByteArray.empty] (by kernel_rfl) (by kernel_rfl) (by kernel_rfl) (OpenSpec.preRow_of_cond 8 hx (by kernel_rfl) (fun k hk => by cases hk) (by kernel_rfl) (met os))) laidOutT (by kernel_rfl) (tb := 4) (by kernel_rfl) u4T rfl (fun ds h => specs ds (h.trans (by kernel_rfl))) (fun W h => tabG_of h) ?_
 intro W base args ds ps hval hA hsz
 exact opened enc W base args ds ps hval hA hsz
theorem said : Rows.TopCyclesSaid :=
 OpenClaim.holds_of_cond 7 Tryz.f7 rfl rfl rfl rfl rfl rfl rfl ⟨rfl, rfl, rfl, rfl, rfl⟩ rfl rfl rfl rfl rfl (by kernel_rfl) Tryz.func7 (by kernel_rfl)
  (of_decide_eq_true (by kernel_rfl)) (by unfold Func.isWrapper; first | (rw [if_pos (by decide +kernel)]; kernel_rfl) | (rw [if_neg (by decide +kernel)]; exact ⟨rfl, rfl⟩))
  (fun os started H enc _ F => by rw [OpenClaim.pre_eq_preRow]; exact lifted os started H enc F)
theorem plain (f : FuncId) (fn : Func) (hf : Tryz.pinned.checked.prog.funcNamed "katabasis/katabasistop.TopCycles" = some f) (hfn : Tryz.pinned.checked.prog.funcs[f]? = some fn) :
  true = Tryz.pinned.checked.prog.looks [] ∧ ∀ (j : Nat) t, fn.params[j]? = some t → Tryz.pinned.checked.prog.wantsStandIn t = false := by
 obtain rfl : f = 7 := Option.some.inj ((show Tryz.prog.funcNamed "katabasis/katabasistop.TopCycles" = some 7 by kernel_rfl).symm.trans hf) |>.symm
 obtain rfl : fn = Tryz.f7 := (Option.some.inj (Tryz.func7.symm.trans hfn)).symm
 refine ⟨by kernel_rfl, fun j t ht => ?_⟩
 rw [Tryz.params7] at ht
 have : t = 24 ∨ t = 22 ∨ t = 9 := by have h := Array.mem_of_getElem? ht; simp at h; first | exact h | (rcases h with h | h | h | h <;> simp [h]) | (rcases h with h | h | h <;> simp [h]) | (rcases h with h | h <;> simp [h])
 rcases this with rfl | rfl | rfl
 ·exact (show Tryz.prog.wantsStandIn 24 = false by kernel_rfl)
 ·exact (show Tryz.prog.wantsStandIn 22 = false by kernel_rfl)
 ·exact (show Tryz.prog.wantsStandIn 9 = false by kernel_rfl)
end Go.Proofs.YtdmkejloknejdaaGreatDoor.topCycles
namespace Go.Proofs.YtdmkejloknejdaaGreatDoor
open Go
theorem topCycles_holds : Rows.TopCyclesCardSaid :=
 Claim7.holds_tied_plain_at .later [] _ _ _ _ topCycles.said (fun _ h => by cases h) (by kernel_rfl) (fun _ h => by cases h) topCycles_row_tie rfl ⟨rfl, rfl⟩ (by kernel_rfl) rfl topCycles.plain (by kernel_rfl)
#print axioms topCycles_holds
end Go.Proofs.YtdmkejloknejdaaGreatDoor

