/- The law 'katabasislaw10.FractionPlays' is true for every list of fractions, string and number: First and Play return the documented results, or the documented errors. Its condition: none but the row's own (the listed tables of the library). -/
import Derived.Test.YtnejjdcbbminaaaGreatDoorPkFractionPlayse
set_option linter.unusedVariables false
set_option linter.unusedSimpArgs false
namespace Go.Proofs.YtnejjdcbbminaaaGreatDoor
open Go Go.Ab Go.Mth
theorem Yj_tC20 : callable cx.P 20 = true := by kernel_rfl
theorem Yj_tC16 : callable cx.P 16 = true := by kernel_rfl
theorem Yj_tE26 : tyElem cx.P 26 = some (52, 2, 32) := by kernel_rfl
theorem Yj_tO52 : tyZero cx.P 52 = some [(Go.Value.string {data := #[]}), (Go.Value.string {data := #[]})] := by kernel_rfl
theorem Yj_tC21 : callable cx.P 21 = true := by kernel_rfl
theorem Yj_tP39 : tyPlaces cx.P 39 = some (fun i => (#[(0, 1), (1, 1)] : Array (Nat × Nat))[i]?) := by kernel_rfl
theorem Yj_tO39 : tyZero cx.P 39 = some [(Go.Value.bool false), (Go.Value.slice none 0 0)] := by kernel_rfl
theorem Yj_tZ39 : tySize cx.P 39 = some 2 := by kernel_rfl
theorem Yj_tC22 : callable cx.P 22 = true := by kernel_rfl
theorem Yj_tA39 : tyAgg cx.P 39 = some 2 := by kernel_rfl
theorem Yj_tC23 : callable cx.P 23 = true := by kernel_rfl
theorem Yj_tC24 : callable cx.P 24 = true := by kernel_rfl
theorem Yj_tC25 : callable cx.P 25 = true := by kernel_rfl
theorem Yj_tC26 : callable cx.P 26 = true := by kernel_rfl
theorem Yj_tC17 : callable cx.P 17 = true := by kernel_rfl
theorem Yj_tC27 : callable cx.P 27 = true := by kernel_rfl
theorem c_FractionPlays (l : List Frc) (n : ByteArray) (k : Int) (hb : l.length ≤ 4398046511104) (hS : ∀ f ∈ l, f.num.size ≤ 9223372036854775807 ∧ f.den.size ≤ 9223372036854775807) (hn : n.size ≤ 9223372036854775807) : ECalls cx 4 [(AV.sl 2 (gcells cF (l))), (AV.lit (.string (n))), (AV.lit (.int .i64 (k)))] (.lit (.bool true)) := by
  refine ecalls_of_awp Tryz.func4 (c := _) rfl (Nat.le_of_ble_eq_true rfl) ?_
  show awp cx 121 _ (postF cx Tryz.f4 _) ⟨[(0, (AV.sl 2 (gcells cF (l)))), (1, (AV.lit (.string (n)))), (2, (AV.lit (.int .i64 (k))))], []⟩
  refine awp_seq fun K0 hK0 => ?_
  refine awp_region rfl ?_
  refine o_as (AV.lit (.bool false)) rfl ?_
  refine aops_end ?_
  refine hK0 _ ?_
  refine awp_seq fun K1 hK1 => ?_
  refine awp_seq fun K2 hK2 => ?_
  refine awp_region rfl ?_
  refine o_mv (AV.sl 2 (gcells cF (l))) rfl ?_
  refine o_ct (c_light (l)) Gd.none Yj_tC20 rfl ?_
  refine o_notP (q := lightP (l)) Gd.none rfl ?_
  refine aops_end ?_
  refine hK2 _ ?_
  refine awp_condQ (q := ¬ (lightP (l))) rfl (fun h1 => ?_) (fun h1 => ?_)
  · refine awp_seq fun K3 hK3 => ?_
    refine awp_region rfl ?_
    refine o_ct c_awake10 Gd.none Yj_tC16 rfl ?_
    refine o_as (AV.lit (.bool true)) rfl ?_
    refine aops_end ?_
    refine hK3 _ ?_
    refine awp_ret ?_
    refine post_ret ⟨[(AV.lit (.bool true))], And.intro (AV.le_refl _) (trivial), rfl, ?_⟩
    first | rfl | simp [bp]
  · refine awp_skip ?_
    refine hK1 _ ?_
    refine awp_seq fun K4 hK4 => ?_
    refine awp_region rfl ?_
    refine o_buildSlice 2 (gcells cF ([])) [] Gd.none Yj_tE26 rfl Yj_tO52 rfl rfl rfl rfl rfl rfl rfl ?_
    refine o_mv (AV.sl 2 (gcells cF (l))) rfl ?_
    refine g_appendSl cF 3 ([]) (l) [] cF_len rfl Gd.none Yj_tE26 Yj_tO52 rfl rfl rfl rfl (by simp only [List.length_append, List.length_cons, List.length_nil]; omega) (by simp only [List.length_append, List.length_cons, List.length_nil]; omega) rfl rfl ?_
    refine o_as (AV.row 3) rfl ?_
    refine aops_end ?_
    refine hK4 _ ?_
    refine awp_seq fun K5 hK5 => ?_
    refine awp_wk (σ' := ⟨[(0, (AV.sl 2 (gcells cF (l)))), (1, (AV.lit (.string (n)))), (2, (AV.lit (.int .i64 (k)))), (6, (AV.lit (.bool false))), (21, (AV.sl 2 (gcells cF (l)))), (22, (bp (lightP (l)))), (23, (bp (¬ (lightP (l))))), (26, (AV.sl 2 (gcells cF (l)))), (7, (AV.row 3))], [(3, (AO.row 52 2 (gcells cF (([]) ++ (l)))))]⟩) (Wk.sub (And.intro rfl (And.intro rfl (And.intro rfl (And.intro rfl (And.intro rfl (And.intro rfl (And.intro rfl (And.intro rfl (And.intro rfl (trivial)))))))))) (And.intro rfl (trivial))) ?_
    refine awp_wk (σ' := ⟨[(0, (AV.sl 2 (gcells cF (l)))), (1, (AV.lit (.string (n)))), (2, (AV.lit (.int .i64 (k)))), (6, (AV.lit (.bool false))), (21, (AV.sl 2 (gcells cF (l)))), (22, (bp (lightP (l)))), (23, (bp (¬ (lightP (l))))), (26, (AV.sl 2 (gcells cF (l)))), (7, (AV.sl 2 (gcells cF (([]) ++ (l)))))], []⟩) (Wk.freeze (id := 3) (e := 52) (sz := 2) (cs := (gcells cF (([]) ++ (l)))) rfl) ?_
    refine awp_wk (Wk.slot (i := 7) (y := (AV.sl 2 (gcells cF (l)))) (AV.le_eq (by exact rfl))) ?_
    refine awp_region rfl ?_
    refine o_mv (AV.sl 2 (gcells cF (l))) rfl ?_
    refine o_mv (AV.lit (.string (n))) rfl ?_
    refine o_ct (c_formed (l) (n) (by assumption) (by first | assumption | decide | omega)) Gd.none Yj_tC21 rfl ?_
    refine o_as (nm .i64 (askE (l) (n))) rfl ?_
    refine aops_end ?_
    refine hK5 _ ?_
    refine awp_seq fun K6 hK6 => ?_
    refine awp_region rfl ?_
    refine o_mv (nm .i64 (askE (l) (n))) rfl ?_
    refine o_as (nm .i64 (0)) rfl ?_
    refine o_as (nm .i64 (askE (l) (n))) rfl ?_
    refine aops_end ?_
    refine hK6 _ ?_
    refine awp_seq fun K7 hK7 => ?_
    refine awp_region rfl ?_
    refine o_build [(AV.lit (.bool false)), (AV.lit (.slice none 0 0))] [] Gd.none Yj_tP39 Yj_tO39 rfl rfl rfl ?_
    refine o_mv (nm .i64 (askE (l) (n))) rfl ?_
    refine o_alloc 4 [(AV.lit (.bool false)), (AV.lit (.slice none 0 0))] Gd.none Yj_tO39 rfl rfl rfl ?_
    refine o_store [(4, (AO.var 39 [(AV.lit (.bool false)), (AV.lit (.slice none 0 0))]))] Gd.none Yj_tZ39 rfl rfl rfl rfl rfl rfl ?_
    refine o_as (nm .i64 (0)) rfl ?_
    refine o_as (nm .i64 (askE (l) (n))) rfl ?_
    refine aops_end ?_
    refine hK7 _ ?_
    refine awp_seq fun K8 hK8 => ?_
    refine awp_seq fun K9 hK9 => ?_
    refine awp_region rfl ?_
    refine o_mv (nm .i64 (askE (l) (n))) rfl ?_
    refine n_eql (askE (l) (n)) (0) Gd.none rfl rfl ?_
    refine aops_end ?_
    refine hK9 _ ?_
    refine awp_condQ (q := (askE (l) (n)) = (0)) rfl (fun h2 => ?_) (fun h2 => ?_)
    · have hA := askE_0.1 h2
      have hA1 := hA.1
      have hA2 := hA.2.1
      have hA3 := hA.2.2
      have hFn := fit_numS (okS_iff.1 hA2)
      have lP := fit_len (plyV_fit (l := l) k.toNat (numS n) 0 ((300000 : Int)) hFn)
      refine awp_seq fun K10 hK10 => ?_
      refine awp_region rfl ?_
      refine o_mv (AV.lit (.string (n))) rfl ?_
      refine o_ct (c_rParse (n) (by first | assumption | exact okS_iff.1 (by assumption))) Gd.none Yj_tC22 rfl ?_
      refine o_alloc 5 [(AV.lit (.bool false)), (AV.lit (.slice none 0 0))] Gd.none Yj_tO39 rfl rfl rfl ?_
      refine o_store [(5, (oZ 39 .i64 ((numS (n))))), (4, (AO.var 39 [(AV.lit (.bool false)), (AV.lit (.slice none 0 0))]))] Gd.none Yj_tZ39 rfl rfl rfl rfl rfl rfl ?_
      refine aops_end ?_
      refine hK10 _ ?_
      refine awp_seq fun K11 hK11 => ?_
      refine awp_region rfl ?_
      refine o_mv (AV.sl 2 (gcells cF (l))) rfl ?_
      refine o_loadA [(bp ((numS (n)) < 0)), (AV.sl 1 (ns .i64 (digs ((numS (n))).natAbs)))] Gd.none Yj_tA39 rfl rfl rfl rfl rfl ?_
      refine o_ct (c_vFirst (l) (numS (n)) (by assumption) (by first | assumption | omega) (by assumption)) Gd.none Yj_tC23 rfl ?_
      refine o_mv (AV.tup [(AV.lit (.int .i64 (fstI (l) (numS (n))))), (intR ((nxV (l) (numS (n)))))]) rfl ?_
      refine o_extract (AV.lit (.int .i64 (fstI (l) (numS (n))))) Gd.none rfl rfl ?_
      refine o_extract (intR ((nxV (l) (numS (n))))) Gd.none rfl rfl ?_
      refine o_as (AV.lit (.int .i64 (fstI (l) (numS (n))))) rfl ?_
      refine aops_end ?_
      refine hK11 _ ?_
      refine awp_seq fun K12 hK12 => ?_
      refine awp_seq fun K13 hK13 => ?_
      refine awp_region rfl ?_
      refine o_mv (AV.lit (.int .i64 (fstI (l) (numS (n))))) rfl ?_
      refine o_lss (a := (fstI (l) (numS (n)))) (c := (((0 : Nat) : Int))) Gd.none rfl rfl ?_
      refine aops_end ?_
      refine hK13 _ ?_
      refine awp_condQ (q := (fstI (l) (numS (n))) < (((0 : Nat) : Int))) rfl (fun h3 => ?_) (fun h3 => ?_)
      · refine awp_region rfl ?_
        refine o_as (nm .i64 (0)) rfl ?_
        refine o_as (nm .i64 (4)) rfl ?_
        refine aops_end ?_
        refine hK12 _ ?_
        refine awp_seq fun K14 hK14 => ?_
        refine awp_region rfl ?_
        refine o_as (nm .i64 (2)) rfl ?_
        refine aops_end ?_
        refine hK14 _ ?_
        refine awp_seq fun K15 hK15 => ?_
        refine awp_region rfl ?_
        refine o_mv (AV.lit (.int .i64 (k))) rfl ?_
        refine o_geq (a := (k)) (c := (((0 : Nat) : Int))) Gd.none rfl rfl ?_
        refine o_mv (bp ((((0 : Nat) : Int)) ≤ (k))) rfl ?_
        refine o_splitP (q := (((0 : Nat) : Int)) ≤ (k)) 48 rfl (fun h4 => ?_) (fun h4 => ?_)
        · refine o_move (AV.lit (.int .i64 (k))) (Gd.yes rfl rfl (decide_eq_true h4)) rfl ?_
          refine o_leq (a := (k)) (c := (((20000 : Nat) : Int))) (Gd.yes rfl rfl (decide_eq_true h4)) rfl rfl ?_
          refine o_pickT (bp ((k) ≤ (((20000 : Nat) : Int)))) Gd.none rfl (decide_eq_true h4) rfl ?_
          refine aops_end ?_
          refine hK15 _ ?_
          refine awp_condQ (q := (k) ≤ (((20000 : Nat) : Int))) rfl (fun h5 => ?_) (fun h5 => ?_)
          · refine awp_seq fun K16 hK16 => ?_
            refine awp_region rfl ?_
            refine o_as (AV.lit (.bool false)) rfl ?_
            refine aops_end ?_
            refine hK16 _ ?_
            refine awp_seq fun K17 hK17 => ?_
            refine awp_region rfl ?_
            refine o_mv (AV.sl 2 (gcells cF (l))) rfl ?_
            refine o_loadA [(bp ((numS (n)) < 0)), (AV.sl 1 (ns .i64 (digs ((numS (n))).natAbs)))] Gd.none Yj_tA39 rfl rfl rfl rfl rfl ?_
            refine o_mv (AV.lit (.int .i64 (k))) rfl ?_
            refine o_ct (c_vPlay (l) (numS (n)) (k) ((300000 : Int)) (by assumption) (by first | assumption | omega) (by assumption) (by omega) (by omega) (by omega)) Gd.none Yj_tC24 rfl ?_
            refine o_mv (AV.tup [(intR ((plyV (l) (k).toNat (numS (n)) 0 ((300000 : Int))).1)), (nm .i64 ((plyV (l) (k).toNat (numS (n)) 0 ((300000 : Int))).2.1)), (nm .i64 ((plyV (l) (k).toNat (numS (n)) 0 ((300000 : Int))).2.2.1)), (AV.lit (.bool ((plyV (l) (k).toNat (numS (n)) 0 ((300000 : Int))).2.2.2)))]) rfl ?_
            refine o_extract (intR ((plyV (l) (k).toNat (numS (n)) 0 ((300000 : Int))).1)) Gd.none rfl rfl ?_
            refine o_extract (nm .i64 ((plyV (l) (k).toNat (numS (n)) 0 ((300000 : Int))).2.1)) Gd.none rfl rfl ?_
            refine o_extract (nm .i64 ((plyV (l) (k).toNat (numS (n)) 0 ((300000 : Int))).2.2.1)) Gd.none rfl rfl ?_
            refine o_extract (AV.lit (.bool ((plyV (l) (k).toNat (numS (n)) 0 ((300000 : Int))).2.2.2))) Gd.none rfl rfl ?_
            refine o_store [(5, (oZ 39 .i64 ((numS (n))))), (4, (oZ 39 .i64 ((plyV (l) (k).toNat (numS (n)) 0 ((300000 : Int))).1)))] Gd.none Yj_tZ39 rfl rfl rfl rfl rfl rfl ?_
            refine o_as (nm .i64 ((plyV (l) (k).toNat (numS (n)) 0 ((300000 : Int))).2.1)) rfl ?_
            refine o_as (nm .i64 ((plyV (l) (k).toNat (numS (n)) 0 ((300000 : Int))).2.2.1)) rfl ?_
            refine o_as (AV.lit (.bool ((plyV (l) (k).toNat (numS (n)) 0 ((300000 : Int))).2.2.2))) rfl ?_
            refine aops_end ?_
            refine hK17 _ ?_
            refine awp_seq fun K18 hK18 => ?_
            refine awp_region rfl ?_
            refine o_mv (AV.lit (.bool ((plyV (l) (k).toNat (numS (n)) 0 ((300000 : Int))).2.2.2))) rfl ?_
            refine o_not (b := (plyV (l) (k).toNat (numS (n)) 0 ((300000 : Int))).2.2.2) Gd.none rfl ?_
            refine aops_end ?_
            refine hK18 _ ?_
            refine awp_condB (b := !((plyV (l) (k).toNat (numS (n)) 0 ((300000 : Int))).2.2.2)) rfl (fun h6 => ?_) (fun h6 => ?_)
            · refine awp_seq fun K19 hK19 => ?_
              refine awp_region rfl ?_
              refine o_ct c_awake10 Gd.none Yj_tC16 rfl ?_
              refine o_as (AV.lit (.bool true)) rfl ?_
              refine aops_end ?_
              refine hK19 _ ?_
              refine awp_ret ?_
              refine post_ret ⟨[(AV.lit (.bool true))], And.intro (AV.le_refl _) (trivial), rfl, ?_⟩
              first | rfl | simp [bp]
            · try have hkp := plyV_ply (l := l) k.toNat (numS n) 0 ((300000 : Int)) (by simpa using h6)
              refine awp_skip ?_
              refine hK8 _ ?_
              refine awp_seq fun K20 hK20 => ?_
              refine awp_region rfl ?_
              refine o_mv (AV.sl 2 (gcells cF (l))) rfl ?_
              refine o_mv (AV.lit (.string (n))) rfl ?_
              refine o_ct (c_First (l) (n) (by assumption) (by first | assumption | decide | omega)) Gd.none Yj_tC25 rfl ?_
              refine o_mv (AV.tup [(AV.lit (.int .i64 (firI (l) (n)))), (nm .i64 (firE (l) (n)))]) rfl ?_
              refine o_extract (AV.lit (.int .i64 (firI (l) (n)))) Gd.none rfl rfl ?_
              refine n_as (v' := (nm .i64 (0))) (by first | exact nm_int (if_neg (fun o => absurd o.1 (by assumption))) | exact nm_int (if_neg (fun o => absurd o.2 (by omega))) | exact congrArg (fun z => AV.lit (.int .i64 z)) (if_pos ⟨by assumption, by omega⟩)) ?_
              refine o_extract (nm .i64 (firE (l) (n))) Gd.none rfl rfl ?_
              refine n_as (v' := (nm .i64 (4))) (by first | exact congrArg (nm _) (if_neg (by assumption)) | exact congrArg (nm _) ((if_pos (by assumption)).trans (if_neg (by omega))) | exact congrArg (nm _) (((if_pos h2).trans (if_pos (by omega))).trans h2.symm)) ?_
              refine o_as (nm .i64 (0)) rfl ?_
              refine o_as (nm .i64 (4)) rfl ?_
              refine aops_end ?_
              refine hK20 _ ?_
              refine awp_seq fun K21 hK21 => ?_
              refine awp_region rfl ?_
              refine o_mv (AV.sl 2 (gcells cF (l))) rfl ?_
              refine o_mv (AV.lit (.string (n))) rfl ?_
              refine o_mv (AV.lit (.int .i64 (k))) rfl ?_
              refine o_ct (c_Play (l) (n) (k) (by first | assumption | exact ex_sz) (by first | assumption | decide | omega)) Gd.none Yj_tC26 rfl ?_
              refine o_mv (AV.tup [(AV.lit (.string ((plyA (l) (n) (k)).1))), (nm .i64 ((plyA (l) (n) (k)).2.1)), (nm .i64 ((plyA (l) (n) (k)).2.2))]) rfl ?_
              refine o_extract (AV.lit (.string ((plyA (l) (n) (k)).1))) Gd.none rfl rfl ?_
              refine n_as (v' := (AV.lit (.string ((if (plyV (l) (k).toNat (numS (n)) 0 ((300000 : Int))).2.2.1 = 0 then txt (plyV (l) (k).toNat (numS (n)) 0 ((300000 : Int))).1 else { data := #[] }))))) (by first | rw [plyA_1 (by assumption)] | rw [plyA_2 (by assumption) (by omega)] | rw [plyA_0 (by assumption) (by omega), hkp]) ?_
              refine o_extract (nm .i64 ((plyA (l) (n) (k)).2.1)) Gd.none rfl rfl ?_
              refine n_as (v' := (nm .i64 ((plyV (l) (k).toNat (numS (n)) 0 ((300000 : Int))).2.1))) (by first | rw [plyA_1 (by assumption)] | rw [plyA_2 (by assumption) (by omega)] | rw [plyA_0 (by assumption) (by omega), hkp]) ?_
              refine o_extract (nm .i64 ((plyA (l) (n) (k)).2.2)) Gd.none rfl rfl ?_
              refine n_as (v' := (nm .i64 ((plyV (l) (k).toNat (numS (n)) 0 ((300000 : Int))).2.2.1))) (by first | rw [plyA_1 (by assumption)] | rw [plyA_2 (by assumption) (by omega)] | rw [plyA_0 (by assumption) (by omega), hkp]) ?_
              refine o_as (AV.lit (.string ((if (plyV (l) (k).toNat (numS (n)) 0 ((300000 : Int))).2.2.1 = 0 then txt (plyV (l) (k).toNat (numS (n)) 0 ((300000 : Int))).1 else { data := #[] })))) rfl ?_
              refine o_as (nm .i64 ((plyV (l) (k).toNat (numS (n)) 0 ((300000 : Int))).2.1)) rfl ?_
              refine o_as (nm .i64 ((plyV (l) (k).toNat (numS (n)) 0 ((300000 : Int))).2.2.1)) rfl ?_
              refine aops_end ?_
              refine hK21 _ ?_
              refine awp_seq fun K22 hK22 => ?_
              refine awp_seq fun K23 hK23 => ?_
              refine awp_region rfl ?_
              refine o_mv (nm .i64 (0)) rfl ?_
              refine o_mv (nm .i64 (0)) rfl ?_
              refine n_neq (0) (0) Gd.none rfl rfl ?_
              refine o_mv (bp ((0) ≠ (0))) rfl ?_
              refine o_move (nm .i64 (4)) (Gd.yes rfl rfl (decide_eq_false (by decide))) rfl ?_
              refine o_move (nm .i64 (4)) (Gd.yes rfl rfl (decide_eq_false (by decide))) rfl ?_
              refine n_neq (4) (4) (Gd.yes rfl rfl (decide_eq_false (by decide))) rfl rfl ?_
              refine o_pickF (bp ((4) ≠ (4))) Gd.none rfl (decide_eq_false (by decide)) rfl ?_
              refine o_mv (bp ((4) ≠ (4))) rfl ?_
              refine o_move (nm .i64 ((plyV (l) (k).toNat (numS (n)) 0 ((300000 : Int))).2.1)) (Gd.yes rfl rfl (decide_eq_false (by decide))) rfl ?_
              refine o_move (nm .i64 ((plyV (l) (k).toNat (numS (n)) 0 ((300000 : Int))).2.1)) (Gd.yes rfl rfl (decide_eq_false (by decide))) rfl ?_
              refine n_neq ((plyV (l) (k).toNat (numS (n)) 0 ((300000 : Int))).2.1) ((plyV (l) (k).toNat (numS (n)) 0 ((300000 : Int))).2.1) (Gd.yes rfl rfl (decide_eq_false (by decide))) rfl rfl ?_
              refine o_pickF (bp (((plyV (l) (k).toNat (numS (n)) 0 ((300000 : Int))).2.1) ≠ ((plyV (l) (k).toNat (numS (n)) 0 ((300000 : Int))).2.1))) Gd.none rfl (decide_eq_false (by decide)) rfl ?_
              refine o_mv (bp (((plyV (l) (k).toNat (numS (n)) 0 ((300000 : Int))).2.1) ≠ ((plyV (l) (k).toNat (numS (n)) 0 ((300000 : Int))).2.1))) rfl ?_
              refine o_move (nm .i64 ((plyV (l) (k).toNat (numS (n)) 0 ((300000 : Int))).2.2.1)) (Gd.yes rfl rfl (decide_eq_false (fun h => h rfl))) rfl ?_
              refine o_move (nm .i64 ((plyV (l) (k).toNat (numS (n)) 0 ((300000 : Int))).2.2.1)) (Gd.yes rfl rfl (decide_eq_false (fun h => h rfl))) rfl ?_
              refine n_neq ((plyV (l) (k).toNat (numS (n)) 0 ((300000 : Int))).2.2.1) ((plyV (l) (k).toNat (numS (n)) 0 ((300000 : Int))).2.2.1) (Gd.yes rfl rfl (decide_eq_false (fun h => h rfl))) rfl rfl ?_
              refine o_pickF (bp (((plyV (l) (k).toNat (numS (n)) 0 ((300000 : Int))).2.2.1) ≠ ((plyV (l) (k).toNat (numS (n)) 0 ((300000 : Int))).2.2.1))) Gd.none rfl (decide_eq_false (fun h => h rfl)) rfl ?_
              refine o_mv (bp (((plyV (l) (k).toNat (numS (n)) 0 ((300000 : Int))).2.2.1) ≠ ((plyV (l) (k).toNat (numS (n)) 0 ((300000 : Int))).2.2.1))) rfl ?_
              refine o_move (AV.sl 2 (gcells cF (l))) (Gd.yes rfl rfl (decide_eq_false (fun h => h rfl))) rfl ?_
              refine o_move (AV.sl 2 (gcells cF (l))) (Gd.yes rfl rfl (decide_eq_false (fun h => h rfl))) rfl ?_
              refine o_ct (c_vSameList (l) (by first | assumption | omega | decide)) (Gd.yes rfl rfl (decide_eq_false (fun h => h rfl))) Yj_tC17 rfl ?_
              refine o_not (b := true) (Gd.yes rfl rfl (decide_eq_false (fun h => h rfl))) rfl ?_
              refine o_pickF (AV.lit (.bool false)) Gd.none rfl (decide_eq_false (fun h => h rfl)) rfl ?_
              refine aops_end ?_
              refine hK23 _ ?_
              refine awp_condB (b := false) rfl (fun hh => absurd (hh.symm.trans rfl) (by decide)) (fun _ => ?_)
              refine awp_skip ?_
              refine hK22 _ ?_
              refine awp_seq fun K24 hK24 => ?_
              refine awp_region rfl ?_
              refine o_mv (nm .i64 ((plyV (l) (k).toNat (numS (n)) 0 ((300000 : Int))).2.2.1)) rfl ?_
              refine n_eql ((plyV (l) (k).toNat (numS (n)) 0 ((300000 : Int))).2.2.1) (0) Gd.none rfl rfl ?_
              refine o_mv (bp (((plyV (l) (k).toNat (numS (n)) 0 ((300000 : Int))).2.2.1) = (0))) rfl ?_
              refine o_splitP (q := ((plyV (l) (k).toNat (numS (n)) 0 ((300000 : Int))).2.2.1) = (0)) 104 rfl (fun h7 => ?_) (fun h7 => ?_)
              · refine o_move (AV.lit (.string ((if (plyV (l) (k).toNat (numS (n)) 0 ((300000 : Int))).2.2.1 = 0 then txt (plyV (l) (k).toNat (numS (n)) 0 ((300000 : Int))).1 else { data := #[] })))) (Gd.yes rfl rfl (decide_eq_true h7)) rfl ?_
                refine o_loadA [(bp ((plyV (l) (k).toNat (numS (n)) 0 ((300000 : Int))).1 < 0)), (AV.sl 1 (ns .i64 (digs ((plyV (l) (k).toNat (numS (n)) 0 ((300000 : Int))).1).natAbs)))] (Gd.yes rfl rfl (decide_eq_true h7)) Yj_tA39 rfl rfl rfl rfl rfl ?_
                refine o_ct (c_rText ((plyV (l) (k).toNat (numS (n)) 0 ((300000 : Int))).1) (by first | omega | assumption | (simp only [Int.natAbs_neg]; omega))) (Gd.yes rfl rfl (decide_eq_true h7)) Yj_tC27 rfl ?_
                refine o_eqlS (a := ((if (plyV (l) (k).toNat (numS (n)) 0 ((300000 : Int))).2.2.1 = 0 then txt (plyV (l) (k).toNat (numS (n)) 0 ((300000 : Int))).1 else { data := #[] }))) (c := (txt ((plyV (l) (k).toNat (numS (n)) 0 ((300000 : Int))).1))) (Gd.yes rfl rfl (decide_eq_true h7)) rfl rfl ?_
                refine n_as (v' := (AV.lit (.bool true))) (by exact bpy (by rw [if_pos (by assumption)])) ?_
                refine o_pickT (AV.lit (.bool true)) Gd.none rfl (decide_eq_true h7) rfl ?_
                refine o_mv (AV.lit (.bool true)) rfl ?_
                refine o_skip rfl rfl rfl ?_
                refine o_skip rfl rfl rfl ?_
                refine o_skip rfl rfl rfl ?_
                refine o_skipU rfl rfl ?_
                refine o_skipU rfl rfl ?_
                refine o_skip rfl rfl rfl ?_
                refine o_pickT (AV.lit (.bool true)) Gd.none rfl rfl rfl ?_
                refine o_mv (AV.lit (.bool true)) rfl ?_
                refine o_ct c_awake10 (Gd.yes rfl rfl rfl) Yj_tC16 rfl ?_
                refine o_pickT (AV.lit (.bool true)) Gd.none rfl rfl rfl ?_
                refine o_as (AV.lit (.bool true)) rfl ?_
                refine aops_end ?_
                refine hK24 _ ?_
                refine awp_ret ?_
                refine post_ret ⟨[(AV.lit (.bool true))], And.intro (AV.le_refl _) (trivial), rfl, ?_⟩
                first | rfl | simp [bp]
              · refine o_skip rfl rfl (decide_eq_false h7) ?_
                refine o_skip rfl rfl (decide_eq_false h7) ?_
                refine o_skip rfl rfl (decide_eq_false h7) ?_
                refine o_skip rfl rfl (decide_eq_false h7) ?_
                refine o_pickF (AV.lit (.bool false)) Gd.none rfl (decide_eq_false h7) rfl ?_
                refine o_mv (AV.lit (.bool false)) rfl ?_
                refine o_move (nm .i64 ((plyV (l) (k).toNat (numS (n)) 0 ((300000 : Int))).2.2.1)) (Gd.yes rfl rfl rfl) rfl ?_
                refine n_neq ((plyV (l) (k).toNat (numS (n)) 0 ((300000 : Int))).2.2.1) (0) (Gd.yes rfl rfl rfl) rfl rfl ?_
                refine o_move (bp (((plyV (l) (k).toNat (numS (n)) 0 ((300000 : Int))).2.2.1) ≠ (0))) (Gd.yes rfl rfl rfl) rfl ?_
                refine o_move (AV.lit (.string ((if (plyV (l) (k).toNat (numS (n)) 0 ((300000 : Int))).2.2.1 = 0 then txt (plyV (l) (k).toNat (numS (n)) 0 ((300000 : Int))).1 else { data := #[] })))) (Gd.yes rfl rfl (decide_eq_true h7)) rfl ?_
                refine o_eqlS (a := ((if (plyV (l) (k).toNat (numS (n)) 0 ((300000 : Int))).2.2.1 = 0 then txt (plyV (l) (k).toNat (numS (n)) 0 ((300000 : Int))).1 else { data := #[] }))) (c := (({data := #[]} : ByteArray))) (Gd.yes rfl rfl (decide_eq_true h7)) rfl rfl ?_
                refine n_as (v' := (AV.lit (.bool true))) (by exact bpy (by rw [if_neg (by assumption)])) ?_
                refine o_pickT (AV.lit (.bool true)) (Gd.yes rfl rfl rfl) rfl (decide_eq_true h7) rfl ?_
                refine o_pickF (AV.lit (.bool true)) Gd.none rfl rfl rfl ?_
                refine o_mv (AV.lit (.bool true)) rfl ?_
                refine o_ct c_awake10 (Gd.yes rfl rfl rfl) Yj_tC16 rfl ?_
                refine o_pickT (AV.lit (.bool true)) Gd.none rfl rfl rfl ?_
                refine o_as (AV.lit (.bool true)) rfl ?_
                refine aops_end ?_
                refine hK24 _ ?_
                refine awp_ret ?_
                refine post_ret ⟨[(AV.lit (.bool true))], And.intro (AV.le_refl _) (trivial), rfl, ?_⟩
                first | rfl | simp [bp]
          · refine awp_skip ?_
            refine hK8 _ ?_
            refine awp_seq fun K25 hK25 => ?_
            refine awp_region rfl ?_
            refine o_mv (AV.sl 2 (gcells cF (l))) rfl ?_
            refine o_mv (AV.lit (.string (n))) rfl ?_
            refine o_ct (c_First (l) (n) (by assumption) (by first | assumption | decide | omega)) Gd.none Yj_tC25 rfl ?_
            refine o_mv (AV.tup [(AV.lit (.int .i64 (firI (l) (n)))), (nm .i64 (firE (l) (n)))]) rfl ?_
            refine o_extract (AV.lit (.int .i64 (firI (l) (n)))) Gd.none rfl rfl ?_
            refine n_as (v' := (nm .i64 (0))) (by first | exact nm_int (if_neg (fun o => absurd o.1 (by assumption))) | exact nm_int (if_neg (fun o => absurd o.2 (by omega))) | exact congrArg (fun z => AV.lit (.int .i64 z)) (if_pos ⟨by assumption, by omega⟩)) ?_
            refine o_extract (nm .i64 (firE (l) (n))) Gd.none rfl rfl ?_
            refine n_as (v' := (nm .i64 (4))) (by first | exact congrArg (nm _) (if_neg (by assumption)) | exact congrArg (nm _) ((if_pos (by assumption)).trans (if_neg (by omega))) | exact congrArg (nm _) (((if_pos h2).trans (if_pos (by omega))).trans h2.symm)) ?_
            refine o_as (nm .i64 (0)) rfl ?_
            refine o_as (nm .i64 (4)) rfl ?_
            refine aops_end ?_
            refine hK25 _ ?_
            refine awp_seq fun K26 hK26 => ?_
            refine awp_region rfl ?_
            refine o_mv (AV.sl 2 (gcells cF (l))) rfl ?_
            refine o_mv (AV.lit (.string (n))) rfl ?_
            refine o_mv (AV.lit (.int .i64 (k))) rfl ?_
            refine o_ct (c_Play (l) (n) (k) (by first | assumption | exact ex_sz) (by first | assumption | decide | omega)) Gd.none Yj_tC26 rfl ?_
            refine o_mv (AV.tup [(AV.lit (.string ((plyA (l) (n) (k)).1))), (nm .i64 ((plyA (l) (n) (k)).2.1)), (nm .i64 ((plyA (l) (n) (k)).2.2))]) rfl ?_
            refine o_extract (AV.lit (.string ((plyA (l) (n) (k)).1))) Gd.none rfl rfl ?_
            refine n_as (v' := (AV.lit (.string (({data := #[]} : ByteArray))))) (by first | rw [plyA_1 (by assumption)] | rw [plyA_2 (by assumption) (by omega)] | rw [plyA_0 (by assumption) (by omega), hkp]) ?_
            refine o_extract (nm .i64 ((plyA (l) (n) (k)).2.1)) Gd.none rfl rfl ?_
            refine n_as (v' := (nm .i64 (0))) (by first | rw [plyA_1 (by assumption)] | rw [plyA_2 (by assumption) (by omega)] | rw [plyA_0 (by assumption) (by omega), hkp]) ?_
            refine o_extract (nm .i64 ((plyA (l) (n) (k)).2.2)) Gd.none rfl rfl ?_
            refine n_as (v' := (nm .i64 (2))) (by first | rw [plyA_1 (by assumption)] | rw [plyA_2 (by assumption) (by omega)] | rw [plyA_0 (by assumption) (by omega), hkp]) ?_
            refine o_as (AV.lit (.string (({data := #[]} : ByteArray)))) rfl ?_
            refine o_as (nm .i64 (0)) rfl ?_
            refine o_as (nm .i64 (2)) rfl ?_
            refine aops_end ?_
            refine hK26 _ ?_
            refine awp_seq fun K27 hK27 => ?_
            refine awp_seq fun K28 hK28 => ?_
            refine awp_region rfl ?_
            refine o_mv (nm .i64 (0)) rfl ?_
            refine o_mv (nm .i64 (0)) rfl ?_
            refine n_neq (0) (0) Gd.none rfl rfl ?_
            refine o_mv (bp ((0) ≠ (0))) rfl ?_
            refine o_move (nm .i64 (4)) (Gd.yes rfl rfl (decide_eq_false (by decide))) rfl ?_
            refine o_move (nm .i64 (4)) (Gd.yes rfl rfl (decide_eq_false (by decide))) rfl ?_
            refine n_neq (4) (4) (Gd.yes rfl rfl (decide_eq_false (by decide))) rfl rfl ?_
            refine o_pickF (bp ((4) ≠ (4))) Gd.none rfl (decide_eq_false (by decide)) rfl ?_
            refine o_mv (bp ((4) ≠ (4))) rfl ?_
            refine o_move (nm .i64 (0)) (Gd.yes rfl rfl (decide_eq_false (by decide))) rfl ?_
            refine o_move (nm .i64 (0)) (Gd.yes rfl rfl (decide_eq_false (by decide))) rfl ?_
            refine n_neq (0) (0) (Gd.yes rfl rfl (decide_eq_false (by decide))) rfl rfl ?_
            refine o_pickF (bp ((0) ≠ (0))) Gd.none rfl (decide_eq_false (by decide)) rfl ?_
            refine o_mv (bp ((0) ≠ (0))) rfl ?_
            refine o_move (nm .i64 (2)) (Gd.yes rfl rfl (decide_eq_false (by decide))) rfl ?_
            refine o_move (nm .i64 (2)) (Gd.yes rfl rfl (decide_eq_false (by decide))) rfl ?_
            refine n_neq (2) (2) (Gd.yes rfl rfl (decide_eq_false (by decide))) rfl rfl ?_
            refine o_pickF (bp ((2) ≠ (2))) Gd.none rfl (decide_eq_false (by decide)) rfl ?_
            refine o_mv (bp ((2) ≠ (2))) rfl ?_
            refine o_move (AV.sl 2 (gcells cF (l))) (Gd.yes rfl rfl (decide_eq_false (by decide))) rfl ?_
            refine o_move (AV.sl 2 (gcells cF (l))) (Gd.yes rfl rfl (decide_eq_false (by decide))) rfl ?_
            refine o_ct (c_vSameList (l) (by first | assumption | omega | decide)) (Gd.yes rfl rfl (decide_eq_false (by decide))) Yj_tC17 rfl ?_
            refine o_not (b := true) (Gd.yes rfl rfl (decide_eq_false (by decide))) rfl ?_
            refine o_pickF (AV.lit (.bool false)) Gd.none rfl (decide_eq_false (by decide)) rfl ?_
            refine aops_end ?_
            refine hK28 _ ?_
            refine awp_condB (b := false) rfl (fun hh => absurd (hh.symm.trans rfl) (by decide)) (fun _ => ?_)
            refine awp_skip ?_
            refine hK27 _ ?_
            refine awp_seq fun K29 hK29 => ?_
            refine awp_region rfl ?_
            refine o_mv (nm .i64 (2)) rfl ?_
            refine n_eql (2) (0) Gd.none rfl rfl ?_
            refine o_mv (bp ((2) = (0))) rfl ?_
            refine o_skip rfl rfl (decide_eq_false (by decide)) ?_
            refine o_skip rfl rfl (decide_eq_false (by decide)) ?_
            refine o_skip rfl rfl (decide_eq_false (by decide)) ?_
            refine o_skip rfl rfl (decide_eq_false (by decide)) ?_
            refine o_pickF (AV.lit (.bool false)) Gd.none rfl (decide_eq_false (by decide)) rfl ?_
            refine o_mv (AV.lit (.bool false)) rfl ?_
            refine o_move (nm .i64 (2)) (Gd.yes rfl rfl rfl) rfl ?_
            refine n_neq (2) (0) (Gd.yes rfl rfl rfl) rfl rfl ?_
            refine o_move (bp ((2) ≠ (0))) (Gd.yes rfl rfl rfl) rfl ?_
            refine o_move (AV.lit (.string (({data := #[]} : ByteArray)))) (Gd.yes rfl rfl (decide_eq_true (by decide))) rfl ?_
            refine o_eqlS (a := (({data := #[]} : ByteArray))) (c := (({data := #[]} : ByteArray))) (Gd.yes rfl rfl (decide_eq_true (by decide))) rfl rfl ?_
            refine o_pickT (bp ((({data := #[]} : ByteArray)).toList = (({data := #[]} : ByteArray)).toList)) (Gd.yes rfl rfl rfl) rfl (decide_eq_true (by decide)) rfl ?_
            refine o_pickF (bp ((({data := #[]} : ByteArray)).toList = (({data := #[]} : ByteArray)).toList)) Gd.none rfl rfl rfl ?_
            refine o_mv (bp ((({data := #[]} : ByteArray)).toList = (({data := #[]} : ByteArray)).toList)) rfl ?_
            refine o_ct c_awake10 (Gd.yes rfl rfl (decide_eq_true rfl)) Yj_tC16 rfl ?_
            refine o_pickT (AV.lit (.bool true)) Gd.none rfl (decide_eq_true rfl) rfl ?_
            refine o_as (AV.lit (.bool true)) rfl ?_
            refine aops_end ?_
            refine hK29 _ ?_
            refine awp_ret ?_
            refine post_ret ⟨[(AV.lit (.bool true))], And.intro (AV.le_refl _) (trivial), rfl, ?_⟩
            first | rfl | simp [bp]
        · refine o_skip rfl rfl (decide_eq_false h4) ?_
          refine o_skip rfl rfl (decide_eq_false h4) ?_
          refine o_pickF (AV.lit (.bool false)) Gd.none rfl (decide_eq_false h4) rfl ?_
          refine aops_end ?_
          refine hK15 _ ?_
          refine awp_condB (b := false) rfl (fun hh => absurd (hh.symm.trans rfl) (by decide)) (fun _ => ?_)
          refine awp_skip ?_
          refine hK8 _ ?_
          refine awp_seq fun K30 hK30 => ?_
          refine awp_region rfl ?_
          refine o_mv (AV.sl 2 (gcells cF (l))) rfl ?_
          refine o_mv (AV.lit (.string (n))) rfl ?_
          refine o_ct (c_First (l) (n) (by assumption) (by first | assumption | decide | omega)) Gd.none Yj_tC25 rfl ?_
          refine o_mv (AV.tup [(AV.lit (.int .i64 (firI (l) (n)))), (nm .i64 (firE (l) (n)))]) rfl ?_
          refine o_extract (AV.lit (.int .i64 (firI (l) (n)))) Gd.none rfl rfl ?_
          refine n_as (v' := (nm .i64 (0))) (by first | exact nm_int (if_neg (fun o => absurd o.1 (by assumption))) | exact nm_int (if_neg (fun o => absurd o.2 (by omega))) | exact congrArg (fun z => AV.lit (.int .i64 z)) (if_pos ⟨by assumption, by omega⟩)) ?_
          refine o_extract (nm .i64 (firE (l) (n))) Gd.none rfl rfl ?_
          refine n_as (v' := (nm .i64 (4))) (by first | exact congrArg (nm _) (if_neg (by assumption)) | exact congrArg (nm _) ((if_pos (by assumption)).trans (if_neg (by omega))) | exact congrArg (nm _) (((if_pos h2).trans (if_pos (by omega))).trans h2.symm)) ?_
          refine o_as (nm .i64 (0)) rfl ?_
          refine o_as (nm .i64 (4)) rfl ?_
          refine aops_end ?_
          refine hK30 _ ?_
          refine awp_seq fun K31 hK31 => ?_
          refine awp_region rfl ?_
          refine o_mv (AV.sl 2 (gcells cF (l))) rfl ?_
          refine o_mv (AV.lit (.string (n))) rfl ?_
          refine o_mv (AV.lit (.int .i64 (k))) rfl ?_
          refine o_ct (c_Play (l) (n) (k) (by first | assumption | exact ex_sz) (by first | assumption | decide | omega)) Gd.none Yj_tC26 rfl ?_
          refine o_mv (AV.tup [(AV.lit (.string ((plyA (l) (n) (k)).1))), (nm .i64 ((plyA (l) (n) (k)).2.1)), (nm .i64 ((plyA (l) (n) (k)).2.2))]) rfl ?_
          refine o_extract (AV.lit (.string ((plyA (l) (n) (k)).1))) Gd.none rfl rfl ?_
          refine n_as (v' := (AV.lit (.string (({data := #[]} : ByteArray))))) (by first | rw [plyA_1 (by assumption)] | rw [plyA_2 (by assumption) (by omega)] | rw [plyA_0 (by assumption) (by omega), hkp]) ?_
          refine o_extract (nm .i64 ((plyA (l) (n) (k)).2.1)) Gd.none rfl rfl ?_
          refine n_as (v' := (nm .i64 (0))) (by first | rw [plyA_1 (by assumption)] | rw [plyA_2 (by assumption) (by omega)] | rw [plyA_0 (by assumption) (by omega), hkp]) ?_
          refine o_extract (nm .i64 ((plyA (l) (n) (k)).2.2)) Gd.none rfl rfl ?_
          refine n_as (v' := (nm .i64 (2))) (by first | rw [plyA_1 (by assumption)] | rw [plyA_2 (by assumption) (by omega)] | rw [plyA_0 (by assumption) (by omega), hkp]) ?_
          refine o_as (AV.lit (.string (({data := #[]} : ByteArray)))) rfl ?_
          refine o_as (nm .i64 (0)) rfl ?_
          refine o_as (nm .i64 (2)) rfl ?_
          refine aops_end ?_
          refine hK31 _ ?_
          refine awp_seq fun K32 hK32 => ?_
          refine awp_seq fun K33 hK33 => ?_
          refine awp_region rfl ?_
          refine o_mv (nm .i64 (0)) rfl ?_
          refine o_mv (nm .i64 (0)) rfl ?_
          refine n_neq (0) (0) Gd.none rfl rfl ?_
          refine o_mv (bp ((0) ≠ (0))) rfl ?_
          refine o_move (nm .i64 (4)) (Gd.yes rfl rfl (decide_eq_false (by decide))) rfl ?_
          refine o_move (nm .i64 (4)) (Gd.yes rfl rfl (decide_eq_false (by decide))) rfl ?_
          refine n_neq (4) (4) (Gd.yes rfl rfl (decide_eq_false (by decide))) rfl rfl ?_
          refine o_pickF (bp ((4) ≠ (4))) Gd.none rfl (decide_eq_false (by decide)) rfl ?_
          refine o_mv (bp ((4) ≠ (4))) rfl ?_
          refine o_move (nm .i64 (0)) (Gd.yes rfl rfl (decide_eq_false (by decide))) rfl ?_
          refine o_move (nm .i64 (0)) (Gd.yes rfl rfl (decide_eq_false (by decide))) rfl ?_
          refine n_neq (0) (0) (Gd.yes rfl rfl (decide_eq_false (by decide))) rfl rfl ?_
          refine o_pickF (bp ((0) ≠ (0))) Gd.none rfl (decide_eq_false (by decide)) rfl ?_
          refine o_mv (bp ((0) ≠ (0))) rfl ?_
          refine o_move (nm .i64 (2)) (Gd.yes rfl rfl (decide_eq_false (by decide))) rfl ?_
          refine o_move (nm .i64 (2)) (Gd.yes rfl rfl (decide_eq_false (by decide))) rfl ?_
          refine n_neq (2) (2) (Gd.yes rfl rfl (decide_eq_false (by decide))) rfl rfl ?_
          refine o_pickF (bp ((2) ≠ (2))) Gd.none rfl (decide_eq_false (by decide)) rfl ?_
          refine o_mv (bp ((2) ≠ (2))) rfl ?_
          refine o_move (AV.sl 2 (gcells cF (l))) (Gd.yes rfl rfl (decide_eq_false (by decide))) rfl ?_
          refine o_move (AV.sl 2 (gcells cF (l))) (Gd.yes rfl rfl (decide_eq_false (by decide))) rfl ?_
          refine o_ct (c_vSameList (l) (by first | assumption | omega | decide)) (Gd.yes rfl rfl (decide_eq_false (by decide))) Yj_tC17 rfl ?_
          refine o_not (b := true) (Gd.yes rfl rfl (decide_eq_false (by decide))) rfl ?_
          refine o_pickF (AV.lit (.bool false)) Gd.none rfl (decide_eq_false (by decide)) rfl ?_
          refine aops_end ?_
          refine hK33 _ ?_
          refine awp_condB (b := false) rfl (fun hh => absurd (hh.symm.trans rfl) (by decide)) (fun _ => ?_)
          refine awp_skip ?_
          refine hK32 _ ?_
          refine awp_seq fun K34 hK34 => ?_
          refine awp_region rfl ?_
          refine o_mv (nm .i64 (2)) rfl ?_
          refine n_eql (2) (0) Gd.none rfl rfl ?_
          refine o_mv (bp ((2) = (0))) rfl ?_
          refine o_skip rfl rfl (decide_eq_false (by decide)) ?_
          refine o_skip rfl rfl (decide_eq_false (by decide)) ?_
          refine o_skip rfl rfl (decide_eq_false (by decide)) ?_
          refine o_skip rfl rfl (decide_eq_false (by decide)) ?_
          refine o_pickF (AV.lit (.bool false)) Gd.none rfl (decide_eq_false (by decide)) rfl ?_
          refine o_mv (AV.lit (.bool false)) rfl ?_
          refine o_move (nm .i64 (2)) (Gd.yes rfl rfl rfl) rfl ?_
          refine n_neq (2) (0) (Gd.yes rfl rfl rfl) rfl rfl ?_
          refine o_move (bp ((2) ≠ (0))) (Gd.yes rfl rfl rfl) rfl ?_
          refine o_move (AV.lit (.string (({data := #[]} : ByteArray)))) (Gd.yes rfl rfl (decide_eq_true (by decide))) rfl ?_
          refine o_eqlS (a := (({data := #[]} : ByteArray))) (c := (({data := #[]} : ByteArray))) (Gd.yes rfl rfl (decide_eq_true (by decide))) rfl rfl ?_
          refine o_pickT (bp ((({data := #[]} : ByteArray)).toList = (({data := #[]} : ByteArray)).toList)) (Gd.yes rfl rfl rfl) rfl (decide_eq_true (by decide)) rfl ?_
          refine o_pickF (bp ((({data := #[]} : ByteArray)).toList = (({data := #[]} : ByteArray)).toList)) Gd.none rfl rfl rfl ?_
          refine o_mv (bp ((({data := #[]} : ByteArray)).toList = (({data := #[]} : ByteArray)).toList)) rfl ?_
          refine o_ct c_awake10 (Gd.yes rfl rfl (decide_eq_true rfl)) Yj_tC16 rfl ?_
          refine o_pickT (AV.lit (.bool true)) Gd.none rfl (decide_eq_true rfl) rfl ?_
          refine o_as (AV.lit (.bool true)) rfl ?_
          refine aops_end ?_
          refine hK34 _ ?_
          refine awp_ret ?_
          refine post_ret ⟨[(AV.lit (.bool true))], And.intro (AV.le_refl _) (trivial), rfl, ?_⟩
          first | rfl | simp [bp]
      · refine awp_skip ?_
        refine hK12 _ ?_
        refine awp_seq fun K35 hK35 => ?_
        refine awp_region rfl ?_
        refine o_as (nm .i64 (2)) rfl ?_
        refine aops_end ?_
        refine hK35 _ ?_
        refine awp_seq fun K36 hK36 => ?_
        refine awp_region rfl ?_
        refine o_mv (AV.lit (.int .i64 (k))) rfl ?_
        refine o_geq (a := (k)) (c := (((0 : Nat) : Int))) Gd.none rfl rfl ?_
        refine o_mv (bp ((((0 : Nat) : Int)) ≤ (k))) rfl ?_
        refine o_splitP (q := (((0 : Nat) : Int)) ≤ (k)) 48 rfl (fun h8 => ?_) (fun h8 => ?_)
        · refine o_move (AV.lit (.int .i64 (k))) (Gd.yes rfl rfl (decide_eq_true h8)) rfl ?_
          refine o_leq (a := (k)) (c := (((20000 : Nat) : Int))) (Gd.yes rfl rfl (decide_eq_true h8)) rfl rfl ?_
          refine o_pickT (bp ((k) ≤ (((20000 : Nat) : Int)))) Gd.none rfl (decide_eq_true h8) rfl ?_
          refine aops_end ?_
          refine hK36 _ ?_
          refine awp_condQ (q := (k) ≤ (((20000 : Nat) : Int))) rfl (fun h9 => ?_) (fun h9 => ?_)
          · refine awp_seq fun K37 hK37 => ?_
            refine awp_region rfl ?_
            refine o_as (AV.lit (.bool false)) rfl ?_
            refine aops_end ?_
            refine hK37 _ ?_
            refine awp_seq fun K38 hK38 => ?_
            refine awp_region rfl ?_
            refine o_mv (AV.sl 2 (gcells cF (l))) rfl ?_
            refine o_loadA [(bp ((numS (n)) < 0)), (AV.sl 1 (ns .i64 (digs ((numS (n))).natAbs)))] Gd.none Yj_tA39 rfl rfl rfl rfl rfl ?_
            refine o_mv (AV.lit (.int .i64 (k))) rfl ?_
            refine o_ct (c_vPlay (l) (numS (n)) (k) ((300000 : Int)) (by assumption) (by first | assumption | omega) (by assumption) (by omega) (by omega) (by omega)) Gd.none Yj_tC24 rfl ?_
            refine o_mv (AV.tup [(intR ((plyV (l) (k).toNat (numS (n)) 0 ((300000 : Int))).1)), (nm .i64 ((plyV (l) (k).toNat (numS (n)) 0 ((300000 : Int))).2.1)), (nm .i64 ((plyV (l) (k).toNat (numS (n)) 0 ((300000 : Int))).2.2.1)), (AV.lit (.bool ((plyV (l) (k).toNat (numS (n)) 0 ((300000 : Int))).2.2.2)))]) rfl ?_
            refine o_extract (intR ((plyV (l) (k).toNat (numS (n)) 0 ((300000 : Int))).1)) Gd.none rfl rfl ?_
            refine o_extract (nm .i64 ((plyV (l) (k).toNat (numS (n)) 0 ((300000 : Int))).2.1)) Gd.none rfl rfl ?_
            refine o_extract (nm .i64 ((plyV (l) (k).toNat (numS (n)) 0 ((300000 : Int))).2.2.1)) Gd.none rfl rfl ?_
            refine o_extract (AV.lit (.bool ((plyV (l) (k).toNat (numS (n)) 0 ((300000 : Int))).2.2.2))) Gd.none rfl rfl ?_
            refine o_store [(5, (oZ 39 .i64 ((numS (n))))), (4, (oZ 39 .i64 ((plyV (l) (k).toNat (numS (n)) 0 ((300000 : Int))).1)))] Gd.none Yj_tZ39 rfl rfl rfl rfl rfl rfl ?_
            refine o_as (nm .i64 ((plyV (l) (k).toNat (numS (n)) 0 ((300000 : Int))).2.1)) rfl ?_
            refine o_as (nm .i64 ((plyV (l) (k).toNat (numS (n)) 0 ((300000 : Int))).2.2.1)) rfl ?_
            refine o_as (AV.lit (.bool ((plyV (l) (k).toNat (numS (n)) 0 ((300000 : Int))).2.2.2))) rfl ?_
            refine aops_end ?_
            refine hK38 _ ?_
            refine awp_seq fun K39 hK39 => ?_
            refine awp_region rfl ?_
            refine o_mv (AV.lit (.bool ((plyV (l) (k).toNat (numS (n)) 0 ((300000 : Int))).2.2.2))) rfl ?_
            refine o_not (b := (plyV (l) (k).toNat (numS (n)) 0 ((300000 : Int))).2.2.2) Gd.none rfl ?_
            refine aops_end ?_
            refine hK39 _ ?_
            refine awp_condB (b := !((plyV (l) (k).toNat (numS (n)) 0 ((300000 : Int))).2.2.2)) rfl (fun h10 => ?_) (fun h10 => ?_)
            · refine awp_seq fun K40 hK40 => ?_
              refine awp_region rfl ?_
              refine o_ct c_awake10 Gd.none Yj_tC16 rfl ?_
              refine o_as (AV.lit (.bool true)) rfl ?_
              refine aops_end ?_
              refine hK40 _ ?_
              refine awp_ret ?_
              refine post_ret ⟨[(AV.lit (.bool true))], And.intro (AV.le_refl _) (trivial), rfl, ?_⟩
              first | rfl | simp [bp]
            · try have hkp := plyV_ply (l := l) k.toNat (numS n) 0 ((300000 : Int)) (by simpa using h10)
              refine awp_skip ?_
              refine hK8 _ ?_
              refine awp_seq fun K41 hK41 => ?_
              refine awp_region rfl ?_
              refine o_mv (AV.sl 2 (gcells cF (l))) rfl ?_
              refine o_mv (AV.lit (.string (n))) rfl ?_
              refine o_ct (c_First (l) (n) (by assumption) (by first | assumption | decide | omega)) Gd.none Yj_tC25 rfl ?_
              refine o_mv (AV.tup [(AV.lit (.int .i64 (firI (l) (n)))), (nm .i64 (firE (l) (n)))]) rfl ?_
              refine o_extract (AV.lit (.int .i64 (firI (l) (n)))) Gd.none rfl rfl ?_
              refine n_as (v' := (AV.lit (.int .i64 (fstI (l) (numS (n)))))) (by first | exact nm_int (if_neg (fun o => absurd o.1 (by assumption))) | exact nm_int (if_neg (fun o => absurd o.2 (by omega))) | exact congrArg (fun z => AV.lit (.int .i64 z)) (if_pos ⟨by assumption, by omega⟩)) ?_
              refine o_extract (nm .i64 (firE (l) (n))) Gd.none rfl rfl ?_
              refine n_as (v' := (nm .i64 (askE (l) (n)))) (by first | exact congrArg (nm _) (if_neg (by assumption)) | exact congrArg (nm _) ((if_pos (by assumption)).trans (if_neg (by omega))) | exact congrArg (nm _) (((if_pos h2).trans (if_pos (by omega))).trans h2.symm)) ?_
              refine o_as (AV.lit (.int .i64 (fstI (l) (numS (n))))) rfl ?_
              refine o_as (nm .i64 (askE (l) (n))) rfl ?_
              refine aops_end ?_
              refine hK41 _ ?_
              refine awp_seq fun K42 hK42 => ?_
              refine awp_region rfl ?_
              refine o_mv (AV.sl 2 (gcells cF (l))) rfl ?_
              refine o_mv (AV.lit (.string (n))) rfl ?_
              refine o_mv (AV.lit (.int .i64 (k))) rfl ?_
              refine o_ct (c_Play (l) (n) (k) (by first | assumption | exact ex_sz) (by first | assumption | decide | omega)) Gd.none Yj_tC26 rfl ?_
              refine o_mv (AV.tup [(AV.lit (.string ((plyA (l) (n) (k)).1))), (nm .i64 ((plyA (l) (n) (k)).2.1)), (nm .i64 ((plyA (l) (n) (k)).2.2))]) rfl ?_
              refine o_extract (AV.lit (.string ((plyA (l) (n) (k)).1))) Gd.none rfl rfl ?_
              refine n_as (v' := (AV.lit (.string ((if (plyV (l) (k).toNat (numS (n)) 0 ((300000 : Int))).2.2.1 = 0 then txt (plyV (l) (k).toNat (numS (n)) 0 ((300000 : Int))).1 else { data := #[] }))))) (by first | rw [plyA_1 (by assumption)] | rw [plyA_2 (by assumption) (by omega)] | rw [plyA_0 (by assumption) (by omega), hkp]) ?_
              refine o_extract (nm .i64 ((plyA (l) (n) (k)).2.1)) Gd.none rfl rfl ?_
              refine n_as (v' := (nm .i64 ((plyV (l) (k).toNat (numS (n)) 0 ((300000 : Int))).2.1))) (by first | rw [plyA_1 (by assumption)] | rw [plyA_2 (by assumption) (by omega)] | rw [plyA_0 (by assumption) (by omega), hkp]) ?_
              refine o_extract (nm .i64 ((plyA (l) (n) (k)).2.2)) Gd.none rfl rfl ?_
              refine n_as (v' := (nm .i64 ((plyV (l) (k).toNat (numS (n)) 0 ((300000 : Int))).2.2.1))) (by first | rw [plyA_1 (by assumption)] | rw [plyA_2 (by assumption) (by omega)] | rw [plyA_0 (by assumption) (by omega), hkp]) ?_
              refine o_as (AV.lit (.string ((if (plyV (l) (k).toNat (numS (n)) 0 ((300000 : Int))).2.2.1 = 0 then txt (plyV (l) (k).toNat (numS (n)) 0 ((300000 : Int))).1 else { data := #[] })))) rfl ?_
              refine o_as (nm .i64 ((plyV (l) (k).toNat (numS (n)) 0 ((300000 : Int))).2.1)) rfl ?_
              refine o_as (nm .i64 ((plyV (l) (k).toNat (numS (n)) 0 ((300000 : Int))).2.2.1)) rfl ?_
              refine aops_end ?_
              refine hK42 _ ?_
              refine awp_seq fun K43 hK43 => ?_
              refine awp_seq fun K44 hK44 => ?_
              refine awp_region rfl ?_
              refine o_mv (AV.lit (.int .i64 (fstI (l) (numS (n))))) rfl ?_
              refine o_mv (AV.lit (.int .i64 (fstI (l) (numS (n))))) rfl ?_
              refine o_neq (a := (fstI (l) (numS (n)))) (c := (fstI (l) (numS (n)))) Gd.none rfl rfl ?_
              refine o_mv (bp ((fstI (l) (numS (n))) ≠ (fstI (l) (numS (n))))) rfl ?_
              refine o_move (nm .i64 (askE (l) (n))) (Gd.yes rfl rfl (decide_eq_false (fun h => h rfl))) rfl ?_
              refine o_move (nm .i64 (askE (l) (n))) (Gd.yes rfl rfl (decide_eq_false (fun h => h rfl))) rfl ?_
              refine n_neq (askE (l) (n)) (askE (l) (n)) (Gd.yes rfl rfl (decide_eq_false (fun h => h rfl))) rfl rfl ?_
              refine o_pickF (bp ((askE (l) (n)) ≠ (askE (l) (n)))) Gd.none rfl (decide_eq_false (fun h => h rfl)) rfl ?_
              refine o_mv (bp ((askE (l) (n)) ≠ (askE (l) (n)))) rfl ?_
              refine o_move (nm .i64 ((plyV (l) (k).toNat (numS (n)) 0 ((300000 : Int))).2.1)) (Gd.yes rfl rfl (decide_eq_false (fun h => h rfl))) rfl ?_
              refine o_move (nm .i64 ((plyV (l) (k).toNat (numS (n)) 0 ((300000 : Int))).2.1)) (Gd.yes rfl rfl (decide_eq_false (fun h => h rfl))) rfl ?_
              refine n_neq ((plyV (l) (k).toNat (numS (n)) 0 ((300000 : Int))).2.1) ((plyV (l) (k).toNat (numS (n)) 0 ((300000 : Int))).2.1) (Gd.yes rfl rfl (decide_eq_false (fun h => h rfl))) rfl rfl ?_
              refine o_pickF (bp (((plyV (l) (k).toNat (numS (n)) 0 ((300000 : Int))).2.1) ≠ ((plyV (l) (k).toNat (numS (n)) 0 ((300000 : Int))).2.1))) Gd.none rfl (decide_eq_false (fun h => h rfl)) rfl ?_
              refine o_mv (bp (((plyV (l) (k).toNat (numS (n)) 0 ((300000 : Int))).2.1) ≠ ((plyV (l) (k).toNat (numS (n)) 0 ((300000 : Int))).2.1))) rfl ?_
              refine o_move (nm .i64 ((plyV (l) (k).toNat (numS (n)) 0 ((300000 : Int))).2.2.1)) (Gd.yes rfl rfl (decide_eq_false (fun h => h rfl))) rfl ?_
              refine o_move (nm .i64 ((plyV (l) (k).toNat (numS (n)) 0 ((300000 : Int))).2.2.1)) (Gd.yes rfl rfl (decide_eq_false (fun h => h rfl))) rfl ?_
              refine n_neq ((plyV (l) (k).toNat (numS (n)) 0 ((300000 : Int))).2.2.1) ((plyV (l) (k).toNat (numS (n)) 0 ((300000 : Int))).2.2.1) (Gd.yes rfl rfl (decide_eq_false (fun h => h rfl))) rfl rfl ?_
              refine o_pickF (bp (((plyV (l) (k).toNat (numS (n)) 0 ((300000 : Int))).2.2.1) ≠ ((plyV (l) (k).toNat (numS (n)) 0 ((300000 : Int))).2.2.1))) Gd.none rfl (decide_eq_false (fun h => h rfl)) rfl ?_
              refine o_mv (bp (((plyV (l) (k).toNat (numS (n)) 0 ((300000 : Int))).2.2.1) ≠ ((plyV (l) (k).toNat (numS (n)) 0 ((300000 : Int))).2.2.1))) rfl ?_
              refine o_move (AV.sl 2 (gcells cF (l))) (Gd.yes rfl rfl (decide_eq_false (fun h => h rfl))) rfl ?_
              refine o_move (AV.sl 2 (gcells cF (l))) (Gd.yes rfl rfl (decide_eq_false (fun h => h rfl))) rfl ?_
              refine o_ct (c_vSameList (l) (by first | assumption | omega | decide)) (Gd.yes rfl rfl (decide_eq_false (fun h => h rfl))) Yj_tC17 rfl ?_
              refine o_not (b := true) (Gd.yes rfl rfl (decide_eq_false (fun h => h rfl))) rfl ?_
              refine o_pickF (AV.lit (.bool false)) Gd.none rfl (decide_eq_false (fun h => h rfl)) rfl ?_
              refine aops_end ?_
              refine hK44 _ ?_
              refine awp_condB (b := false) rfl (fun hh => absurd (hh.symm.trans rfl) (by decide)) (fun _ => ?_)
              refine awp_skip ?_
              refine hK43 _ ?_
              refine awp_seq fun K45 hK45 => ?_
              refine awp_region rfl ?_
              refine o_mv (nm .i64 ((plyV (l) (k).toNat (numS (n)) 0 ((300000 : Int))).2.2.1)) rfl ?_
              refine n_eql ((plyV (l) (k).toNat (numS (n)) 0 ((300000 : Int))).2.2.1) (0) Gd.none rfl rfl ?_
              refine o_mv (bp (((plyV (l) (k).toNat (numS (n)) 0 ((300000 : Int))).2.2.1) = (0))) rfl ?_
              refine o_splitP (q := ((plyV (l) (k).toNat (numS (n)) 0 ((300000 : Int))).2.2.1) = (0)) 104 rfl (fun h11 => ?_) (fun h11 => ?_)
              · refine o_move (AV.lit (.string ((if (plyV (l) (k).toNat (numS (n)) 0 ((300000 : Int))).2.2.1 = 0 then txt (plyV (l) (k).toNat (numS (n)) 0 ((300000 : Int))).1 else { data := #[] })))) (Gd.yes rfl rfl (decide_eq_true h11)) rfl ?_
                refine o_loadA [(bp ((plyV (l) (k).toNat (numS (n)) 0 ((300000 : Int))).1 < 0)), (AV.sl 1 (ns .i64 (digs ((plyV (l) (k).toNat (numS (n)) 0 ((300000 : Int))).1).natAbs)))] (Gd.yes rfl rfl (decide_eq_true h11)) Yj_tA39 rfl rfl rfl rfl rfl ?_
                refine o_ct (c_rText ((plyV (l) (k).toNat (numS (n)) 0 ((300000 : Int))).1) (by first | omega | assumption | (simp only [Int.natAbs_neg]; omega))) (Gd.yes rfl rfl (decide_eq_true h11)) Yj_tC27 rfl ?_
                refine o_eqlS (a := ((if (plyV (l) (k).toNat (numS (n)) 0 ((300000 : Int))).2.2.1 = 0 then txt (plyV (l) (k).toNat (numS (n)) 0 ((300000 : Int))).1 else { data := #[] }))) (c := (txt ((plyV (l) (k).toNat (numS (n)) 0 ((300000 : Int))).1))) (Gd.yes rfl rfl (decide_eq_true h11)) rfl rfl ?_
                refine n_as (v' := (AV.lit (.bool true))) (by exact bpy (by rw [if_pos (by assumption)])) ?_
                refine o_pickT (AV.lit (.bool true)) Gd.none rfl (decide_eq_true h11) rfl ?_
                refine o_mv (AV.lit (.bool true)) rfl ?_
                refine o_skip rfl rfl rfl ?_
                refine o_skip rfl rfl rfl ?_
                refine o_skip rfl rfl rfl ?_
                refine o_skipU rfl rfl ?_
                refine o_skipU rfl rfl ?_
                refine o_skip rfl rfl rfl ?_
                refine o_pickT (AV.lit (.bool true)) Gd.none rfl rfl rfl ?_
                refine o_mv (AV.lit (.bool true)) rfl ?_
                refine o_ct c_awake10 (Gd.yes rfl rfl rfl) Yj_tC16 rfl ?_
                refine o_pickT (AV.lit (.bool true)) Gd.none rfl rfl rfl ?_
                refine o_as (AV.lit (.bool true)) rfl ?_
                refine aops_end ?_
                refine hK45 _ ?_
                refine awp_ret ?_
                refine post_ret ⟨[(AV.lit (.bool true))], And.intro (AV.le_refl _) (trivial), rfl, ?_⟩
                first | rfl | simp [bp]
              · try have hkp := plyV_ply (l := l) k.toNat (numS n) 0 ((300000 : Int)) (by simpa using h11)
                refine o_skip rfl rfl (decide_eq_false h11) ?_
                refine o_skip rfl rfl (decide_eq_false h11) ?_
                refine o_skip rfl rfl (decide_eq_false h11) ?_
                refine o_skip rfl rfl (decide_eq_false h11) ?_
                refine o_pickF (AV.lit (.bool false)) Gd.none rfl (decide_eq_false h11) rfl ?_
                refine o_mv (AV.lit (.bool false)) rfl ?_
                refine o_move (nm .i64 ((plyV (l) (k).toNat (numS (n)) 0 ((300000 : Int))).2.2.1)) (Gd.yes rfl rfl rfl) rfl ?_
                refine n_neq ((plyV (l) (k).toNat (numS (n)) 0 ((300000 : Int))).2.2.1) (0) (Gd.yes rfl rfl rfl) rfl rfl ?_
                refine o_move (bp (((plyV (l) (k).toNat (numS (n)) 0 ((300000 : Int))).2.2.1) ≠ (0))) (Gd.yes rfl rfl rfl) rfl ?_
                refine o_move (AV.lit (.string ((if (plyV (l) (k).toNat (numS (n)) 0 ((300000 : Int))).2.2.1 = 0 then txt (plyV (l) (k).toNat (numS (n)) 0 ((300000 : Int))).1 else { data := #[] })))) (Gd.yes rfl rfl (decide_eq_true h11)) rfl ?_
                refine o_eqlS (a := ((if (plyV (l) (k).toNat (numS (n)) 0 ((300000 : Int))).2.2.1 = 0 then txt (plyV (l) (k).toNat (numS (n)) 0 ((300000 : Int))).1 else { data := #[] }))) (c := (({data := #[]} : ByteArray))) (Gd.yes rfl rfl (decide_eq_true h11)) rfl rfl ?_
                refine n_as (v' := (AV.lit (.bool true))) (by exact bpy (by rw [if_neg (by assumption)])) ?_
                refine o_pickT (AV.lit (.bool true)) (Gd.yes rfl rfl rfl) rfl (decide_eq_true h11) rfl ?_
                refine o_pickF (AV.lit (.bool true)) Gd.none rfl rfl rfl ?_
                refine o_mv (AV.lit (.bool true)) rfl ?_
                refine o_ct c_awake10 (Gd.yes rfl rfl rfl) Yj_tC16 rfl ?_
                refine o_pickT (AV.lit (.bool true)) Gd.none rfl rfl rfl ?_
                refine o_as (AV.lit (.bool true)) rfl ?_
                refine aops_end ?_
                refine hK45 _ ?_
                refine awp_ret ?_
                refine post_ret ⟨[(AV.lit (.bool true))], And.intro (AV.le_refl _) (trivial), rfl, ?_⟩
                first | rfl | simp [bp]
          · try have hkp := plyV_ply (l := l) k.toNat (numS n) 0 ((300000 : Int)) (by simpa using h9)
            refine awp_skip ?_
            refine hK8 _ ?_
            refine awp_seq fun K46 hK46 => ?_
            refine awp_region rfl ?_
            refine o_mv (AV.sl 2 (gcells cF (l))) rfl ?_
            refine o_mv (AV.lit (.string (n))) rfl ?_
            refine o_ct (c_First (l) (n) (by assumption) (by first | assumption | decide | omega)) Gd.none Yj_tC25 rfl ?_
            refine o_mv (AV.tup [(AV.lit (.int .i64 (firI (l) (n)))), (nm .i64 (firE (l) (n)))]) rfl ?_
            refine o_extract (AV.lit (.int .i64 (firI (l) (n)))) Gd.none rfl rfl ?_
            refine n_as (v' := (AV.lit (.int .i64 (fstI (l) (numS (n)))))) (by first | exact nm_int (if_neg (fun o => absurd o.1 (by assumption))) | exact nm_int (if_neg (fun o => absurd o.2 (by omega))) | exact congrArg (fun z => AV.lit (.int .i64 z)) (if_pos ⟨by assumption, by omega⟩)) ?_
            refine o_extract (nm .i64 (firE (l) (n))) Gd.none rfl rfl ?_
            refine n_as (v' := (nm .i64 (askE (l) (n)))) (by first | exact congrArg (nm _) (if_neg (by assumption)) | exact congrArg (nm _) ((if_pos (by assumption)).trans (if_neg (by omega))) | exact congrArg (nm _) (((if_pos h2).trans (if_pos (by omega))).trans h2.symm)) ?_
            refine o_as (AV.lit (.int .i64 (fstI (l) (numS (n))))) rfl ?_
            refine o_as (nm .i64 (askE (l) (n))) rfl ?_
            refine aops_end ?_
            refine hK46 _ ?_
            refine awp_seq fun K47 hK47 => ?_
            refine awp_region rfl ?_
            refine o_mv (AV.sl 2 (gcells cF (l))) rfl ?_
            refine o_mv (AV.lit (.string (n))) rfl ?_
            refine o_mv (AV.lit (.int .i64 (k))) rfl ?_
            refine o_ct (c_Play (l) (n) (k) (by first | assumption | exact ex_sz) (by first | assumption | decide | omega)) Gd.none Yj_tC26 rfl ?_
            refine o_mv (AV.tup [(AV.lit (.string ((plyA (l) (n) (k)).1))), (nm .i64 ((plyA (l) (n) (k)).2.1)), (nm .i64 ((plyA (l) (n) (k)).2.2))]) rfl ?_
            refine o_extract (AV.lit (.string ((plyA (l) (n) (k)).1))) Gd.none rfl rfl ?_
            refine n_as (v' := (AV.lit (.string (({data := #[]} : ByteArray))))) (by first | rw [plyA_1 (by assumption)] | rw [plyA_2 (by assumption) (by omega)] | rw [plyA_0 (by assumption) (by omega), hkp]) ?_
            refine o_extract (nm .i64 ((plyA (l) (n) (k)).2.1)) Gd.none rfl rfl ?_
            refine n_as (v' := (nm .i64 (0))) (by first | rw [plyA_1 (by assumption)] | rw [plyA_2 (by assumption) (by omega)] | rw [plyA_0 (by assumption) (by omega), hkp]) ?_
            refine o_extract (nm .i64 ((plyA (l) (n) (k)).2.2)) Gd.none rfl rfl ?_
            refine n_as (v' := (nm .i64 (2))) (by first | rw [plyA_1 (by assumption)] | rw [plyA_2 (by assumption) (by omega)] | rw [plyA_0 (by assumption) (by omega), hkp]) ?_
            refine o_as (AV.lit (.string (({data := #[]} : ByteArray)))) rfl ?_
            refine o_as (nm .i64 (0)) rfl ?_
            refine o_as (nm .i64 (2)) rfl ?_
            refine aops_end ?_
            refine hK47 _ ?_
            refine awp_seq fun K48 hK48 => ?_
            refine awp_seq fun K49 hK49 => ?_
            refine awp_region rfl ?_
            refine o_mv (AV.lit (.int .i64 (fstI (l) (numS (n))))) rfl ?_
            refine o_mv (AV.lit (.int .i64 (fstI (l) (numS (n))))) rfl ?_
            refine o_neq (a := (fstI (l) (numS (n)))) (c := (fstI (l) (numS (n)))) Gd.none rfl rfl ?_
            refine o_mv (bp ((fstI (l) (numS (n))) ≠ (fstI (l) (numS (n))))) rfl ?_
            refine o_move (nm .i64 (askE (l) (n))) (Gd.yes rfl rfl (decide_eq_false (fun h => h rfl))) rfl ?_
            refine o_move (nm .i64 (askE (l) (n))) (Gd.yes rfl rfl (decide_eq_false (fun h => h rfl))) rfl ?_
            refine n_neq (askE (l) (n)) (askE (l) (n)) (Gd.yes rfl rfl (decide_eq_false (fun h => h rfl))) rfl rfl ?_
            refine o_pickF (bp ((askE (l) (n)) ≠ (askE (l) (n)))) Gd.none rfl (decide_eq_false (fun h => h rfl)) rfl ?_
            refine o_mv (bp ((askE (l) (n)) ≠ (askE (l) (n)))) rfl ?_
            refine o_move (nm .i64 (0)) (Gd.yes rfl rfl (decide_eq_false (fun h => h rfl))) rfl ?_
            refine o_move (nm .i64 (0)) (Gd.yes rfl rfl (decide_eq_false (fun h => h rfl))) rfl ?_
            refine n_neq (0) (0) (Gd.yes rfl rfl (decide_eq_false (fun h => h rfl))) rfl rfl ?_
            refine o_pickF (bp ((0) ≠ (0))) Gd.none rfl (decide_eq_false (fun h => h rfl)) rfl ?_
            refine o_mv (bp ((0) ≠ (0))) rfl ?_
            refine o_move (nm .i64 (2)) (Gd.yes rfl rfl (decide_eq_false (by decide))) rfl ?_
            refine o_move (nm .i64 (2)) (Gd.yes rfl rfl (decide_eq_false (by decide))) rfl ?_
            refine n_neq (2) (2) (Gd.yes rfl rfl (decide_eq_false (by decide))) rfl rfl ?_
            refine o_pickF (bp ((2) ≠ (2))) Gd.none rfl (decide_eq_false (by decide)) rfl ?_
            refine o_mv (bp ((2) ≠ (2))) rfl ?_
            refine o_move (AV.sl 2 (gcells cF (l))) (Gd.yes rfl rfl (decide_eq_false (by decide))) rfl ?_
            refine o_move (AV.sl 2 (gcells cF (l))) (Gd.yes rfl rfl (decide_eq_false (by decide))) rfl ?_
            refine o_ct (c_vSameList (l) (by first | assumption | omega | decide)) (Gd.yes rfl rfl (decide_eq_false (by decide))) Yj_tC17 rfl ?_
            refine o_not (b := true) (Gd.yes rfl rfl (decide_eq_false (by decide))) rfl ?_
            refine o_pickF (AV.lit (.bool false)) Gd.none rfl (decide_eq_false (by decide)) rfl ?_
            refine aops_end ?_
            refine hK49 _ ?_
            refine awp_condB (b := false) rfl (fun hh => absurd (hh.symm.trans rfl) (by decide)) (fun _ => ?_)
            refine awp_skip ?_
            refine hK48 _ ?_
            refine awp_seq fun K50 hK50 => ?_
            refine awp_region rfl ?_
            refine o_mv (nm .i64 (2)) rfl ?_
            refine n_eql (2) (0) Gd.none rfl rfl ?_
            refine o_mv (bp ((2) = (0))) rfl ?_
            refine o_skip rfl rfl (decide_eq_false (by decide)) ?_
            refine o_skip rfl rfl (decide_eq_false (by decide)) ?_
            refine o_skip rfl rfl (decide_eq_false (by decide)) ?_
            refine o_skip rfl rfl (decide_eq_false (by decide)) ?_
            refine o_pickF (AV.lit (.bool false)) Gd.none rfl (decide_eq_false (by decide)) rfl ?_
            refine o_mv (AV.lit (.bool false)) rfl ?_
            refine o_move (nm .i64 (2)) (Gd.yes rfl rfl rfl) rfl ?_
            refine n_neq (2) (0) (Gd.yes rfl rfl rfl) rfl rfl ?_
            refine o_move (bp ((2) ≠ (0))) (Gd.yes rfl rfl rfl) rfl ?_
            refine o_move (AV.lit (.string (({data := #[]} : ByteArray)))) (Gd.yes rfl rfl (decide_eq_true (by decide))) rfl ?_
            refine o_eqlS (a := (({data := #[]} : ByteArray))) (c := (({data := #[]} : ByteArray))) (Gd.yes rfl rfl (decide_eq_true (by decide))) rfl rfl ?_
            refine o_pickT (bp ((({data := #[]} : ByteArray)).toList = (({data := #[]} : ByteArray)).toList)) (Gd.yes rfl rfl rfl) rfl (decide_eq_true (by decide)) rfl ?_
            refine o_pickF (bp ((({data := #[]} : ByteArray)).toList = (({data := #[]} : ByteArray)).toList)) Gd.none rfl rfl rfl ?_
            refine o_mv (bp ((({data := #[]} : ByteArray)).toList = (({data := #[]} : ByteArray)).toList)) rfl ?_
            refine o_ct c_awake10 (Gd.yes rfl rfl (decide_eq_true rfl)) Yj_tC16 rfl ?_
            refine o_pickT (AV.lit (.bool true)) Gd.none rfl (decide_eq_true rfl) rfl ?_
            refine o_as (AV.lit (.bool true)) rfl ?_
            refine aops_end ?_
            refine hK50 _ ?_
            refine awp_ret ?_
            refine post_ret ⟨[(AV.lit (.bool true))], And.intro (AV.le_refl _) (trivial), rfl, ?_⟩
            first | rfl | simp [bp]
        · try have hkp := plyV_ply (l := l) k.toNat (numS n) 0 ((300000 : Int)) (by simpa using h8)
          refine o_skip rfl rfl (decide_eq_false h8) ?_
          refine o_skip rfl rfl (decide_eq_false h8) ?_
          refine o_pickF (AV.lit (.bool false)) Gd.none rfl (decide_eq_false h8) rfl ?_
          refine aops_end ?_
          refine hK36 _ ?_
          refine awp_condB (b := false) rfl (fun hh => absurd (hh.symm.trans rfl) (by decide)) (fun _ => ?_)
          refine awp_skip ?_
          refine hK8 _ ?_
          refine awp_seq fun K51 hK51 => ?_
          refine awp_region rfl ?_
          refine o_mv (AV.sl 2 (gcells cF (l))) rfl ?_
          refine o_mv (AV.lit (.string (n))) rfl ?_
          refine o_ct (c_First (l) (n) (by assumption) (by first | assumption | decide | omega)) Gd.none Yj_tC25 rfl ?_
          refine o_mv (AV.tup [(AV.lit (.int .i64 (firI (l) (n)))), (nm .i64 (firE (l) (n)))]) rfl ?_
          refine o_extract (AV.lit (.int .i64 (firI (l) (n)))) Gd.none rfl rfl ?_
          refine n_as (v' := (AV.lit (.int .i64 (fstI (l) (numS (n)))))) (by first | exact nm_int (if_neg (fun o => absurd o.1 (by assumption))) | exact nm_int (if_neg (fun o => absurd o.2 (by omega))) | exact congrArg (fun z => AV.lit (.int .i64 z)) (if_pos ⟨by assumption, by omega⟩)) ?_
          refine o_extract (nm .i64 (firE (l) (n))) Gd.none rfl rfl ?_
          refine n_as (v' := (nm .i64 (askE (l) (n)))) (by first | exact congrArg (nm _) (if_neg (by assumption)) | exact congrArg (nm _) ((if_pos (by assumption)).trans (if_neg (by omega))) | exact congrArg (nm _) (((if_pos h2).trans (if_pos (by omega))).trans h2.symm)) ?_
          refine o_as (AV.lit (.int .i64 (fstI (l) (numS (n))))) rfl ?_
          refine o_as (nm .i64 (askE (l) (n))) rfl ?_
          refine aops_end ?_
          refine hK51 _ ?_
          refine awp_seq fun K52 hK52 => ?_
          refine awp_region rfl ?_
          refine o_mv (AV.sl 2 (gcells cF (l))) rfl ?_
          refine o_mv (AV.lit (.string (n))) rfl ?_
          refine o_mv (AV.lit (.int .i64 (k))) rfl ?_
          refine o_ct (c_Play (l) (n) (k) (by first | assumption | exact ex_sz) (by first | assumption | decide | omega)) Gd.none Yj_tC26 rfl ?_
          refine o_mv (AV.tup [(AV.lit (.string ((plyA (l) (n) (k)).1))), (nm .i64 ((plyA (l) (n) (k)).2.1)), (nm .i64 ((plyA (l) (n) (k)).2.2))]) rfl ?_
          refine o_extract (AV.lit (.string ((plyA (l) (n) (k)).1))) Gd.none rfl rfl ?_
          refine n_as (v' := (AV.lit (.string (({data := #[]} : ByteArray))))) (by first | rw [plyA_1 (by assumption)] | rw [plyA_2 (by assumption) (by omega)] | rw [plyA_0 (by assumption) (by omega), hkp]) ?_
          refine o_extract (nm .i64 ((plyA (l) (n) (k)).2.1)) Gd.none rfl rfl ?_
          refine n_as (v' := (nm .i64 (0))) (by first | rw [plyA_1 (by assumption)] | rw [plyA_2 (by assumption) (by omega)] | rw [plyA_0 (by assumption) (by omega), hkp]) ?_
          refine o_extract (nm .i64 ((plyA (l) (n) (k)).2.2)) Gd.none rfl rfl ?_
          refine n_as (v' := (nm .i64 (2))) (by first | rw [plyA_1 (by assumption)] | rw [plyA_2 (by assumption) (by omega)] | rw [plyA_0 (by assumption) (by omega), hkp]) ?_
          refine o_as (AV.lit (.string (({data := #[]} : ByteArray)))) rfl ?_
          refine o_as (nm .i64 (0)) rfl ?_
          refine o_as (nm .i64 (2)) rfl ?_
          refine aops_end ?_
          refine hK52 _ ?_
          refine awp_seq fun K53 hK53 => ?_
          refine awp_seq fun K54 hK54 => ?_
          refine awp_region rfl ?_
          refine o_mv (AV.lit (.int .i64 (fstI (l) (numS (n))))) rfl ?_
          refine o_mv (AV.lit (.int .i64 (fstI (l) (numS (n))))) rfl ?_
          refine o_neq (a := (fstI (l) (numS (n)))) (c := (fstI (l) (numS (n)))) Gd.none rfl rfl ?_
          refine o_mv (bp ((fstI (l) (numS (n))) ≠ (fstI (l) (numS (n))))) rfl ?_
          refine o_move (nm .i64 (askE (l) (n))) (Gd.yes rfl rfl (decide_eq_false (fun h => h rfl))) rfl ?_
          refine o_move (nm .i64 (askE (l) (n))) (Gd.yes rfl rfl (decide_eq_false (fun h => h rfl))) rfl ?_
          refine n_neq (askE (l) (n)) (askE (l) (n)) (Gd.yes rfl rfl (decide_eq_false (fun h => h rfl))) rfl rfl ?_
          refine o_pickF (bp ((askE (l) (n)) ≠ (askE (l) (n)))) Gd.none rfl (decide_eq_false (fun h => h rfl)) rfl ?_
          refine o_mv (bp ((askE (l) (n)) ≠ (askE (l) (n)))) rfl ?_
          refine o_move (nm .i64 (0)) (Gd.yes rfl rfl (decide_eq_false (fun h => h rfl))) rfl ?_
          refine o_move (nm .i64 (0)) (Gd.yes rfl rfl (decide_eq_false (fun h => h rfl))) rfl ?_
          refine n_neq (0) (0) (Gd.yes rfl rfl (decide_eq_false (fun h => h rfl))) rfl rfl ?_
          refine o_pickF (bp ((0) ≠ (0))) Gd.none rfl (decide_eq_false (fun h => h rfl)) rfl ?_
          refine o_mv (bp ((0) ≠ (0))) rfl ?_
          refine o_move (nm .i64 (2)) (Gd.yes rfl rfl (decide_eq_false (by decide))) rfl ?_
          refine o_move (nm .i64 (2)) (Gd.yes rfl rfl (decide_eq_false (by decide))) rfl ?_
          refine n_neq (2) (2) (Gd.yes rfl rfl (decide_eq_false (by decide))) rfl rfl ?_
          refine o_pickF (bp ((2) ≠ (2))) Gd.none rfl (decide_eq_false (by decide)) rfl ?_
          refine o_mv (bp ((2) ≠ (2))) rfl ?_
          refine o_move (AV.sl 2 (gcells cF (l))) (Gd.yes rfl rfl (decide_eq_false (by decide))) rfl ?_
          refine o_move (AV.sl 2 (gcells cF (l))) (Gd.yes rfl rfl (decide_eq_false (by decide))) rfl ?_
          refine o_ct (c_vSameList (l) (by first | assumption | omega | decide)) (Gd.yes rfl rfl (decide_eq_false (by decide))) Yj_tC17 rfl ?_
          refine o_not (b := true) (Gd.yes rfl rfl (decide_eq_false (by decide))) rfl ?_
          refine o_pickF (AV.lit (.bool false)) Gd.none rfl (decide_eq_false (by decide)) rfl ?_
          refine aops_end ?_
          refine hK54 _ ?_
          refine awp_condB (b := false) rfl (fun hh => absurd (hh.symm.trans rfl) (by decide)) (fun _ => ?_)
          refine awp_skip ?_
          refine hK53 _ ?_
          refine awp_seq fun K55 hK55 => ?_
          refine awp_region rfl ?_
          refine o_mv (nm .i64 (2)) rfl ?_
          refine n_eql (2) (0) Gd.none rfl rfl ?_
          refine o_mv (bp ((2) = (0))) rfl ?_
          refine o_skip rfl rfl (decide_eq_false (by decide)) ?_
          refine o_skip rfl rfl (decide_eq_false (by decide)) ?_
          refine o_skip rfl rfl (decide_eq_false (by decide)) ?_
          refine o_skip rfl rfl (decide_eq_false (by decide)) ?_
          refine o_pickF (AV.lit (.bool false)) Gd.none rfl (decide_eq_false (by decide)) rfl ?_
          refine o_mv (AV.lit (.bool false)) rfl ?_
          refine o_move (nm .i64 (2)) (Gd.yes rfl rfl rfl) rfl ?_
          refine n_neq (2) (0) (Gd.yes rfl rfl rfl) rfl rfl ?_
          refine o_move (bp ((2) ≠ (0))) (Gd.yes rfl rfl rfl) rfl ?_
          refine o_move (AV.lit (.string (({data := #[]} : ByteArray)))) (Gd.yes rfl rfl (decide_eq_true (by decide))) rfl ?_
          refine o_eqlS (a := (({data := #[]} : ByteArray))) (c := (({data := #[]} : ByteArray))) (Gd.yes rfl rfl (decide_eq_true (by decide))) rfl rfl ?_
          refine o_pickT (bp ((({data := #[]} : ByteArray)).toList = (({data := #[]} : ByteArray)).toList)) (Gd.yes rfl rfl rfl) rfl (decide_eq_true (by decide)) rfl ?_
          refine o_pickF (bp ((({data := #[]} : ByteArray)).toList = (({data := #[]} : ByteArray)).toList)) Gd.none rfl rfl rfl ?_
          refine o_mv (bp ((({data := #[]} : ByteArray)).toList = (({data := #[]} : ByteArray)).toList)) rfl ?_
          refine o_ct c_awake10 (Gd.yes rfl rfl (decide_eq_true rfl)) Yj_tC16 rfl ?_
          refine o_pickT (AV.lit (.bool true)) Gd.none rfl (decide_eq_true rfl) rfl ?_
          refine o_as (AV.lit (.bool true)) rfl ?_
          refine aops_end ?_
          refine hK55 _ ?_
          refine awp_ret ?_
          refine post_ret ⟨[(AV.lit (.bool true))], And.intro (AV.le_refl _) (trivial), rfl, ?_⟩
          first | rfl | simp [bp]
    · refine awp_skip ?_
      refine hK8 _ ?_
      refine awp_seq fun K56 hK56 => ?_
      refine awp_region rfl ?_
      refine o_mv (AV.sl 2 (gcells cF (l))) rfl ?_
      refine o_mv (AV.lit (.string (n))) rfl ?_
      refine o_ct (c_First (l) (n) (by assumption) (by first | assumption | decide | omega)) Gd.none Yj_tC25 rfl ?_
      refine o_mv (AV.tup [(AV.lit (.int .i64 (firI (l) (n)))), (nm .i64 (firE (l) (n)))]) rfl ?_
      refine o_extract (AV.lit (.int .i64 (firI (l) (n)))) Gd.none rfl rfl ?_
      refine n_as (v' := (nm .i64 (0))) (by first | exact nm_int (if_neg (fun o => absurd o.1 (by assumption))) | exact nm_int (if_neg (fun o => absurd o.2 (by omega))) | exact congrArg (fun z => AV.lit (.int .i64 z)) (if_pos ⟨by assumption, by omega⟩)) ?_
      refine o_extract (nm .i64 (firE (l) (n))) Gd.none rfl rfl ?_
      refine n_as (v' := (nm .i64 (askE (l) (n)))) (by first | exact congrArg (nm _) (if_neg (by assumption)) | exact congrArg (nm _) ((if_pos (by assumption)).trans (if_neg (by omega))) | exact congrArg (nm _) (((if_pos h2).trans (if_pos (by omega))).trans h2.symm)) ?_
      refine o_as (nm .i64 (0)) rfl ?_
      refine o_as (nm .i64 (askE (l) (n))) rfl ?_
      refine aops_end ?_
      refine hK56 _ ?_
      refine awp_seq fun K57 hK57 => ?_
      refine awp_region rfl ?_
      refine o_mv (AV.sl 2 (gcells cF (l))) rfl ?_
      refine o_mv (AV.lit (.string (n))) rfl ?_
      refine o_mv (AV.lit (.int .i64 (k))) rfl ?_
      refine o_ct (c_Play (l) (n) (k) (by first | assumption | exact ex_sz) (by first | assumption | decide | omega)) Gd.none Yj_tC26 rfl ?_
      refine o_mv (AV.tup [(AV.lit (.string ((plyA (l) (n) (k)).1))), (nm .i64 ((plyA (l) (n) (k)).2.1)), (nm .i64 ((plyA (l) (n) (k)).2.2))]) rfl ?_
      refine o_extract (AV.lit (.string ((plyA (l) (n) (k)).1))) Gd.none rfl rfl ?_
      refine n_as (v' := (AV.lit (.string (({data := #[]} : ByteArray))))) (by first | rw [plyA_1 (by assumption)] | rw [plyA_2 (by assumption) (by omega)] | rw [plyA_0 (by assumption) (by omega), hkp]) ?_
      refine o_extract (nm .i64 ((plyA (l) (n) (k)).2.1)) Gd.none rfl rfl ?_
      refine n_as (v' := (nm .i64 (0))) (by first | rw [plyA_1 (by assumption)] | rw [plyA_2 (by assumption) (by omega)] | rw [plyA_0 (by assumption) (by omega), hkp]) ?_
      refine o_extract (nm .i64 ((plyA (l) (n) (k)).2.2)) Gd.none rfl rfl ?_
      refine n_as (v' := (nm .i64 (askE (l) (n)))) (by first | rw [plyA_1 (by assumption)] | rw [plyA_2 (by assumption) (by omega)] | rw [plyA_0 (by assumption) (by omega), hkp]) ?_
      refine o_as (AV.lit (.string (({data := #[]} : ByteArray)))) rfl ?_
      refine o_as (nm .i64 (0)) rfl ?_
      refine o_as (nm .i64 (askE (l) (n))) rfl ?_
      refine aops_end ?_
      refine hK57 _ ?_
      refine awp_seq fun K58 hK58 => ?_
      refine awp_seq fun K59 hK59 => ?_
      refine awp_region rfl ?_
      refine o_mv (nm .i64 (0)) rfl ?_
      refine o_mv (nm .i64 (0)) rfl ?_
      refine n_neq (0) (0) Gd.none rfl rfl ?_
      refine o_mv (bp ((0) ≠ (0))) rfl ?_
      refine o_move (nm .i64 (askE (l) (n))) (Gd.yes rfl rfl (decide_eq_false (by decide))) rfl ?_
      refine o_move (nm .i64 (askE (l) (n))) (Gd.yes rfl rfl (decide_eq_false (by decide))) rfl ?_
      refine n_neq (askE (l) (n)) (askE (l) (n)) (Gd.yes rfl rfl (decide_eq_false (by decide))) rfl rfl ?_
      refine o_pickF (bp ((askE (l) (n)) ≠ (askE (l) (n)))) Gd.none rfl (decide_eq_false (by decide)) rfl ?_
      refine o_mv (bp ((askE (l) (n)) ≠ (askE (l) (n)))) rfl ?_
      refine o_move (nm .i64 (0)) (Gd.yes rfl rfl (decide_eq_false (fun h => h rfl))) rfl ?_
      refine o_move (nm .i64 (0)) (Gd.yes rfl rfl (decide_eq_false (fun h => h rfl))) rfl ?_
      refine n_neq (0) (0) (Gd.yes rfl rfl (decide_eq_false (fun h => h rfl))) rfl rfl ?_
      refine o_pickF (bp ((0) ≠ (0))) Gd.none rfl (decide_eq_false (fun h => h rfl)) rfl ?_
      refine o_mv (bp ((0) ≠ (0))) rfl ?_
      refine o_move (nm .i64 (askE (l) (n))) (Gd.yes rfl rfl (decide_eq_false (by decide))) rfl ?_
      refine o_move (nm .i64 (askE (l) (n))) (Gd.yes rfl rfl (decide_eq_false (by decide))) rfl ?_
      refine n_neq (askE (l) (n)) (askE (l) (n)) (Gd.yes rfl rfl (decide_eq_false (by decide))) rfl rfl ?_
      refine o_pickF (bp ((askE (l) (n)) ≠ (askE (l) (n)))) Gd.none rfl (decide_eq_false (by decide)) rfl ?_
      refine o_mv (bp ((askE (l) (n)) ≠ (askE (l) (n)))) rfl ?_
      refine o_move (AV.sl 2 (gcells cF (l))) (Gd.yes rfl rfl (decide_eq_false (fun h => h rfl))) rfl ?_
      refine o_move (AV.sl 2 (gcells cF (l))) (Gd.yes rfl rfl (decide_eq_false (fun h => h rfl))) rfl ?_
      refine o_ct (c_vSameList (l) (by first | assumption | omega | decide)) (Gd.yes rfl rfl (decide_eq_false (fun h => h rfl))) Yj_tC17 rfl ?_
      refine o_not (b := true) (Gd.yes rfl rfl (decide_eq_false (fun h => h rfl))) rfl ?_
      refine o_pickF (AV.lit (.bool false)) Gd.none rfl (decide_eq_false (fun h => h rfl)) rfl ?_
      refine aops_end ?_
      refine hK59 _ ?_
      refine awp_condB (b := false) rfl (fun hh => absurd (hh.symm.trans rfl) (by decide)) (fun _ => ?_)
      refine awp_skip ?_
      refine hK58 _ ?_
      refine awp_seq fun K60 hK60 => ?_
      refine awp_region rfl ?_
      refine o_mv (nm .i64 (askE (l) (n))) rfl ?_
      refine n_eql (askE (l) (n)) (0) Gd.none rfl rfl ?_
      refine o_mv (bp ((askE (l) (n)) = (0))) rfl ?_
      refine o_skip rfl rfl (decide_eq_false h2) ?_
      refine o_skip rfl rfl (decide_eq_false h2) ?_
      refine o_skip rfl rfl (decide_eq_false h2) ?_
      refine o_skip rfl rfl (decide_eq_false h2) ?_
      refine o_pickF (AV.lit (.bool false)) Gd.none rfl (decide_eq_false h2) rfl ?_
      refine o_mv (AV.lit (.bool false)) rfl ?_
      refine o_move (nm .i64 (askE (l) (n))) (Gd.yes rfl rfl rfl) rfl ?_
      refine n_neq (askE (l) (n)) (0) (Gd.yes rfl rfl rfl) rfl rfl ?_
      refine o_move (bp ((askE (l) (n)) ≠ (0))) (Gd.yes rfl rfl rfl) rfl ?_
      refine o_move (AV.lit (.string (({data := #[]} : ByteArray)))) (Gd.yes rfl rfl (decide_eq_true h2)) rfl ?_
      refine o_eqlS (a := (({data := #[]} : ByteArray))) (c := (({data := #[]} : ByteArray))) (Gd.yes rfl rfl (decide_eq_true h2)) rfl rfl ?_
      refine o_pickT (bp ((({data := #[]} : ByteArray)).toList = (({data := #[]} : ByteArray)).toList)) (Gd.yes rfl rfl rfl) rfl (decide_eq_true h2) rfl ?_
      refine o_pickF (bp ((({data := #[]} : ByteArray)).toList = (({data := #[]} : ByteArray)).toList)) Gd.none rfl rfl rfl ?_
      refine o_mv (bp ((({data := #[]} : ByteArray)).toList = (({data := #[]} : ByteArray)).toList)) rfl ?_
      refine o_ct c_awake10 (Gd.yes rfl rfl (decide_eq_true rfl)) Yj_tC16 rfl ?_
      refine o_pickT (AV.lit (.bool true)) Gd.none rfl (decide_eq_true rfl) rfl ?_
      refine o_as (AV.lit (.bool true)) rfl ?_
      refine aops_end ?_
      refine hK60 _ ?_
      refine awp_ret ?_
      refine post_ret ⟨[(AV.lit (.bool true))], And.intro (AV.le_refl _) (trivial), rfl, ?_⟩
      first | rfl | simp [bp]

end Go.Proofs.YtnejjdcbbminaaaGreatDoor

set_option linter.unusedVariables false
namespace Go.Proofs.YtnejjdcbbminaaaGreatDoor.fractionPlays
open Go Go.Ab Go.Mth Go.ChangeShapes Go.WideShapes Go.ChangeAt Go.RowKit
theorem reads (os : Os) {H : Type} (enc : TypeId × Value → H) : ∃ places, DataW.whole enc Tryz.prog ((World.laidAll Tryz.prog os laid5).forCall (fun _ _ => 0) ⟨#[], #[.slice none 0 0, .string ByteArray.empty, .int .i64 0], []⟩).memory Tryz.f4.params.toList Rows.fractionPlaysSpec.vars false (#[.slice none 0 0, .string ByteArray.empty, .int .i64 0] : Array Value).toList 8 = some ([.nil, .lit (.string []), .lit (.int .i64 0)], [], places) := ⟨[], by kernel_rfl⟩
theorem met (os : Os) : laidMetH Tryz.prog laid5 ((World.laidAll Tryz.prog os laid5).forCall (fun _ _ => 0) ⟨#[], #[.slice none 0 0, .string ByteArray.empty, .int .i64 0], []⟩).memory := (MakeChecks.laidMetH_plain _ _ _ (by kernel_rfl)).mpr (laidMet_laidAll _ (by kernel_rfl) (by kernel_rfl))
theorem specs {H : Type} (ds : List (DataW H)) (h : ds.length = 3) : (Rows.fractionPlaysSpec.fn H ds).results = [.lit (.bool true)] ∧ (Rows.fractionPlaysSpec.fn H ds).args = ds ∧ (Rows.fractionPlaysSpec.fn H ds).vars = [] := by
  rcases ds with _ | ⟨d0, _ | ⟨d1, _ | ⟨d2, _ | ⟨e, t⟩⟩⟩⟩ <;> simp at h <;> exact ⟨rfl, rfl, rfl⟩
set_option maxRecDepth 100000 in
theorem opened {H : Type} (enc : TypeId × Value → H) (W : World) (base : Nat) (args : Array Value) (ds : List (DataW H)) (ps : List MemPlace) (hval : ∀ (j : Nat) t v, (#[26, 9, 3] : Array TypeId)[j]? = some t → args[j]? = some v → Value.okWide Tryz.prog W .any base t v)
    (hA : DataW.TrodAll enc Tryz.prog W 0 (fun _ => true) true [26, 9, 3] args.toList ds ps) (hsz : (DataW.weightsEach Tryz.prog [26, 9, 3] ds).all (· ≤ reachBytes) = true) : ∃ xs, RepL (memOf W) xs noLoc args.toList ∧ ECalls cx 4 xs (.lit (.bool true)) := by
  obtain ⟨v0, vs0, d0, ds0, p0, q0, hargs, rfl, rfl, h0, r0⟩ := trodAll_cons hA
  obtain ⟨v1, vs1, d1, ds1, p1, q1, rfl, rfl, rfl, h1, r1⟩ := trodAll_cons r0
  obtain ⟨v2, vs2, d2, ds2, p2, q2, rfl, rfl, rfl, h2, r2⟩ := trodAll_cons r1
  obtain ⟨rfl, rfl, rfl⟩ := trodAll_nil r2
  obtain rfl : args = #[v0, v1, v2] := by cases args; simp_all
  obtain ⟨l0, e0, bq0, cq0⟩ := rep_frcs (hval 0 26 v0 rfl rfl) h0 (fun n hn => by simpa using List.all_eq_true.1 hsz n (DataW.weights_mem_each (j := 0) rfl rfl n hn))
  obtain ⟨a1, e1, b1⟩ := rep_str (hval 1 9 v1 rfl rfl) h1
  obtain ⟨k2, e2, b2⟩ := rep_int (hval 2 3 v2 rfl rfl) h2
  exact ⟨[.sl 2 (gcells cF l0), .lit (.string a1), .lit (.int .i64 k2)], RepL.cons e0 (RepL.cons e1 (RepL.cons e2 (by simp only [RepL]))), c_FractionPlays l0 a1 k2 bq0 cq0 b1⟩
set_option maxRecDepth 100000 in
theorem lifted (os : Os) (started : os.Started) (H : Type) (enc : TypeId × Value → H) (F : Stop.Interp) :
    ReturnsInHanded {} Tryz.checked os 4 .any ((OpenSpec.ofChange Rows.fractionPlaysSpec).preRow enc Tryz.prog Tryz.f4 Rows.fractionPlaysRow.domain false Rows.fractionPlaysRow.laid) (((OpenSpec.ofChange Rows.fractionPlaysSpec).at F).post enc Tryz.prog Tryz.f4 false true false false) := by
  obtain ⟨places, hx⟩ := reads os enc
  refine lifted_of (C := Tryz.checked) started cx rfl ownT (by kernel_rfl) Tryz.func4 (witness_laid #[.slice none 0 0, .string ByteArray.empty, .int .i64 0] (by kernel_rfl) (by kernel_rfl) (by kernel_rfl) (OpenSpec.preRow_of_cond 8 hx (by kernel_rfl) (fun k hk => by cases hk) (by kernel_rfl) (met os))) laidOutT (by kernel_rfl) (tb := 4) (by kernel_rfl) u4T rfl (fun ds h => specs ds (h.trans (by kernel_rfl))) (fun W h => tabG_of h) ?_
  intro W base args ds ps hval hA hsz
  exact opened enc W base args ds ps hval hA hsz
theorem said : Rows.FractionPlaysSaid :=
  OpenClaim.holds_of_cond 4 Tryz.f4 rfl rfl rfl rfl rfl rfl rfl ⟨rfl, rfl, rfl, rfl, rfl⟩ rfl rfl rfl rfl rfl (by kernel_rfl) Tryz.func4 (by kernel_rfl)
    (of_decide_eq_true (by kernel_rfl)) (by unfold Func.isWrapper; first | (rw [if_pos (by decide +kernel)]; kernel_rfl) | (rw [if_neg (by decide +kernel)]; exact ⟨rfl, rfl⟩))
    (fun os started H enc _ F => by rw [OpenClaim.pre_eq_preRow]; exact lifted os started H enc F)
theorem plain (f : FuncId) (fn : Func) (hf : Tryz.pinned.checked.prog.funcNamed "katabasis/katabasislaw10.FractionPlays" = some f) (hfn : Tryz.pinned.checked.prog.funcs[f]? = some fn) :
    true = Tryz.pinned.checked.prog.looks [] ∧ ∀ (j : Nat) t, fn.params[j]? = some t → Tryz.pinned.checked.prog.wantsStandIn t = false := by
  obtain rfl : f = 4 := Option.some.inj ((show Tryz.prog.funcNamed "katabasis/katabasislaw10.FractionPlays" = some 4 by kernel_rfl).symm.trans hf) |>.symm
  obtain rfl : fn = Tryz.f4 := (Option.some.inj (Tryz.func4.symm.trans hfn)).symm
  refine ⟨by kernel_rfl, fun j t ht => ?_⟩
  rw [Tryz.params4] at ht
  have : t = 26 ∨ t = 9 ∨ t = 3 := by have h := Array.mem_of_getElem? ht; simp at h; first | exact h | (rcases h with h | h | h | h <;> simp [h]) | (rcases h with h | h | h <;> simp [h]) | (rcases h with h | h <;> simp [h])
  rcases this with rfl | rfl | rfl
  · exact (show Tryz.prog.wantsStandIn 26 = false by kernel_rfl)
  · exact (show Tryz.prog.wantsStandIn 9 = false by kernel_rfl)
  · exact (show Tryz.prog.wantsStandIn 3 = false by kernel_rfl)
end Go.Proofs.YtnejjdcbbminaaaGreatDoor.fractionPlays
namespace Go.Proofs.YtnejjdcbbminaaaGreatDoor
open Go
theorem fractionPlays_holds : Rows.FractionPlaysCardSaid :=
  Claim7.holds_tied_plain_at .later [] _ _ _ _ fractionPlays.said (fun _ h => by cases h) (by kernel_rfl) (fun _ h => by cases h) fractionPlays_row_tie rfl ⟨rfl, rfl⟩ (by kernel_rfl) rfl fractionPlays.plain (by kernel_rfl)
#print axioms fractionPlays_holds
end Go.Proofs.YtnejjdcbbminaaaGreatDoor

