/- The law 'katabasislaw03.WordLines' is true for every map and list: Line and Rest return the documented linear map and rest, or the documented errors. Its condition: none but the row's own (the listed tables of the library). -/
import Derived.Test.YtbilndahjkimkaaDoorPkWordLinese
set_option linter.unusedVariables false
set_option linter.unusedSimpArgs false
namespace Go.Proofs.YtbilndahjkimkaaDoor
open Go Go.Ab Go.Mth
theorem Xc_tU22 : cx.P.underlying 22 = some (.slice 3) := by kernel_rfl
theorem Xc_tE22 : tyElem cx.P 22 = some (3, 1, 8) := by kernel_rfl
theorem Xc_tS3 : tySc cx.P 3 = true := by kernel_rfl
theorem Xc_tF24_0 : tyField cx.P 24 0 = some (0, 3) := by kernel_rfl
theorem Xc_tA36 : tyAgg cx.P 36 = some 2 := by kernel_rfl
theorem Xc_tA24 : tyAgg cx.P 24 = some 3 := by kernel_rfl
theorem Xc_tC52 : callable cx.P 52 = true := by kernel_rfl
theorem Xc_tZ36 : tySize cx.P 36 = some 2 := by kernel_rfl
theorem Xc_tO49 : tyZero cx.P 49 = some [(Go.Value.bool false), (Go.Value.slice none 0 0), (Go.Value.bool false), (Go.Value.slice none 0 0), (Go.Value.bool false), (Go.Value.slice none 0 0)] := by kernel_rfl
theorem Xc_tF24_1 : tyField cx.P 24 1 = some (1, 22) := by kernel_rfl
theorem Xc_tS22 : tySc cx.P 22 = true := by kernel_rfl
theorem Xc_tC38 : callable cx.P 38 = true := by kernel_rfl
theorem Xc_tO36 : tyZero cx.P 36 = some [(Go.Value.bool false), (Go.Value.slice none 0 0)] := by kernel_rfl
theorem Xc_tF49_0 : tyField cx.P 49 0 = some (0, 36) := by kernel_rfl
theorem Xc_tC37 : callable cx.P 37 = true := by kernel_rfl
theorem Xc_tF49_1 : tyField cx.P 49 1 = some (2, 36) := by kernel_rfl
theorem Xc_tF24_2 : tyField cx.P 24 2 = some (2, 22) := by kernel_rfl
theorem Xc_tF49_2 : tyField cx.P 49 2 = some (4, 36) := by kernel_rfl
theorem Xc_tC34 : callable cx.P 34 = true := by kernel_rfl
theorem Xc_tP49 : tyPlaces cx.P 49 = some (fun i => (#[(0, 2), (2, 2), (4, 2)] : Array (Nat × Nat))[i]?) := by kernel_rfl
theorem Xc_tZ49 : tySize cx.P 49 = some 6 := by kernel_rfl
theorem Xc_tA49 : tyAgg cx.P 49 = some 6 := by kernel_rfl
theorem Xc_tP36 : tyPlaces cx.P 36 = some (fun i => (#[(0, 1), (1, 1)] : Array (Nat × Nat))[i]?) := by kernel_rfl
theorem Xc_tC65 : callable cx.P 65 = true := by kernel_rfl
theorem Xc_tC66 : callable cx.P 66 = true := by kernel_rfl
theorem Xc_tO41 : tyZero cx.P 41 = some [(Go.Value.string {data := #[]}), (Go.Value.string {data := #[]}), (Go.Value.string {data := #[]})] := by kernel_rfl
theorem Xc_tC27 : callable cx.P 27 = true := by kernel_rfl
theorem Xc_tP41 : tyPlaces cx.P 41 = some (fun i => (#[(0, 1), (1, 1), (2, 1)] : Array (Nat × Nat))[i]?) := by kernel_rfl
theorem Xc_tZ41 : tySize cx.P 41 = some 3 := by kernel_rfl
theorem Xc_tA41 : tyAgg cx.P 41 = some 3 := by kernel_rfl
theorem Xc_tC30 : callable cx.P 30 = true := by kernel_rfl
theorem Xc_tC32 : callable cx.P 32 = true := by kernel_rfl
theorem c_vIs (m : MapM) (w : List Int) (hwl : w.length ≤ 17592186044416) : ECalls cx 22 [(mapV m), (AV.sl 1 (is .i64 (w)))] (bp (OkW m w)) := by
  refine ecalls_of_awp Tryd.func22 (c := _) rfl (Nat.le_of_ble_eq_true rfl) ?_
  show awp cx 29 _ (postF cx Tryd.f22 _) ⟨[(0, (mapV m)), (1, (AV.sl 1 (is .i64 (w))))], []⟩
  refine awp_seq fun K0 hK0 => ?_
  refine awp_region rfl ?_
  refine o_box 2 [(AV.lit (.int .i64 (m.mod))), (AV.sl 1 (is .i64 (m.mul))), (AV.sl 1 (is .i64 (m.add)))] Gd.none rfl rfl ?_
  refine o_assign (AV.lit (.bool false)) Gd.none rfl ?_
  refine aops_end ?_
  refine hK0 _ ?_
  refine awp_seq fun K1 hK1 => ?_
  refine awp_seq fun K2 hK2 => ?_
  refine awp_region rfl ?_
  refine o_assign (nm .i64 (0)) Gd.none rfl ?_
  refine aops_end ?_
  refine hK2 _ ?_
  refine awp_block ?_
  refine awp_loopR (fun κ σ => ∃ (i : Nat), (i ≤ w.length) ∧ (∀ k, k < i → 0 ≤ w.getD k 0 ∧ w.getD k 0 < m.mod) ∧ (w.length - i) = κ ∧ σ = ⟨[(1, (AV.sl 1 (is .i64 (w)))), (2, (AV.ref 2 (0))), (5, (nm .i64 (i)))], [(2, (AO.var 24 [(AV.lit (.int .i64 (m.mod))), (AV.sl 1 (is .i64 (m.mul))), (AV.sl 1 (is .i64 (m.add)))]))]⟩) ⟨_, _, ⟨0, (by omega), (fun k hk => by omega), rfl, rfl⟩, ?wk0⟩ ?rd0
  case wk0 =>
    exact Wk.sub (And.intro (by exact rfl) (And.intro (by exact rfl) (And.intro (by first | rfl | exact congrArg (nm _) (by omega) | exact nm_int (by omega) | exact nm_int (by simp [IntKind.wrap, IntKind.bits, IntKind.signed]; omega)) (trivial)))) (And.intro (by first | rfl | exact row_ns (by simp) | exact congrArg (fun x => some (AO.blk (.stringIter _ x))) (by omega)) (trivial))
  rintro κ _ ⟨i, hi, hf, rfl, rfl⟩
  refine awp_seq fun K3 hK3 => ?_
  refine awp_seq fun K4 hK4 => ?_
  refine awp_region rfl ?_
  refine o_move (nm .i64 (i)) Gd.none rfl ?_
  refine o_move (AV.sl 1 (is .i64 (w))) Gd.none rfl ?_
  refine i_len (w) Gd.none Xc_tU22 rfl ?_
  refine n_lss (i) ((w).length) Gd.none rfl rfl ?_
  refine aops_end ?_
  refine hK4 _ ?_
  refine awp_condQ (q := (i) < ((w).length)) rfl (fun h1 => ?_) (fun h1 => ?_)
  · refine awp_skip ?_
    refine hK3 _ ?_
    refine awp_seq fun K5 hK5 => ?_
    refine awp_block ?_
    refine awp_seq fun K6 hK6 => ?_
    refine awp_regionD rfl ?_
    refine o_move (AV.sl 1 (is .i64 (w))) Gd.none rfl ?_
    refine o_move (nm .i64 (i)) Gd.none rfl ?_
    refine i_index (w) (i) Gd.none Xc_tE22 rfl rfl (by omega) ?_
    refine i_loadI (w) (i) Gd.none Xc_tS3 rfl (by omega) ?_
    refine o_lss (a := ((w).getD (i) 0)) (c := (((0 : Nat) : Int))) Gd.none rfl rfl ?_
    refine o_move (bp (((w).getD (i) 0) < (((0 : Nat) : Int)))) Gd.none rfl ?_
    refine o_splitP (q := ((w).getD (i) 0) < (((0 : Nat) : Int))) 17 rfl (fun h2 => ?_) (fun h2 => ?_)
    · refine o_skip (b := decide (((w).getD (i) 0) < (((0 : Nat) : Int)))) rfl rfl (decide_eq_true h2) ?_
      refine o_skip (b := decide (((w).getD (i) 0) < (((0 : Nat) : Int)))) rfl rfl (decide_eq_true h2) ?_
      refine o_skip (b := decide (((w).getD (i) 0) < (((0 : Nat) : Int)))) rfl rfl (decide_eq_true h2) ?_
      refine o_skip (b := decide (((w).getD (i) 0) < (((0 : Nat) : Int)))) rfl rfl (decide_eq_true h2) ?_
      refine o_skip (b := decide (((w).getD (i) 0) < (((0 : Nat) : Int)))) rfl rfl (decide_eq_true h2) ?_
      refine o_skip (b := decide (((w).getD (i) 0) < (((0 : Nat) : Int)))) rfl rfl (decide_eq_true h2) ?_
      refine o_skip (b := decide (((w).getD (i) 0) < (((0 : Nat) : Int)))) rfl rfl (decide_eq_true h2) ?_
      refine o_pickT (b := decide (((w).getD (i) 0) < (((0 : Nat) : Int)))) (AV.lit (.bool true)) Gd.none rfl (decide_eq_true h2) rfl ?_
      refine aops_end ⟨by kernel_rfl, ?_⟩
      refine hK6 _ ?_
      refine awp_condB (b := true) rfl (fun _ => ?_) (fun hh => absurd (hh.symm.trans rfl) (by decide))
      refine awp_seq fun K7 hK7 => ?_
      refine awp_region rfl ?_
      refine o_assign (AV.lit (.bool false)) Gd.none rfl ?_
      refine aops_end ?_
      refine hK7 _ ?_
      refine awp_ret ?_
      refine post_ret ⟨[(AV.lit (.bool false))], And.intro (AV.le_refl _) (trivial), rfl, ?_⟩
      exact (bl_bp (b := false) ⟨fun h => (by cases h), fun h => absurd h (fun hh => absurd (isW_get hh.1 h1).1 (by omega))⟩).symm
    · refine o_move (AV.sl 1 (is .i64 (w))) (Gd.yes rfl rfl (decide_eq_false h2)) rfl ?_
      refine o_move (nm .i64 (i)) (Gd.yes rfl rfl (decide_eq_false h2)) rfl ?_
      refine i_index (w) (i) (Gd.yes rfl rfl (decide_eq_false h2)) Xc_tE22 rfl rfl (by omega) ?_
      refine i_loadI (w) (i) (Gd.yes rfl rfl (decide_eq_false h2)) Xc_tS3 rfl (by omega) ?_
      refine o_fieldRef 0 (Gd.yes rfl rfl (decide_eq_false h2)) Xc_tF24_0 rfl rfl ?_
      refine o_loadS (AV.lit (.int .i64 (m.mod))) (Gd.yes rfl rfl (decide_eq_false h2)) Xc_tS3 rfl rfl rfl ?_
      refine o_geq (a := ((w).getD (i) 0)) (c := (m.mod)) (Gd.yes rfl rfl (decide_eq_false h2)) rfl rfl ?_
      refine o_pickF (b := decide (((w).getD (i) 0) < (((0 : Nat) : Int)))) (bp ((m.mod) ≤ ((w).getD (i) 0))) Gd.none rfl (decide_eq_false h2) rfl ?_
      refine aops_end ⟨by kernel_rfl, ?_⟩
      refine hK6 _ ?_
      refine awp_condQ (q := (m.mod) ≤ ((w).getD (i) 0)) rfl (fun h3 => ?_) (fun h3 => ?_)
      · refine awp_seq fun K8 hK8 => ?_
        refine awp_region rfl ?_
        refine o_assign (AV.lit (.bool false)) Gd.none rfl ?_
        refine aops_end ?_
        refine hK8 _ ?_
        refine awp_ret ?_
        refine post_ret ⟨[(AV.lit (.bool false))], And.intro (AV.le_refl _) (trivial), rfl, ?_⟩
        exact (bl_bp (b := false) ⟨fun h => (by cases h), fun h => absurd h (fun hh => absurd (isW_get hh.1 h1).2 (by omega))⟩).symm
      · refine awp_skip ?_
        refine hK5 _ ?_
        refine awp_region rfl ?_
        refine o_move (nm .i64 (i)) Gd.none rfl ?_
        refine n_add (i) (1) Gd.none rfl rfl (by simp only [topOf]; omega) ?_
        refine o_assign (nm .i64 ((i) + (1))) Gd.none rfl ?_
        refine aops_end ?_
        refine ⟨_, _, ?lt, ⟨i + 1, (by omega), (fun k hk => by rcases Nat.lt_or_ge k i with e | e; exact hf k e; rw [show k = i by omega]; omega), rfl, rfl⟩, ?wk⟩
        case lt => omega
        case wk => exact Wk.sub (And.intro (by exact rfl) (And.intro (by exact rfl) (And.intro (by first | rfl | exact congrArg (nm _) (by omega) | exact nm_int (by omega) | exact nm_int (by simp [IntKind.wrap, IntKind.bits, IntKind.signed]; omega)) (trivial)))) (And.intro (by first | rfl | exact row_ns (by simp) | exact congrArg (fun x => some (AO.blk (.stringIter _ x))) (by omega)) (trivial))
  · refine awp_exit ?_
    refine hK1 _ ?_
    refine awp_seq fun K9 hK9 => ?_
    refine awp_region rfl ?_
    refine o_move (AV.sl 1 (is .i64 (w))) Gd.none rfl ?_
    refine i_len (w) Gd.none Xc_tU22 rfl ?_
    refine n_leq ((w).length) (200) Gd.none rfl rfl ?_
    refine o_assign (bp (((w).length) ≤ (200))) Gd.none rfl ?_
    refine aops_end ?_
    refine hK9 _ ?_
    refine awp_ret ?_
    refine post_ret ⟨[(bp (((w).length) ≤ (200)))], And.intro (AV.le_refl _) (trivial), rfl, ?_⟩
    exact bp_congr ⟨fun h => h.2, fun h => ⟨isW_of fun k hk => hf k (by omega), h⟩⟩

theorem c_vThen (m : MapM) (l : LinZ) (r : Int) (hM : OkM m) (hr0 : 0 ≤ r) (hr1 : r < m.mod) (L1 : (digs l.mul.natAbs).length ≤ 1000000) (L2 : (digs l.add.natAbs).length ≤ 1000000) (L3 : (digs l.div.natAbs).length ≤ 1000000) : ECalls cx 66 [(mapV m), (linR (l)), (AV.lit (.int .i64 (r)))] (linR (thenZ m l r)) := by
  refine ecalls_of_awp Tryd.func66 (c := _) rfl (Nat.le_of_ble_eq_true rfl) ?_
  show awp cx 39 _ (postF cx Tryd.f66 _) ⟨[(0, (mapV m)), (1, (linR (l))), (2, (AV.lit (.int .i64 (r))))], []⟩
  have hM2 := hM
  obtain ⟨o1, o2, o3, o4, o5⟩ := hM2
  have hor := o5 r.toNat (by omega)
  have hq1 := small_len (z := ((m.mul).getD (r.toNat) 0)) (by omega)
  have ha1 := small_len (z := ((m.add).getD (r.toNat) 0)) (by omega)
  have hd1 := small_len (z := m.mod) (by omega)
  have hm1 := len_mulZ ((m.mul).getD (r.toNat) 0) l.mul
  have hm2 := len_mulZ ((m.mul).getD (r.toNat) 0) l.add
  have hm3 := len_mulZ ((m.add).getD (r.toNat) 0) l.div
  refine awp_seq fun K0 hK0 => ?_
  refine awp_region rfl ?_
  refine o_box 2 [(AV.lit (.int .i64 (m.mod))), (AV.sl 1 (is .i64 (m.mul))), (AV.sl 1 (is .i64 (m.add)))] Gd.none rfl rfl ?_
  refine o_box 3 [(bp (((l).mul) < 0)), (AV.sl 1 (ns .i64 (digs ((l).mul).natAbs))), (bp (((l).add) < 0)), (AV.sl 1 (ns .i64 (digs ((l).add).natAbs))), (bp (((l).div) < 0)), (AV.sl 1 (ns .i64 (digs ((l).div).natAbs)))] Gd.none rfl rfl ?_
  refine o_alloc 4 [(AV.lit (.bool false)), (AV.lit (.slice none 0 0)), (AV.lit (.bool false)), (AV.lit (.slice none 0 0)), (AV.lit (.bool false)), (AV.lit (.slice none 0 0))] Gd.none Xc_tO49 rfl rfl rfl ?_
  refine aops_end ?_
  refine hK0 _ ?_
  refine awp_seq fun K1 hK1 => ?_
  refine awp_region rfl ?_
  refine o_fieldRef 1 Gd.none Xc_tF24_1 rfl rfl ?_
  refine o_loadS (AV.sl 1 (is .i64 (m.mul))) Gd.none Xc_tS22 rfl rfl rfl ?_
  refine o_move (AV.lit (.int .i64 (r))) Gd.none rfl ?_
  refine n_as (v' := (nm .i64 (r.toNat))) (nm_int (by omega)) ?_
  refine i_index (m.mul) (r.toNat) Gd.none Xc_tE22 rfl rfl (by omega) ?_
  refine i_loadI (m.mul) (r.toNat) Gd.none Xc_tS3 rfl (by omega) ?_
  refine o_call [(AV.lit (.int .i64 ((m.mul).getD (r.toNat) 0)))] (intR ((m.mul).getD (r.toNat) 0)) Gd.none Xc_tC38 rfl (c_rOf ((m.mul).getD (r.toNat) 0) (by first | decide | omega) (by first | decide | omega)) ?_
  refine o_alloc 5 [(AV.lit (.bool false)), (AV.lit (.slice none 0 0))] Gd.none Xc_tO36 rfl rfl rfl ?_
  refine o_store [(5, (AO.var 36 [(bp ((m.mul).getD (r.toNat) 0 < 0)), (AV.sl 1 (ns .i64 (digs ((m.mul).getD (r.toNat) 0).natAbs)))])), (4, (AO.var 49 [(AV.lit (.bool false)), (AV.lit (.slice none 0 0)), (AV.lit (.bool false)), (AV.lit (.slice none 0 0)), (AV.lit (.bool false)), (AV.lit (.slice none 0 0))])), (3, (AO.var 49 [(bp (((l).mul) < 0)), (AV.sl 1 (ns .i64 (digs ((l).mul).natAbs))), (bp (((l).add) < 0)), (AV.sl 1 (ns .i64 (digs ((l).add).natAbs))), (bp (((l).div) < 0)), (AV.sl 1 (ns .i64 (digs ((l).div).natAbs)))])), (2, (AO.var 24 [(AV.lit (.int .i64 (m.mod))), (AV.sl 1 (is .i64 (m.mul))), (AV.sl 1 (is .i64 (m.add)))]))] Gd.none Xc_tZ36 rfl rfl rfl rfl rfl rfl ?_
  refine aops_end ?_
  refine hK1 _ ?_
  refine awp_seq fun K2 hK2 => ?_
  refine awp_regionD rfl ?_
  refine o_loadA [(bp ((m.mul).getD (r.toNat) 0 < 0)), (AV.sl 1 (ns .i64 (digs ((m.mul).getD (r.toNat) 0).natAbs)))] Gd.none Xc_tA36 rfl rfl rfl rfl rfl ?_
  refine o_fieldRef 0 Gd.none Xc_tF49_0 rfl rfl ?_
  refine o_loadA [(bp (((l).mul) < 0)), (AV.sl 1 (ns .i64 (digs ((l).mul).natAbs)))] Gd.none Xc_tA36 rfl rfl rfl rfl rfl ?_
  refine o_call [(AV.agg [(bp ((m.mul).getD (r.toNat) 0 < 0)), (AV.sl 1 (ns .i64 (digs ((m.mul).getD (r.toNat) 0).natAbs)))]), (AV.agg [(bp (((l).mul) < 0)), (AV.sl 1 (ns .i64 (digs ((l).mul).natAbs)))])] (intR (((m.mul).getD (r.toNat) 0 * ((l).mul)))) Gd.none Xc_tC37 rfl (c_rMul ((m.mul).getD (r.toNat) 0) (((l).mul)) (by first | assumption | omega | (simp only [Int.natAbs_neg]; omega)) (by first | assumption | omega | (simp only [Int.natAbs_neg]; omega))) ?_
  refine o_loadA [(bp ((m.mul).getD (r.toNat) 0 < 0)), (AV.sl 1 (ns .i64 (digs ((m.mul).getD (r.toNat) 0).natAbs)))] Gd.none Xc_tA36 rfl rfl rfl rfl rfl ?_
  refine o_fieldRef 2 Gd.none Xc_tF49_1 rfl rfl ?_
  refine o_loadA [(bp (((l).add) < 0)), (AV.sl 1 (ns .i64 (digs ((l).add).natAbs)))] Gd.none Xc_tA36 rfl rfl rfl rfl rfl ?_
  refine o_call [(AV.agg [(bp ((m.mul).getD (r.toNat) 0 < 0)), (AV.sl 1 (ns .i64 (digs ((m.mul).getD (r.toNat) 0).natAbs)))]), (AV.agg [(bp (((l).add) < 0)), (AV.sl 1 (ns .i64 (digs ((l).add).natAbs)))])] (intR (((m.mul).getD (r.toNat) 0 * ((l).add)))) Gd.none Xc_tC37 rfl (c_rMul ((m.mul).getD (r.toNat) 0) (((l).add)) (by first | assumption | omega | (simp only [Int.natAbs_neg]; omega)) (by first | assumption | omega | (simp only [Int.natAbs_neg]; omega))) ?_
  refine o_fieldRef 2 Gd.none Xc_tF24_2 rfl rfl ?_
  refine o_loadS (AV.sl 1 (is .i64 (m.add))) Gd.none Xc_tS22 rfl rfl rfl ?_
  refine o_move (AV.lit (.int .i64 (r))) Gd.none rfl ?_
  refine n_as (v' := (nm .i64 (r.toNat))) (nm_int (by omega)) ?_
  refine i_index (m.add) (r.toNat) Gd.none Xc_tE22 rfl rfl (by omega) ?_
  refine i_loadI (m.add) (r.toNat) Gd.none Xc_tS3 rfl (by omega) ?_
  refine o_call [(AV.lit (.int .i64 ((m.add).getD (r.toNat) 0)))] (intR ((m.add).getD (r.toNat) 0)) Gd.none Xc_tC38 rfl (c_rOf ((m.add).getD (r.toNat) 0) (by first | decide | omega) (by first | decide | omega)) ?_
  refine o_fieldRef 4 Gd.none Xc_tF49_2 rfl rfl ?_
  refine o_loadA [(bp (((l).div) < 0)), (AV.sl 1 (ns .i64 (digs ((l).div).natAbs)))] Gd.none Xc_tA36 rfl rfl rfl rfl rfl ?_
  refine o_call [(intR ((m.add).getD (r.toNat) 0)), (AV.agg [(bp (((l).div) < 0)), (AV.sl 1 (ns .i64 (digs ((l).div).natAbs)))])] (intR (((m.add).getD (r.toNat) 0 * ((l).div)))) Gd.none Xc_tC37 rfl (c_rMul ((m.add).getD (r.toNat) 0) (((l).div)) (by first | assumption | omega | (simp only [Int.natAbs_neg]; omega)) (by first | assumption | omega | (simp only [Int.natAbs_neg]; omega))) ?_
  refine o_call [(intR (((m.mul).getD (r.toNat) 0 * ((l).add)))), (intR (((m.add).getD (r.toNat) 0 * ((l).div))))] (intR ((((m.mul).getD (r.toNat) 0 * ((l).add)) + ((m.add).getD (r.toNat) 0 * ((l).div))))) Gd.none Xc_tC34 rfl (c_rAdd (((m.mul).getD (r.toNat) 0 * ((l).add))) (((m.add).getD (r.toNat) 0 * ((l).div))) (by first | assumption | omega | (simp only [Int.natAbs_neg]; omega)) (by first | assumption | omega | (simp only [Int.natAbs_neg]; omega))) ?_
  refine o_fieldRef 4 Gd.none Xc_tF49_2 rfl rfl ?_
  refine o_loadA [(bp (((l).div) < 0)), (AV.sl 1 (ns .i64 (digs ((l).div).natAbs)))] Gd.none Xc_tA36 rfl rfl rfl rfl rfl ?_
  refine o_fieldRef 0 Gd.none Xc_tF24_0 rfl rfl ?_
  refine o_loadS (AV.lit (.int .i64 (m.mod))) Gd.none Xc_tS3 rfl rfl rfl ?_
  refine o_call [(AV.lit (.int .i64 (m.mod)))] (intR ((m.mod))) Gd.none Xc_tC38 rfl (c_rOf (m.mod) (by first | decide | omega) (by first | decide | omega)) ?_
  refine o_call [(AV.agg [(bp (((l).div) < 0)), (AV.sl 1 (ns .i64 (digs ((l).div).natAbs)))]), (intR ((m.mod)))] (intR ((((l).div) * (m.mod)))) Gd.none Xc_tC37 rfl (c_rMul (((l).div)) ((m.mod)) (by first | assumption | omega | (simp only [Int.natAbs_neg]; omega)) (by first | assumption | omega | (simp only [Int.natAbs_neg]; omega))) ?_
  refine o_build [(bp (((m.mul).getD (r.toNat) 0 * ((l).mul)) < 0)), (AV.sl 1 (ns .i64 (digs (((m.mul).getD (r.toNat) 0 * ((l).mul))).natAbs))), (bp ((((m.mul).getD (r.toNat) 0 * ((l).add)) + ((m.add).getD (r.toNat) 0 * ((l).div))) < 0)), (AV.sl 1 (ns .i64 (digs ((((m.mul).getD (r.toNat) 0 * ((l).add)) + ((m.add).getD (r.toNat) 0 * ((l).div)))).natAbs))), (bp ((((l).div) * (m.mod)) < 0)), (AV.sl 1 (ns .i64 (digs ((((l).div) * (m.mod))).natAbs)))] [(0, [(bp (((m.mul).getD (r.toNat) 0 * ((l).mul)) < 0)), (AV.sl 1 (ns .i64 (digs (((m.mul).getD (r.toNat) 0 * ((l).mul))).natAbs)))]), (1, [(bp ((((m.mul).getD (r.toNat) 0 * ((l).add)) + ((m.add).getD (r.toNat) 0 * ((l).div))) < 0)), (AV.sl 1 (ns .i64 (digs ((((m.mul).getD (r.toNat) 0 * ((l).add)) + ((m.add).getD (r.toNat) 0 * ((l).div)))).natAbs)))]), (2, [(bp ((((l).div) * (m.mod)) < 0)), (AV.sl 1 (ns .i64 (digs ((((l).div) * (m.mod))).natAbs)))])] Gd.none Xc_tP49 Xc_tO49 rfl rfl rfl ?_
  refine o_store [(5, (AO.var 36 [(bp ((m.mul).getD (r.toNat) 0 < 0)), (AV.sl 1 (ns .i64 (digs ((m.mul).getD (r.toNat) 0).natAbs)))])), (4, (AO.var 49 [(bp (((m.mul).getD (r.toNat) 0 * ((l).mul)) < 0)), (AV.sl 1 (ns .i64 (digs (((m.mul).getD (r.toNat) 0 * ((l).mul))).natAbs))), (bp ((((m.mul).getD (r.toNat) 0 * ((l).add)) + ((m.add).getD (r.toNat) 0 * ((l).div))) < 0)), (AV.sl 1 (ns .i64 (digs ((((m.mul).getD (r.toNat) 0 * ((l).add)) + ((m.add).getD (r.toNat) 0 * ((l).div)))).natAbs))), (bp ((((l).div) * (m.mod)) < 0)), (AV.sl 1 (ns .i64 (digs ((((l).div) * (m.mod))).natAbs)))])), (3, (AO.var 49 [(bp (((l).mul) < 0)), (AV.sl 1 (ns .i64 (digs ((l).mul).natAbs))), (bp (((l).add) < 0)), (AV.sl 1 (ns .i64 (digs ((l).add).natAbs))), (bp (((l).div) < 0)), (AV.sl 1 (ns .i64 (digs ((l).div).natAbs)))])), (2, (AO.var 24 [(AV.lit (.int .i64 (m.mod))), (AV.sl 1 (is .i64 (m.mul))), (AV.sl 1 (is .i64 (m.add)))]))] Gd.none Xc_tZ49 rfl rfl rfl rfl rfl rfl ?_
  refine aops_end ⟨by kernel_rfl, ?_⟩
  refine hK2 _ ?_
  refine awp_ret ?_
  refine post_ret ⟨[(AV.agg [(bp (((m.mul).getD (r.toNat) 0 * ((l).mul)) < 0)), (AV.sl 1 (ns .i64 (digs (((m.mul).getD (r.toNat) 0 * ((l).mul))).natAbs))), (bp ((((m.mul).getD (r.toNat) 0 * ((l).add)) + ((m.add).getD (r.toNat) 0 * ((l).div))) < 0)), (AV.sl 1 (ns .i64 (digs ((((m.mul).getD (r.toNat) 0 * ((l).add)) + ((m.add).getD (r.toNat) 0 * ((l).div)))).natAbs))), (bp ((((l).div) * (m.mod)) < 0)), (AV.sl 1 (ns .i64 (digs ((((l).div) * (m.mod))).natAbs)))])], And.intro ⟨4, (AO.var 49 [(bp (((m.mul).getD (r.toNat) 0 * ((l).mul)) < 0)), (AV.sl 1 (ns .i64 (digs (((m.mul).getD (r.toNat) 0 * ((l).mul))).natAbs))), (bp ((((m.mul).getD (r.toNat) 0 * ((l).add)) + ((m.add).getD (r.toNat) 0 * ((l).div))) < 0)), (AV.sl 1 (ns .i64 (digs ((((m.mul).getD (r.toNat) 0 * ((l).add)) + ((m.add).getD (r.toNat) 0 * ((l).div)))).natAbs))), (bp ((((l).div) * (m.mod)) < 0)), (AV.sl 1 (ns .i64 (digs ((((l).div) * (m.mod))).natAbs)))]), rfl, rfl, rfl, Or.inl ⟨Xc_tA49, AV.le_refl _⟩⟩ (trivial), rfl, ?_⟩
  exact linK_eq rfl rfl rfl

theorem c_vOne  : ECalls cx 65 [] (linR oneZ) := by
  refine ecalls_of_awp Tryd.func65 (c := _) rfl (Nat.le_of_ble_eq_true rfl) ?_
  show awp cx 5 _ (postF cx Tryd.f65 _) ⟨[], []⟩
  refine awp_seq fun K0 hK0 => ?_
  refine awp_region rfl ?_
  refine o_alloc 2 [(AV.lit (.bool false)), (AV.lit (.slice none 0 0)), (AV.lit (.bool false)), (AV.lit (.slice none 0 0)), (AV.lit (.bool false)), (AV.lit (.slice none 0 0))] Gd.none Xc_tO49 rfl rfl rfl ?_
  refine aops_end ?_
  refine hK0 _ ?_
  refine awp_seq fun K1 hK1 => ?_
  refine awp_region rfl ?_
  refine o_call [(nm .i64 (1))] (intR ((1 : Int))) Gd.none Xc_tC38 rfl (c_rOf ((1 : Int)) (by first | decide | omega) (by first | decide | omega)) ?_
  refine o_build [(AV.lit (.bool false)), (AV.lit (.slice none 0 0))] [] Gd.none Xc_tP36 Xc_tO36 rfl rfl rfl ?_
  refine o_call [(nm .i64 (1))] (intR ((1 : Int))) Gd.none Xc_tC38 rfl (c_rOf ((1 : Int)) (by first | decide | omega) (by first | decide | omega)) ?_
  refine o_build [(bp ((1 : Int) < 0)), (AV.sl 1 (ns .i64 (digs ((1 : Int)).natAbs))), (AV.lit (.bool false)), (AV.lit (.slice none 0 0)), (bp ((1 : Int) < 0)), (AV.sl 1 (ns .i64 (digs ((1 : Int)).natAbs)))] [(0, [(bp ((1 : Int) < 0)), (AV.sl 1 (ns .i64 (digs ((1 : Int)).natAbs)))]), (1, [(AV.lit (.bool false)), (AV.lit (.slice none 0 0))]), (2, [(bp ((1 : Int) < 0)), (AV.sl 1 (ns .i64 (digs ((1 : Int)).natAbs)))])] Gd.none Xc_tP49 Xc_tO49 rfl rfl rfl ?_
  refine o_store [(2, (AO.var 49 [(bp ((1 : Int) < 0)), (AV.sl 1 (ns .i64 (digs ((1 : Int)).natAbs))), (AV.lit (.bool false)), (AV.lit (.slice none 0 0)), (bp ((1 : Int) < 0)), (AV.sl 1 (ns .i64 (digs ((1 : Int)).natAbs)))]))] Gd.none Xc_tZ49 rfl rfl rfl rfl rfl rfl ?_
  refine aops_end ?_
  refine hK1 _ ?_
  refine awp_ret ?_
  refine post_ret ⟨[(AV.agg [(bp ((1 : Int) < 0)), (AV.sl 1 (ns .i64 (digs ((1 : Int)).natAbs))), (bp ((0 : Int) < 0)), (AV.sl 1 (ns .i64 (digs ((0 : Int)).natAbs))), (bp ((1 : Int) < 0)), (AV.sl 1 (ns .i64 (digs ((1 : Int)).natAbs)))])], And.intro ⟨2, (AO.var 49 [(bp ((1 : Int) < 0)), (AV.sl 1 (ns .i64 (digs ((1 : Int)).natAbs))), (AV.lit (.bool false)), (AV.lit (.slice none 0 0)), (bp ((1 : Int) < 0)), (AV.sl 1 (ns .i64 (digs ((1 : Int)).natAbs)))]), rfl, rfl, rfl, Or.inl ⟨Xc_tA49, AV.le_agg (LeL.cons (AV.le_refl _) (LeL.cons (AV.le_refl _) (LeL.cons (AV.le_refl _) (LeL.cons (AV.le_nil' (by decide) (by first | rfl | simp [digs_zero, ns, is])) (LeL.cons (AV.le_refl _) (LeL.cons (AV.le_refl _) (LeL.nil)))))))⟩⟩ (trivial), rfl, ?_⟩
  exact linK_eq rfl rfl rfl

theorem c_vOf (m : MapM) (w : List Int) (hM : OkM m) (hw : IsW m w) (hl : w.length ≤ 200) : ECalls cx 24 [(mapV m), (AV.sl 1 (is .i64 (w)))] (linR (lineZ m w)) := by
  refine ecalls_of_awp Tryd.func24 (c := _) rfl (Nat.le_of_ble_eq_true rfl) ?_
  show awp cx 22 _ (postF cx Tryd.f24 _) ⟨[(0, (mapV m)), (1, (AV.sl 1 (is .i64 (w))))], []⟩
  refine awp_seq fun K0 hK0 => ?_
  refine awp_region rfl ?_
  refine o_box 2 [(AV.lit (.int .i64 (m.mod))), (AV.sl 1 (is .i64 (m.mul))), (AV.sl 1 (is .i64 (m.add)))] Gd.none rfl rfl ?_
  refine o_alloc 3 [(AV.lit (.bool false)), (AV.lit (.slice none 0 0)), (AV.lit (.bool false)), (AV.lit (.slice none 0 0)), (AV.lit (.bool false)), (AV.lit (.slice none 0 0))] Gd.none Xc_tO49 rfl rfl rfl ?_
  refine aops_end ?_
  refine hK0 _ ?_
  refine awp_seq fun K1 hK1 => ?_
  refine awp_region rfl ?_
  refine o_call [] (linR (oneZ)) Gd.none Xc_tC65 rfl c_vOne ?_
  refine o_alloc 4 [(AV.lit (.bool false)), (AV.lit (.slice none 0 0)), (AV.lit (.bool false)), (AV.lit (.slice none 0 0)), (AV.lit (.bool false)), (AV.lit (.slice none 0 0))] Gd.none Xc_tO49 rfl rfl rfl ?_
  refine o_store [(4, (AO.var 49 [(bp (((oneZ).mul) < 0)), (AV.sl 1 (ns .i64 (digs ((oneZ).mul).natAbs))), (bp (((oneZ).add) < 0)), (AV.sl 1 (ns .i64 (digs ((oneZ).add).natAbs))), (bp (((oneZ).div) < 0)), (AV.sl 1 (ns .i64 (digs ((oneZ).div).natAbs)))])), (3, (AO.var 49 [(AV.lit (.bool false)), (AV.lit (.slice none 0 0)), (AV.lit (.bool false)), (AV.lit (.slice none 0 0)), (AV.lit (.bool false)), (AV.lit (.slice none 0 0))])), (2, (AO.var 24 [(AV.lit (.int .i64 (m.mod))), (AV.sl 1 (is .i64 (m.mul))), (AV.sl 1 (is .i64 (m.add)))]))] Gd.none Xc_tZ49 rfl rfl rfl rfl rfl rfl ?_
  refine aops_end ?_
  refine hK1 _ ?_
  refine awp_seq fun K2 hK2 => ?_
  refine awp_seq fun K3 hK3 => ?_
  refine awp_region rfl ?_
  refine o_assign (nm .i64 (0)) Gd.none rfl ?_
  refine aops_end ?_
  refine hK3 _ ?_
  refine awp_block ?_
  refine awp_loopR (fun κ σ => ∃ (i : Nat), ∃ (l : LinZ), (i ≤ w.length) ∧ (l = lineZ m (w.take i)) ∧ (w.length - i) = κ ∧ σ = ⟨[(1, (AV.sl 1 (is .i64 (w)))), (2, (AV.ref 2 (0))), (4, (AV.ref 3 (0))), (5, (AV.ref 4 (0))), (6, (nm .i64 (i)))], [(2, (AO.var 24 [(AV.lit (.int .i64 (m.mod))), (AV.sl 1 (is .i64 (m.mul))), (AV.sl 1 (is .i64 (m.add)))])), (3, (AO.var 49 [(AV.lit (.bool false)), (AV.lit (.slice none 0 0)), (AV.lit (.bool false)), (AV.lit (.slice none 0 0)), (AV.lit (.bool false)), (AV.lit (.slice none 0 0))])), (4, (AO.var 49 [(bp (((l).mul) < 0)), (AV.sl 1 (ns .i64 (digs ((l).mul).natAbs))), (bp (((l).add) < 0)), (AV.sl 1 (ns .i64 (digs ((l).add).natAbs))), (bp (((l).div) < 0)), (AV.sl 1 (ns .i64 (digs ((l).div).natAbs)))]))]⟩) ⟨_, _, ⟨0, oneZ, (by omega), rfl, rfl, rfl⟩, ?wk0⟩ ?rd0
  case wk0 =>
    exact Wk.sub (And.intro (by exact rfl) (And.intro (by exact rfl) (And.intro (by exact rfl) (And.intro (by exact rfl) (And.intro (by first | rfl | exact congrArg (nm _) (by omega) | exact nm_int (by omega) | exact nm_int (by simp [IntKind.wrap, IntKind.bits, IntKind.signed]; omega)) (trivial)))))) (And.intro (by first | rfl | exact row_ns (by simp) | exact congrArg (fun x => some (AO.blk (.stringIter _ x))) (by omega)) (And.intro (by first | rfl | exact row_ns (by simp) | exact congrArg (fun x => some (AO.blk (.stringIter _ x))) (by omega)) (And.intro (by first | rfl | exact row_ns (by simp) | exact congrArg (fun x => some (AO.blk (.stringIter _ x))) (by omega)) (trivial))))
  rintro κ _ ⟨i, l, hi, hl2, rfl, rfl⟩
  obtain ⟨L1, L2, L3⟩ := line_len hM (w.take i) (isW_take hw i)
  have L4 : (w.take i).length = i := by rw [List.length_take]; omega
  rw [← hl2] at L1 L2 L3
  refine awp_seq fun K4 hK4 => ?_
  refine awp_seq fun K5 hK5 => ?_
  refine awp_region rfl ?_
  refine o_move (nm .i64 (i)) Gd.none rfl ?_
  refine o_move (AV.sl 1 (is .i64 (w))) Gd.none rfl ?_
  refine i_len (w) Gd.none Xc_tU22 rfl ?_
  refine n_lss (i) ((w).length) Gd.none rfl rfl ?_
  refine aops_end ?_
  refine hK5 _ ?_
  refine awp_condQ (q := (i) < ((w).length)) rfl (fun h1 => ?_) (fun h1 => ?_)
  · have hwi := isW_get hw h1
    refine awp_skip ?_
    refine hK4 _ ?_
    refine awp_seq fun K6 hK6 => ?_
    refine awp_block ?_
    refine awp_regionD rfl ?_
    refine o_loadA [(AV.lit (.int .i64 (m.mod))), (AV.sl 1 (is .i64 (m.mul))), (AV.sl 1 (is .i64 (m.add)))] Gd.none Xc_tA24 rfl rfl rfl rfl rfl ?_
    refine o_loadA [(bp (((l).mul) < 0)), (AV.sl 1 (ns .i64 (digs ((l).mul).natAbs))), (bp (((l).add) < 0)), (AV.sl 1 (ns .i64 (digs ((l).add).natAbs))), (bp (((l).div) < 0)), (AV.sl 1 (ns .i64 (digs ((l).div).natAbs)))] Gd.none Xc_tA49 rfl rfl rfl rfl rfl ?_
    refine o_move (AV.sl 1 (is .i64 (w))) Gd.none rfl ?_
    refine o_move (nm .i64 (i)) Gd.none rfl ?_
    refine i_index (w) (i) Gd.none Xc_tE22 rfl rfl (by omega) ?_
    refine i_loadI (w) (i) Gd.none Xc_tS3 rfl (by omega) ?_
    refine o_call [(AV.agg [(AV.lit (.int .i64 (m.mod))), (AV.sl 1 (is .i64 (m.mul))), (AV.sl 1 (is .i64 (m.add)))]), (AV.agg [(bp (((l).mul) < 0)), (AV.sl 1 (ns .i64 (digs ((l).mul).natAbs))), (bp (((l).add) < 0)), (AV.sl 1 (ns .i64 (digs ((l).add).natAbs))), (bp (((l).div) < 0)), (AV.sl 1 (ns .i64 (digs ((l).div).natAbs)))]), (AV.lit (.int .i64 ((w).getD (i) 0)))] (linR (thenZ m (l) ((w).getD (i) 0))) Gd.none Xc_tC66 rfl (c_vThen m (l) ((w).getD (i) 0) hM (by omega) (by omega) (by omega) (by omega) (by omega)) ?_
    refine o_store [(2, (AO.var 24 [(AV.lit (.int .i64 (m.mod))), (AV.sl 1 (is .i64 (m.mul))), (AV.sl 1 (is .i64 (m.add)))])), (3, (AO.var 49 [(AV.lit (.bool false)), (AV.lit (.slice none 0 0)), (AV.lit (.bool false)), (AV.lit (.slice none 0 0)), (AV.lit (.bool false)), (AV.lit (.slice none 0 0))])), (4, (AO.var 49 [(bp (((thenZ m (l) ((w).getD (i) 0)).mul) < 0)), (AV.sl 1 (ns .i64 (digs ((thenZ m (l) ((w).getD (i) 0)).mul).natAbs))), (bp (((thenZ m (l) ((w).getD (i) 0)).add) < 0)), (AV.sl 1 (ns .i64 (digs ((thenZ m (l) ((w).getD (i) 0)).add).natAbs))), (bp (((thenZ m (l) ((w).getD (i) 0)).div) < 0)), (AV.sl 1 (ns .i64 (digs ((thenZ m (l) ((w).getD (i) 0)).div).natAbs)))]))] Gd.none Xc_tZ49 rfl rfl rfl rfl rfl rfl ?_
    refine aops_end ⟨by kernel_rfl, ?_⟩
    refine hK6 _ ?_
    refine awp_region rfl ?_
    refine o_move (nm .i64 (i)) Gd.none rfl ?_
    refine n_add (i) (1) Gd.none rfl rfl (by simp only [topOf]; omega) ?_
    refine o_assign (nm .i64 ((i) + (1))) Gd.none rfl ?_
    refine aops_end ?_
    refine ⟨_, _, ?lt, ⟨i + 1, (thenZ m (l) ((w).getD (i) 0)), (by omega), (by rw [hl2]; exact lineZ_next h1), rfl, rfl⟩, ?wk⟩
    case lt => omega
    case wk => exact Wk.sub (And.intro (by exact rfl) (And.intro (by exact rfl) (And.intro (by exact rfl) (And.intro (by exact rfl) (And.intro (by first | rfl | exact congrArg (nm _) (by omega) | exact nm_int (by omega) | exact nm_int (by simp [IntKind.wrap, IntKind.bits, IntKind.signed]; omega)) (trivial)))))) (And.intro (by first | rfl | exact row_ns (by simp) | exact congrArg (fun x => some (AO.blk (.stringIter _ x))) (by omega)) (And.intro (by first | rfl | exact row_ns (by simp) | exact congrArg (fun x => some (AO.blk (.stringIter _ x))) (by omega)) (And.intro (by first | rfl | exact row_ns (by simp) | exact congrArg (fun x => some (AO.blk (.stringIter _ x))) (by omega)) (trivial))))
  · refine awp_exit ?_
    refine hK2 _ ?_
    refine awp_seq fun K7 hK7 => ?_
    refine awp_region rfl ?_
    refine o_loadA [(bp (((l).mul) < 0)), (AV.sl 1 (ns .i64 (digs ((l).mul).natAbs))), (bp (((l).add) < 0)), (AV.sl 1 (ns .i64 (digs ((l).add).natAbs))), (bp (((l).div) < 0)), (AV.sl 1 (ns .i64 (digs ((l).div).natAbs)))] Gd.none Xc_tA49 rfl rfl rfl rfl rfl ?_
    refine o_store [(2, (AO.var 24 [(AV.lit (.int .i64 (m.mod))), (AV.sl 1 (is .i64 (m.mul))), (AV.sl 1 (is .i64 (m.add)))])), (3, (AO.var 49 [(bp (((l).mul) < 0)), (AV.sl 1 (ns .i64 (digs ((l).mul).natAbs))), (bp (((l).add) < 0)), (AV.sl 1 (ns .i64 (digs ((l).add).natAbs))), (bp (((l).div) < 0)), (AV.sl 1 (ns .i64 (digs ((l).div).natAbs)))])), (4, (AO.var 49 [(bp (((l).mul) < 0)), (AV.sl 1 (ns .i64 (digs ((l).mul).natAbs))), (bp (((l).add) < 0)), (AV.sl 1 (ns .i64 (digs ((l).add).natAbs))), (bp (((l).div) < 0)), (AV.sl 1 (ns .i64 (digs ((l).div).natAbs)))]))] Gd.none Xc_tZ49 rfl rfl rfl rfl rfl rfl ?_
    refine aops_end ?_
    refine hK7 _ ?_
    refine awp_ret ?_
    refine post_ret ⟨[(AV.agg [(bp (((l).mul) < 0)), (AV.sl 1 (ns .i64 (digs ((l).mul).natAbs))), (bp (((l).add) < 0)), (AV.sl 1 (ns .i64 (digs ((l).add).natAbs))), (bp (((l).div) < 0)), (AV.sl 1 (ns .i64 (digs ((l).div).natAbs)))])], And.intro ⟨3, (AO.var 49 [(bp (((l).mul) < 0)), (AV.sl 1 (ns .i64 (digs ((l).mul).natAbs))), (bp (((l).add) < 0)), (AV.sl 1 (ns .i64 (digs ((l).add).natAbs))), (bp (((l).div) < 0)), (AV.sl 1 (ns .i64 (digs ((l).div).natAbs)))]), rfl, rfl, rfl, Or.inl ⟨Xc_tA49, AV.le_refl _⟩⟩ (trivial), rfl, ?_⟩
    exact congrArg linR (by rw [hl2, List.take_of_length_le (by omega)])

theorem c_vText (l : LinZ) (h1 : (digs l.mul.natAbs).length ≤ 1000000) (h2 : (digs l.add.natAbs).length ≤ 1000000) (h3 : (digs l.div.natAbs).length ≤ 1000000) : ECalls cx 23 [(linR (l))] (lineV (lineT l)) := by
  refine ecalls_of_awp Tryd.func23 (c := _) rfl (Nat.le_of_ble_eq_true rfl) ?_
  show awp cx 13 _ (postF cx Tryd.f23 _) ⟨[(0, (linR (l)))], []⟩
  refine awp_seq fun K0 hK0 => ?_
  refine awp_region rfl ?_
  refine o_box 2 [(bp (((l).mul) < 0)), (AV.sl 1 (ns .i64 (digs ((l).mul).natAbs))), (bp (((l).add) < 0)), (AV.sl 1 (ns .i64 (digs ((l).add).natAbs))), (bp (((l).div) < 0)), (AV.sl 1 (ns .i64 (digs ((l).div).natAbs)))] Gd.none rfl rfl ?_
  refine o_alloc 3 [(AV.lit (.string (({data := #[]} : ByteArray)))), (AV.lit (.string (({data := #[]} : ByteArray)))), (AV.lit (.string (({data := #[]} : ByteArray))))] Gd.none Xc_tO41 rfl rfl rfl ?_
  refine aops_end ?_
  refine hK0 _ ?_
  refine awp_seq fun K1 hK1 => ?_
  refine awp_regionD rfl ?_
  refine o_fieldRef 0 Gd.none Xc_tF49_0 rfl rfl ?_
  refine o_loadA [(bp (((l).mul) < 0)), (AV.sl 1 (ns .i64 (digs ((l).mul).natAbs)))] Gd.none Xc_tA36 rfl rfl rfl rfl rfl ?_
  refine o_call [(AV.agg [(bp (((l).mul) < 0)), (AV.sl 1 (ns .i64 (digs ((l).mul).natAbs)))])] (AV.lit (.string (txt (((l).mul))))) Gd.none Xc_tC27 rfl (c_rText (((l).mul)) (by first | assumption | omega | (simp only [Int.natAbs_neg]; omega))) ?_
  refine o_fieldRef 2 Gd.none Xc_tF49_1 rfl rfl ?_
  refine o_loadA [(bp (((l).add) < 0)), (AV.sl 1 (ns .i64 (digs ((l).add).natAbs)))] Gd.none Xc_tA36 rfl rfl rfl rfl rfl ?_
  refine o_call [(AV.agg [(bp (((l).add) < 0)), (AV.sl 1 (ns .i64 (digs ((l).add).natAbs)))])] (AV.lit (.string (txt (((l).add))))) Gd.none Xc_tC27 rfl (c_rText (((l).add)) (by first | assumption | omega | (simp only [Int.natAbs_neg]; omega))) ?_
  refine o_fieldRef 4 Gd.none Xc_tF49_2 rfl rfl ?_
  refine o_loadA [(bp (((l).div) < 0)), (AV.sl 1 (ns .i64 (digs ((l).div).natAbs)))] Gd.none Xc_tA36 rfl rfl rfl rfl rfl ?_
  refine o_call [(AV.agg [(bp (((l).div) < 0)), (AV.sl 1 (ns .i64 (digs ((l).div).natAbs)))])] (AV.lit (.string (txt (((l).div))))) Gd.none Xc_tC27 rfl (c_rText (((l).div)) (by first | assumption | omega | (simp only [Int.natAbs_neg]; omega))) ?_
  refine o_build [(AV.lit (.string (txt (((l).mul))))), (AV.lit (.string (txt (((l).add))))), (AV.lit (.string (txt (((l).div)))))] [(0, [(AV.lit (.string (txt (((l).mul)))))]), (1, [(AV.lit (.string (txt (((l).add)))))]), (2, [(AV.lit (.string (txt (((l).div)))))])] Gd.none Xc_tP41 Xc_tO41 rfl rfl rfl ?_
  refine o_store [(3, (AO.var 41 [(AV.lit (.string (txt (((l).mul))))), (AV.lit (.string (txt (((l).add))))), (AV.lit (.string (txt (((l).div)))))])), (2, (AO.var 49 [(bp (((l).mul) < 0)), (AV.sl 1 (ns .i64 (digs ((l).mul).natAbs))), (bp (((l).add) < 0)), (AV.sl 1 (ns .i64 (digs ((l).add).natAbs))), (bp (((l).div) < 0)), (AV.sl 1 (ns .i64 (digs ((l).div).natAbs)))]))] Gd.none Xc_tZ41 rfl rfl rfl rfl rfl rfl ?_
  refine aops_end ⟨by kernel_rfl, ?_⟩
  refine hK1 _ ?_
  refine awp_ret ?_
  refine post_ret ⟨[(AV.agg [(AV.lit (.string (txt (((l).mul))))), (AV.lit (.string (txt (((l).add))))), (AV.lit (.string (txt (((l).div)))))])], And.intro ⟨3, (AO.var 41 [(AV.lit (.string (txt (((l).mul))))), (AV.lit (.string (txt (((l).add))))), (AV.lit (.string (txt (((l).div)))))]), rfl, rfl, rfl, Or.inl ⟨Xc_tA41, AV.le_refl _⟩⟩ (trivial), rfl, ?_⟩
  rfl

theorem c_vValue (l : LinZ) (z : Int) (h1 : (digs l.mul.natAbs).length ≤ 1000000) (h2 : (digs l.add.natAbs).length ≤ 1000000) (h3 : (digs z.natAbs).length ≤ 1000000) : ECalls cx 30 [(linR (l)), (intR (z))] (intR (l.mul * z + l.add)) := by
  refine ecalls_of_awp Tryd.func30 (c := _) rfl (Nat.le_of_ble_eq_true rfl) ?_
  show awp cx 12 _ (postF cx Tryd.f30 _) ⟨[(0, (linR (l))), (1, (intR (z)))], []⟩
  have hm1 := len_mulZ l.mul z
  refine awp_seq fun K0 hK0 => ?_
  refine awp_region rfl ?_
  refine o_box 2 [(bp (((l).mul) < 0)), (AV.sl 1 (ns .i64 (digs ((l).mul).natAbs))), (bp (((l).add) < 0)), (AV.sl 1 (ns .i64 (digs ((l).add).natAbs))), (bp (((l).div) < 0)), (AV.sl 1 (ns .i64 (digs ((l).div).natAbs)))] Gd.none rfl rfl ?_
  refine o_box 3 [(bp (z < 0)), (AV.sl 1 (ns .i64 (digs (z).natAbs)))] Gd.none rfl rfl ?_
  refine o_alloc 4 [(AV.lit (.bool false)), (AV.lit (.slice none 0 0))] Gd.none Xc_tO36 rfl rfl rfl ?_
  refine aops_end ?_
  refine hK0 _ ?_
  refine awp_seq fun K1 hK1 => ?_
  refine awp_regionD rfl ?_
  refine o_fieldRef 0 Gd.none Xc_tF49_0 rfl rfl ?_
  refine o_loadA [(bp (((l).mul) < 0)), (AV.sl 1 (ns .i64 (digs ((l).mul).natAbs)))] Gd.none Xc_tA36 rfl rfl rfl rfl rfl ?_
  refine o_loadA [(bp (z < 0)), (AV.sl 1 (ns .i64 (digs (z).natAbs)))] Gd.none Xc_tA36 rfl rfl rfl rfl rfl ?_
  refine o_call [(AV.agg [(bp (((l).mul) < 0)), (AV.sl 1 (ns .i64 (digs ((l).mul).natAbs)))]), (AV.agg [(bp (z < 0)), (AV.sl 1 (ns .i64 (digs (z).natAbs)))])] (intR ((((l).mul) * z))) Gd.none Xc_tC37 rfl (c_rMul (((l).mul)) (z) (by first | assumption | omega | (simp only [Int.natAbs_neg]; omega)) (by first | assumption | omega | (simp only [Int.natAbs_neg]; omega))) ?_
  refine o_fieldRef 2 Gd.none Xc_tF49_1 rfl rfl ?_
  refine o_loadA [(bp (((l).add) < 0)), (AV.sl 1 (ns .i64 (digs ((l).add).natAbs)))] Gd.none Xc_tA36 rfl rfl rfl rfl rfl ?_
  refine o_call [(intR ((((l).mul) * z))), (AV.agg [(bp (((l).add) < 0)), (AV.sl 1 (ns .i64 (digs ((l).add).natAbs)))])] (intR (((((l).mul) * z) + ((l).add)))) Gd.none Xc_tC34 rfl (c_rAdd ((((l).mul) * z)) (((l).add)) (by first | assumption | omega | (simp only [Int.natAbs_neg]; omega)) (by first | assumption | omega | (simp only [Int.natAbs_neg]; omega))) ?_
  refine o_store [(4, (AO.var 36 [(bp (((((l).mul) * z) + ((l).add)) < 0)), (AV.sl 1 (ns .i64 (digs (((((l).mul) * z) + ((l).add))).natAbs)))])), (3, (AO.var 36 [(bp (z < 0)), (AV.sl 1 (ns .i64 (digs (z).natAbs)))])), (2, (AO.var 49 [(bp (((l).mul) < 0)), (AV.sl 1 (ns .i64 (digs ((l).mul).natAbs))), (bp (((l).add) < 0)), (AV.sl 1 (ns .i64 (digs ((l).add).natAbs))), (bp (((l).div) < 0)), (AV.sl 1 (ns .i64 (digs ((l).div).natAbs)))]))] Gd.none Xc_tZ36 rfl rfl rfl rfl rfl rfl ?_
  refine aops_end ⟨by kernel_rfl, ?_⟩
  refine hK1 _ ?_
  refine awp_ret ?_
  refine post_ret ⟨[(AV.agg [(bp (((((l).mul) * z) + ((l).add)) < 0)), (AV.sl 1 (ns .i64 (digs (((((l).mul) * z) + ((l).add))).natAbs)))])], And.intro ⟨4, (AO.var 36 [(bp (((((l).mul) * z) + ((l).add)) < 0)), (AV.sl 1 (ns .i64 (digs (((((l).mul) * z) + ((l).add))).natAbs)))]), rfl, rfl, rfl, Or.inl ⟨Xc_tA36, AV.le_refl _⟩⟩ (trivial), rfl, ?_⟩
  rfl

theorem c_vRest (m : MapM) (w : List Int) (hM : OkM m) (hF : freeM m) (hw : IsW m w) (hl : w.length ≤ 200) : ECalls cx 26 [(mapV m), (AV.sl 1 (is .i64 (w)))] (.tup [intR (restZ m w).1, intR (m.mod ^ w.length)]) := by
  refine ecalls_of_awp Tryd.func26 (c := _) rfl (Nat.le_of_ble_eq_true rfl) ?_
  show awp cx 50 _ (postF cx Tryd.f26 _) ⟨[(0, (mapV m)), (1, (AV.sl 1 (is .i64 (w))))], []⟩
  have hM2 := hM
  obtain ⟨o1, o2, o3, o4, o5⟩ := hM2
  refine awp_seq fun K0 hK0 => ?_
  refine awp_region rfl ?_
  refine o_box 2 [(AV.lit (.int .i64 (m.mod))), (AV.sl 1 (is .i64 (m.mul))), (AV.sl 1 (is .i64 (m.add)))] Gd.none rfl rfl ?_
  refine o_alloc 3 [(AV.lit (.bool false)), (AV.lit (.slice none 0 0))] Gd.none Xc_tO36 rfl rfl rfl ?_
  refine o_alloc 4 [(AV.lit (.bool false)), (AV.lit (.slice none 0 0))] Gd.none Xc_tO36 rfl rfl rfl ?_
  refine aops_end ?_
  refine hK0 _ ?_
  refine awp_seq fun K1 hK1 => ?_
  refine awp_region rfl ?_
  refine o_build [(AV.lit (.bool false)), (AV.lit (.slice none 0 0))] [] Gd.none Xc_tP36 Xc_tO36 rfl rfl rfl ?_
  refine o_call [] (linR (oneZ)) Gd.none Xc_tC65 rfl c_vOne ?_
  refine o_alloc 5 [(AV.lit (.bool false)), (AV.lit (.slice none 0 0))] Gd.none Xc_tO36 rfl rfl rfl ?_
  refine o_alloc 6 [(AV.lit (.bool false)), (AV.lit (.slice none 0 0)), (AV.lit (.bool false)), (AV.lit (.slice none 0 0)), (AV.lit (.bool false)), (AV.lit (.slice none 0 0))] Gd.none Xc_tO49 rfl rfl rfl ?_
  refine o_store [(6, (AO.var 49 [(AV.lit (.bool false)), (AV.lit (.slice none 0 0)), (AV.lit (.bool false)), (AV.lit (.slice none 0 0)), (AV.lit (.bool false)), (AV.lit (.slice none 0 0))])), (5, (AO.var 36 [(AV.lit (.bool false)), (AV.lit (.slice none 0 0))])), (4, (AO.var 36 [(AV.lit (.bool false)), (AV.lit (.slice none 0 0))])), (3, (AO.var 36 [(AV.lit (.bool false)), (AV.lit (.slice none 0 0))])), (2, (AO.var 24 [(AV.lit (.int .i64 (m.mod))), (AV.sl 1 (is .i64 (m.mul))), (AV.sl 1 (is .i64 (m.add)))]))] Gd.none Xc_tZ36 rfl rfl rfl rfl rfl rfl ?_
  refine o_store [(6, (AO.var 49 [(bp (((oneZ).mul) < 0)), (AV.sl 1 (ns .i64 (digs ((oneZ).mul).natAbs))), (bp (((oneZ).add) < 0)), (AV.sl 1 (ns .i64 (digs ((oneZ).add).natAbs))), (bp (((oneZ).div) < 0)), (AV.sl 1 (ns .i64 (digs ((oneZ).div).natAbs)))])), (5, (AO.var 36 [(AV.lit (.bool false)), (AV.lit (.slice none 0 0))])), (4, (AO.var 36 [(AV.lit (.bool false)), (AV.lit (.slice none 0 0))])), (3, (AO.var 36 [(AV.lit (.bool false)), (AV.lit (.slice none 0 0))])), (2, (AO.var 24 [(AV.lit (.int .i64 (m.mod))), (AV.sl 1 (is .i64 (m.mul))), (AV.sl 1 (is .i64 (m.add)))]))] Gd.none Xc_tZ49 rfl rfl rfl rfl rfl rfl ?_
  refine aops_end ?_
  refine hK1 _ ?_
  refine awp_seq fun K2 hK2 => ?_
  refine awp_seq fun K3 hK3 => ?_
  refine awp_region rfl ?_
  refine o_assign (nm .i64 (0)) Gd.none rfl ?_
  refine aops_end ?_
  refine hK3 _ ?_
  refine awp_block ?_
  refine awp_wk (Wk.cells (i := 5) (cs' := [bp ((0 : Int) < 0), AV.sl 1 (ns .i64 (digs ((0 : Int)).natAbs))]) rfl (LeL.cons (AV.le_eq (bl_bp (b := false) (by simp))) (LeL.cons (AV.le_nil' (by decide) (by simp [digs_zero, ns])) LeL.nil))) ?_
  refine awp_loopR (fun κ σ => ∃ (i : Nat), ∃ (R : Int), (i ≤ w.length) ∧ (R = (restZ m (w.take i)).1) ∧ ((digs R.natAbs).length ≤ 13 * i + 4) ∧ (w.length - i) = κ ∧ σ = ⟨[(1, (AV.sl 1 (is .i64 (w)))), (2, (AV.ref 2 (0))), (4, (AV.ref 3 (0))), (5, (AV.ref 4 (0))), (6, (AV.ref 5 (0))), (7, (AV.ref 6 (0))), (8, (nm .i64 (i)))], [(2, (AO.var 24 [(AV.lit (.int .i64 (m.mod))), (AV.sl 1 (is .i64 (m.mul))), (AV.sl 1 (is .i64 (m.add)))])), (3, (AO.var 36 [(AV.lit (.bool false)), (AV.lit (.slice none 0 0))])), (4, (AO.var 36 [(AV.lit (.bool false)), (AV.lit (.slice none 0 0))])), (5, (AO.var 36 [(bp (R < 0)), (AV.sl 1 (ns .i64 (digs (R).natAbs)))])), (6, (AO.var 49 [(bp (((lineZ m ((w).take (i))).mul) < 0)), (AV.sl 1 (ns .i64 (digs ((lineZ m ((w).take (i))).mul).natAbs))), (bp (((lineZ m ((w).take (i))).add) < 0)), (AV.sl 1 (ns .i64 (digs ((lineZ m ((w).take (i))).add).natAbs))), (bp (((lineZ m ((w).take (i))).div) < 0)), (AV.sl 1 (ns .i64 (digs ((lineZ m ((w).take (i))).div).natAbs)))]))]⟩) ⟨_, _, ⟨0, 0, (by omega), rfl, (by simp [digs_zero]), rfl, rfl⟩, ?wk0⟩ ?rd0
  case wk0 =>
    exact Wk.sub (And.intro (by exact rfl) (And.intro (by exact rfl) (And.intro (by exact rfl) (And.intro (by exact rfl) (And.intro (by exact rfl) (And.intro (by exact rfl) (And.intro (by first | rfl | exact congrArg (nm _) (by omega) | exact nm_int (by omega) | exact nm_int (by simp [IntKind.wrap, IntKind.bits, IntKind.signed]; omega)) (trivial)))))))) (And.intro (by first | rfl | exact row_ns (by simp) | exact congrArg (fun x => some (AO.blk (.stringIter _ x))) (by omega) | (rw [← lineZ_next h1]; rfl)) (And.intro (by first | rfl | exact row_ns (by simp) | exact congrArg (fun x => some (AO.blk (.stringIter _ x))) (by omega) | (rw [← lineZ_next h1]; rfl)) (And.intro (by first | rfl | exact row_ns (by simp) | exact congrArg (fun x => some (AO.blk (.stringIter _ x))) (by omega) | (rw [← lineZ_next h1]; rfl)) (And.intro (by first | rfl | exact row_ns (by simp) | exact congrArg (fun x => some (AO.blk (.stringIter _ x))) (by omega) | (rw [← lineZ_next h1]; rfl)) (And.intro (by first | rfl | exact row_ns (by simp) | exact congrArg (fun x => some (AO.blk (.stringIter _ x))) (by omega) | (rw [← lineZ_next h1]; rfl)) (trivial))))))
  rintro κ _ ⟨i, R, hi, hR, hRl, rfl, rfl⟩
  obtain ⟨L1, L2, L3⟩ := line_len hM (w.take i) (isW_take hw i)
  have L4 : (w.take i).length = i := by rw [List.length_take]; omega
  refine awp_seq fun K4 hK4 => ?_
  refine awp_seq fun K5 hK5 => ?_
  refine awp_region rfl ?_
  refine o_move (nm .i64 (i)) Gd.none rfl ?_
  refine o_move (AV.sl 1 (is .i64 (w))) Gd.none rfl ?_
  refine i_len (w) Gd.none Xc_tU22 rfl ?_
  refine n_lss (i) ((w).length) Gd.none rfl rfl ?_
  refine aops_end ?_
  refine hK5 _ ?_
  refine awp_condQ (q := (i) < ((w).length)) rfl (fun h1 => ?_) (fun h1 => ?_)
  · have hwi := isW_get hw h1
    obtain ⟨T, hT⟩ : ∃ T, T = lookT (lineZ m ((w).take (i))).mul m.mod (((lineZ m ((w).take (i))).mul * R + (lineZ m ((w).take (i))).add) / (lineZ m ((w).take (i))).div) (w.getD i 0) := ⟨_, rfl⟩
    obtain ⟨t1, t2, t3, t4⟩ := rest_step hM hF hw h1 hR hT
    have hp3 : 0 < (lineZ m ((w).take (i))).div := by rw [lineZ_div]; exact Int.pow_pos (by omega)
    refine awp_skip ?_
    refine hK4 _ ?_
    refine awp_seq fun K6 hK6 => ?_
    refine awp_block ?_
    refine awp_seq fun K7 hK7 => ?_
    refine awp_block ?_
    refine awp_loopR (fun κ σ => ∃ (t : Nat), ∃ (B : Int), (t ≤ T) ∧ (B = (R + ((t : Nat) : Int) * (lineZ m ((w).take (i))).div)) ∧ ((digs B.natAbs).length ≤ 13 * i + 4 + t) ∧ (T - t) = κ ∧ σ = ⟨[(1, (AV.sl 1 (is .i64 (w)))), (2, (AV.ref 2 (0))), (4, (AV.ref 3 (0))), (5, (AV.ref 4 (0))), (6, (AV.ref 5 (0))), (7, (AV.ref 6 (0))), (8, (nm .i64 (i)))], [(2, (AO.var 24 [(AV.lit (.int .i64 (m.mod))), (AV.sl 1 (is .i64 (m.mul))), (AV.sl 1 (is .i64 (m.add)))])), (3, (AO.var 36 [(AV.lit (.bool false)), (AV.lit (.slice none 0 0))])), (4, (AO.var 36 [(AV.lit (.bool false)), (AV.lit (.slice none 0 0))])), (5, (AO.var 36 [(bp (B < 0)), (AV.sl 1 (ns .i64 (digs (B).natAbs)))])), (6, (AO.var 49 [(bp (((lineZ m ((w).take (i))).mul) < 0)), (AV.sl 1 (ns .i64 (digs ((lineZ m ((w).take (i))).mul).natAbs))), (bp (((lineZ m ((w).take (i))).add) < 0)), (AV.sl 1 (ns .i64 (digs ((lineZ m ((w).take (i))).add).natAbs))), (bp (((lineZ m ((w).take (i))).div) < 0)), (AV.sl 1 (ns .i64 (digs ((lineZ m ((w).take (i))).div).natAbs)))]))]⟩) ⟨_, _, ⟨0, R, (by omega), (by simp), (by omega), rfl, rfl⟩, ?wk1⟩ ?rd1
    case wk1 =>
      exact Wk.sub (And.intro (by exact rfl) (And.intro (by exact rfl) (And.intro (by exact rfl) (And.intro (by exact rfl) (And.intro (by exact rfl) (And.intro (by exact rfl) (And.intro (by exact rfl) (trivial)))))))) (And.intro (by first | rfl | exact row_ns (by simp) | exact congrArg (fun x => some (AO.blk (.stringIter _ x))) (by omega) | (rw [← lineZ_next h1]; rfl)) (And.intro (by first | rfl | exact row_ns (by simp) | exact congrArg (fun x => some (AO.blk (.stringIter _ x))) (by omega) | (rw [← lineZ_next h1]; rfl)) (And.intro (by first | rfl | exact row_ns (by simp) | exact congrArg (fun x => some (AO.blk (.stringIter _ x))) (by omega) | (rw [← lineZ_next h1]; rfl)) (And.intro (by first | rfl | exact row_ns (by simp) | exact congrArg (fun x => some (AO.blk (.stringIter _ x))) (by omega) | (rw [← lineZ_next h1]; rfl)) (And.intro (by first | rfl | exact row_ns (by simp) | exact congrArg (fun x => some (AO.blk (.stringIter _ x))) (by omega) | (rw [← lineZ_next h1]; rfl)) (trivial))))))
    rintro κ _ ⟨t, B, ht, hB, hBl, rfl, rfl⟩
    have hp1 := len_mulZ (lineZ m ((w).take (i))).mul B
    have hp2 := len_addZ ((lineZ m ((w).take (i))).mul * B) (lineZ m ((w).take (i))).add
    have hp4 := len_ediv ((lineZ m ((w).take (i))).mul * B + (lineZ m ((w).take (i))).add) hp3
    refine awp_block ?_
    refine awp_seq fun K8 hK8 => ?_
    refine awp_regionD rfl ?_
    refine o_loadA [(bp (((lineZ m ((w).take (i))).mul) < 0)), (AV.sl 1 (ns .i64 (digs ((lineZ m ((w).take (i))).mul).natAbs))), (bp (((lineZ m ((w).take (i))).add) < 0)), (AV.sl 1 (ns .i64 (digs ((lineZ m ((w).take (i))).add).natAbs))), (bp (((lineZ m ((w).take (i))).div) < 0)), (AV.sl 1 (ns .i64 (digs ((lineZ m ((w).take (i))).div).natAbs)))] Gd.none Xc_tA49 rfl rfl rfl rfl rfl ?_
    refine o_loadA [(bp (B < 0)), (AV.sl 1 (ns .i64 (digs (B).natAbs)))] Gd.none Xc_tA36 rfl rfl rfl rfl rfl ?_
    refine o_call [(AV.agg [(bp (((lineZ m ((w).take (i))).mul) < 0)), (AV.sl 1 (ns .i64 (digs ((lineZ m ((w).take (i))).mul).natAbs))), (bp (((lineZ m ((w).take (i))).add) < 0)), (AV.sl 1 (ns .i64 (digs ((lineZ m ((w).take (i))).add).natAbs))), (bp (((lineZ m ((w).take (i))).div) < 0)), (AV.sl 1 (ns .i64 (digs ((lineZ m ((w).take (i))).div).natAbs)))]), (AV.agg [(bp (B < 0)), (AV.sl 1 (ns .i64 (digs (B).natAbs)))])] (intR (((lineZ m ((w).take (i))).mul * B + (lineZ m ((w).take (i))).add))) Gd.none Xc_tC30 rfl (c_vValue (lineZ m ((w).take (i))) (B) (by omega) (by omega) (by omega)) ?_
    refine o_fieldRef 4 Gd.none Xc_tF49_2 rfl rfl ?_
    refine o_loadA [(bp (((lineZ m ((w).take (i))).div) < 0)), (AV.sl 1 (ns .i64 (digs ((lineZ m ((w).take (i))).div).natAbs)))] Gd.none Xc_tA36 rfl rfl rfl rfl rfl ?_
    refine o_call [(intR (((lineZ m ((w).take (i))).mul * B + (lineZ m ((w).take (i))).add))), (AV.agg [(bp (((lineZ m ((w).take (i))).div) < 0)), (AV.sl 1 (ns .i64 (digs ((lineZ m ((w).take (i))).div).natAbs)))])] (AV.tup [(intR ((((lineZ m ((w).take (i))).mul * B + (lineZ m ((w).take (i))).add) / ((lineZ m ((w).take (i))).div)))), (intR ((((lineZ m ((w).take (i))).mul * B + (lineZ m ((w).take (i))).add) % ((lineZ m ((w).take (i))).div))))]) Gd.none Xc_tC32 rfl (c_rDiv (((lineZ m ((w).take (i))).mul * B + (lineZ m ((w).take (i))).add)) (((lineZ m ((w).take (i))).div)) (by omega) (by omega) (by omega)) ?_
    refine o_move (AV.tup [(intR ((((lineZ m ((w).take (i))).mul * B + (lineZ m ((w).take (i))).add) / ((lineZ m ((w).take (i))).div)))), (intR ((((lineZ m ((w).take (i))).mul * B + (lineZ m ((w).take (i))).add) % ((lineZ m ((w).take (i))).div))))]) Gd.none rfl ?_
    refine o_extract (intR ((((lineZ m ((w).take (i))).mul * B + (lineZ m ((w).take (i))).add) / ((lineZ m ((w).take (i))).div)))) Gd.none rfl rfl ?_
    refine o_extract (intR ((((lineZ m ((w).take (i))).mul * B + (lineZ m ((w).take (i))).add) % ((lineZ m ((w).take (i))).div)))) Gd.none rfl rfl ?_
    refine o_alloc 201 [(AV.lit (.bool false)), (AV.lit (.slice none 0 0))] Gd.none Xc_tO36 rfl rfl rfl ?_
    refine o_alloc 202 [(AV.lit (.bool false)), (AV.lit (.slice none 0 0))] Gd.none Xc_tO36 rfl rfl rfl ?_
    refine o_store [(202, (AO.var 36 [(AV.lit (.bool false)), (AV.lit (.slice none 0 0))])), (201, (AO.var 36 [(bp ((((lineZ m ((w).take (i))).mul * B + (lineZ m ((w).take (i))).add) / ((lineZ m ((w).take (i))).div)) < 0)), (AV.sl 1 (ns .i64 (digs ((((lineZ m ((w).take (i))).mul * B + (lineZ m ((w).take (i))).add) / ((lineZ m ((w).take (i))).div))).natAbs)))])), (2, (AO.var 24 [(AV.lit (.int .i64 (m.mod))), (AV.sl 1 (is .i64 (m.mul))), (AV.sl 1 (is .i64 (m.add)))])), (3, (AO.var 36 [(AV.lit (.bool false)), (AV.lit (.slice none 0 0))])), (4, (AO.var 36 [(AV.lit (.bool false)), (AV.lit (.slice none 0 0))])), (5, (AO.var 36 [(bp (B < 0)), (AV.sl 1 (ns .i64 (digs (B).natAbs)))])), (6, (AO.var 49 [(bp (((lineZ m ((w).take (i))).mul) < 0)), (AV.sl 1 (ns .i64 (digs ((lineZ m ((w).take (i))).mul).natAbs))), (bp (((lineZ m ((w).take (i))).add) < 0)), (AV.sl 1 (ns .i64 (digs ((lineZ m ((w).take (i))).add).natAbs))), (bp (((lineZ m ((w).take (i))).div) < 0)), (AV.sl 1 (ns .i64 (digs ((lineZ m ((w).take (i))).div).natAbs)))]))] Gd.none Xc_tZ36 rfl rfl rfl rfl rfl rfl ?_
    refine o_store [(202, (AO.var 36 [(bp ((((lineZ m ((w).take (i))).mul * B + (lineZ m ((w).take (i))).add) % ((lineZ m ((w).take (i))).div)) < 0)), (AV.sl 1 (ns .i64 (digs ((((lineZ m ((w).take (i))).mul * B + (lineZ m ((w).take (i))).add) % ((lineZ m ((w).take (i))).div))).natAbs)))])), (201, (AO.var 36 [(bp ((((lineZ m ((w).take (i))).mul * B + (lineZ m ((w).take (i))).add) / ((lineZ m ((w).take (i))).div)) < 0)), (AV.sl 1 (ns .i64 (digs ((((lineZ m ((w).take (i))).mul * B + (lineZ m ((w).take (i))).add) / ((lineZ m ((w).take (i))).div))).natAbs)))])), (2, (AO.var 24 [(AV.lit (.int .i64 (m.mod))), (AV.sl 1 (is .i64 (m.mul))), (AV.sl 1 (is .i64 (m.add)))])), (3, (AO.var 36 [(AV.lit (.bool false)), (AV.lit (.slice none 0 0))])), (4, (AO.var 36 [(AV.lit (.bool false)), (AV.lit (.slice none 0 0))])), (5, (AO.var 36 [(bp (B < 0)), (AV.sl 1 (ns .i64 (digs (B).natAbs)))])), (6, (AO.var 49 [(bp (((lineZ m ((w).take (i))).mul) < 0)), (AV.sl 1 (ns .i64 (digs ((lineZ m ((w).take (i))).mul).natAbs))), (bp (((lineZ m ((w).take (i))).add) < 0)), (AV.sl 1 (ns .i64 (digs ((lineZ m ((w).take (i))).add).natAbs))), (bp (((lineZ m ((w).take (i))).div) < 0)), (AV.sl 1 (ns .i64 (digs ((lineZ m ((w).take (i))).div).natAbs)))]))] Gd.none Xc_tZ36 rfl rfl rfl rfl rfl rfl ?_
    refine aops_end ⟨by kernel_rfl, ?_⟩
    refine hK8 _ ?_
    refine awp_seq fun K9 hK9 => ?_
    refine awp_seq fun K10 hK10 => ?_
    refine awp_regionD rfl ?_
    refine o_loadA [(AV.lit (.int .i64 (m.mod))), (AV.sl 1 (is .i64 (m.mul))), (AV.sl 1 (is .i64 (m.add)))] Gd.none Xc_tA24 rfl rfl rfl rfl rfl ?_
    refine o_loadA [(bp ((((lineZ m ((w).take (i))).mul * B + (lineZ m ((w).take (i))).add) / ((lineZ m ((w).take (i))).div)) < 0)), (AV.sl 1 (ns .i64 (digs ((((lineZ m ((w).take (i))).mul * B + (lineZ m ((w).take (i))).add) / ((lineZ m ((w).take (i))).div))).natAbs)))] Gd.none Xc_tA36 rfl rfl rfl rfl rfl ?_
    refine o_call [(AV.agg [(AV.lit (.int .i64 (m.mod))), (AV.sl 1 (is .i64 (m.mul))), (AV.sl 1 (is .i64 (m.add)))]), (AV.agg [(bp ((((lineZ m ((w).take (i))).mul * B + (lineZ m ((w).take (i))).add) / ((lineZ m ((w).take (i))).div)) < 0)), (AV.sl 1 (ns .i64 (digs ((((lineZ m ((w).take (i))).mul * B + (lineZ m ((w).take (i))).add) / ((lineZ m ((w).take (i))).div))).natAbs)))])] (AV.lit (.int .i64 ((((lineZ m ((w).take (i))).mul * B + (lineZ m ((w).take (i))).add) / ((lineZ m ((w).take (i))).div)) % m.mod))) Gd.none Xc_tC52 rfl (c_gRest m ((((lineZ m ((w).take (i))).mul * B + (lineZ m ((w).take (i))).add) / ((lineZ m ((w).take (i))).div))) (by first | assumption | exact okM_iff.1 (by assumption)) (by first | assumption | omega | (simp only [Int.natAbs_neg]; omega))) ?_
    refine o_move (AV.sl 1 (is .i64 (w))) Gd.none rfl ?_
    refine o_move (nm .i64 (i)) Gd.none rfl ?_
    refine i_index (w) (i) Gd.none Xc_tE22 rfl rfl (by omega) ?_
    refine i_loadI (w) (i) Gd.none Xc_tS3 rfl (by omega) ?_
    refine o_eql (a := ((((lineZ m ((w).take (i))).mul * B + (lineZ m ((w).take (i))).add) / ((lineZ m ((w).take (i))).div)) % m.mod)) (c := ((w).getD (i) 0)) Gd.none rfl rfl ?_
    refine aops_end ⟨by kernel_rfl, ?_⟩
    refine hK10 _ ?_
    refine awp_condQ (q := ((((lineZ m ((w).take (i))).mul * B + (lineZ m ((w).take (i))).add) / ((lineZ m ((w).take (i))).div)) % m.mod) = ((w).getD (i) 0)) rfl (fun h2 => ?_) (fun h2 => ?_)
    · rw [hB, ediv_line hp3] at h2
      have htT : t = T := by rcases Nat.lt_or_ge t T with e | e; exact absurd h2 (t3 t e); omega
      have hq4 : R + ((t : Nat) : Int) * (lineZ m ((w).take (i))).div = (restZ m (w.take (i + 1))).1 := by rw [htT, lineZ_div, L4]; exact t4
      refine awp_exit ?_
      refine hK7 _ ?_
      refine awp_regionD rfl ?_
      refine o_loadA [(AV.lit (.int .i64 (m.mod))), (AV.sl 1 (is .i64 (m.mul))), (AV.sl 1 (is .i64 (m.add)))] Gd.none Xc_tA24 rfl rfl rfl rfl rfl ?_
      refine o_loadA [(bp (((lineZ m ((w).take (i))).mul) < 0)), (AV.sl 1 (ns .i64 (digs ((lineZ m ((w).take (i))).mul).natAbs))), (bp (((lineZ m ((w).take (i))).add) < 0)), (AV.sl 1 (ns .i64 (digs ((lineZ m ((w).take (i))).add).natAbs))), (bp (((lineZ m ((w).take (i))).div) < 0)), (AV.sl 1 (ns .i64 (digs ((lineZ m ((w).take (i))).div).natAbs)))] Gd.none Xc_tA49 rfl rfl rfl rfl rfl ?_
      refine o_move (AV.sl 1 (is .i64 (w))) Gd.none rfl ?_
      refine o_move (nm .i64 (i)) Gd.none rfl ?_
      refine i_index (w) (i) Gd.none Xc_tE22 rfl rfl (by omega) ?_
      refine i_loadI (w) (i) Gd.none Xc_tS3 rfl (by omega) ?_
      refine o_call [(AV.agg [(AV.lit (.int .i64 (m.mod))), (AV.sl 1 (is .i64 (m.mul))), (AV.sl 1 (is .i64 (m.add)))]), (AV.agg [(bp (((lineZ m ((w).take (i))).mul) < 0)), (AV.sl 1 (ns .i64 (digs ((lineZ m ((w).take (i))).mul).natAbs))), (bp (((lineZ m ((w).take (i))).add) < 0)), (AV.sl 1 (ns .i64 (digs ((lineZ m ((w).take (i))).add).natAbs))), (bp (((lineZ m ((w).take (i))).div) < 0)), (AV.sl 1 (ns .i64 (digs ((lineZ m ((w).take (i))).div).natAbs)))]), (AV.lit (.int .i64 ((w).getD (i) 0)))] (linR (thenZ m (lineZ m ((w).take (i))) ((w).getD (i) 0))) Gd.none Xc_tC66 rfl (c_vThen m (lineZ m ((w).take (i))) ((w).getD (i) 0) hM (by omega) (by omega) (by omega) (by omega) (by omega)) ?_
      refine o_store [(202, (AO.var 36 [(bp ((((lineZ m ((w).take (i))).mul * B + (lineZ m ((w).take (i))).add) % ((lineZ m ((w).take (i))).div)) < 0)), (AV.sl 1 (ns .i64 (digs ((((lineZ m ((w).take (i))).mul * B + (lineZ m ((w).take (i))).add) % ((lineZ m ((w).take (i))).div))).natAbs)))])), (201, (AO.var 36 [(bp ((((lineZ m ((w).take (i))).mul * B + (lineZ m ((w).take (i))).add) / ((lineZ m ((w).take (i))).div)) < 0)), (AV.sl 1 (ns .i64 (digs ((((lineZ m ((w).take (i))).mul * B + (lineZ m ((w).take (i))).add) / ((lineZ m ((w).take (i))).div))).natAbs)))])), (2, (AO.var 24 [(AV.lit (.int .i64 (m.mod))), (AV.sl 1 (is .i64 (m.mul))), (AV.sl 1 (is .i64 (m.add)))])), (3, (AO.var 36 [(AV.lit (.bool false)), (AV.lit (.slice none 0 0))])), (4, (AO.var 36 [(AV.lit (.bool false)), (AV.lit (.slice none 0 0))])), (5, (AO.var 36 [(bp (B < 0)), (AV.sl 1 (ns .i64 (digs (B).natAbs)))])), (6, (AO.var 49 [(bp (((thenZ m (lineZ m ((w).take (i))) ((w).getD (i) 0)).mul) < 0)), (AV.sl 1 (ns .i64 (digs ((thenZ m (lineZ m ((w).take (i))) ((w).getD (i) 0)).mul).natAbs))), (bp (((thenZ m (lineZ m ((w).take (i))) ((w).getD (i) 0)).add) < 0)), (AV.sl 1 (ns .i64 (digs ((thenZ m (lineZ m ((w).take (i))) ((w).getD (i) 0)).add).natAbs))), (bp (((thenZ m (lineZ m ((w).take (i))) ((w).getD (i) 0)).div) < 0)), (AV.sl 1 (ns .i64 (digs ((thenZ m (lineZ m ((w).take (i))) ((w).getD (i) 0)).div).natAbs)))]))] Gd.none Xc_tZ49 rfl rfl rfl rfl rfl rfl ?_
      refine aops_end ⟨by kernel_rfl, ?_⟩
      refine hK6 _ ?_
      refine awp_region rfl ?_
      refine o_move (nm .i64 (i)) Gd.none rfl ?_
      refine n_add (i) (1) Gd.none rfl rfl (by simp only [topOf]; omega) ?_
      refine o_assign (nm .i64 ((i) + (1))) Gd.none rfl ?_
      refine aops_end ?_
      refine ⟨_, _, ?lt, ⟨i + 1, B, (by omega), (hB.trans hq4), (by omega), rfl, rfl⟩, ?wk⟩
      case lt => omega
      case wk => exact Wk.sub (And.intro (by exact rfl) (And.intro (by exact rfl) (And.intro (by exact rfl) (And.intro (by exact rfl) (And.intro (by exact rfl) (And.intro (by exact rfl) (And.intro (by first | rfl | exact congrArg (nm _) (by omega) | exact nm_int (by omega) | exact nm_int (by simp [IntKind.wrap, IntKind.bits, IntKind.signed]; omega)) (trivial)))))))) (And.intro (by first | rfl | exact row_ns (by simp) | exact congrArg (fun x => some (AO.blk (.stringIter _ x))) (by omega) | (rw [← lineZ_next h1]; rfl)) (And.intro (by first | rfl | exact row_ns (by simp) | exact congrArg (fun x => some (AO.blk (.stringIter _ x))) (by omega) | (rw [← lineZ_next h1]; rfl)) (And.intro (by first | rfl | exact row_ns (by simp) | exact congrArg (fun x => some (AO.blk (.stringIter _ x))) (by omega) | (rw [← lineZ_next h1]; rfl)) (And.intro (by first | rfl | exact row_ns (by simp) | exact congrArg (fun x => some (AO.blk (.stringIter _ x))) (by omega) | (rw [← lineZ_next h1]; rfl)) (And.intro (by first | rfl | exact row_ns (by simp) | exact congrArg (fun x => some (AO.blk (.stringIter _ x))) (by omega) | (rw [← lineZ_next h1]; rfl)) (trivial))))))
    · rw [hB, ediv_line hp3] at h2
      have htT : t < T := by rcases Nat.lt_or_ge t T with e | e; exact e; exact absurd (by rw [show t = T by omega]; exact t2) h2
      have hz2 := len_addZ B (lineZ m ((w).take (i))).div
      refine awp_skip ?_
      refine hK9 _ ?_
      refine awp_region rfl ?_
      refine o_loadA [(bp (B < 0)), (AV.sl 1 (ns .i64 (digs (B).natAbs)))] Gd.none Xc_tA36 rfl rfl rfl rfl rfl ?_
      refine o_fieldRef 4 Gd.none Xc_tF49_2 rfl rfl ?_
      refine o_loadA [(bp (((lineZ m ((w).take (i))).div) < 0)), (AV.sl 1 (ns .i64 (digs ((lineZ m ((w).take (i))).div).natAbs)))] Gd.none Xc_tA36 rfl rfl rfl rfl rfl ?_
      refine o_call [(AV.agg [(bp (B < 0)), (AV.sl 1 (ns .i64 (digs (B).natAbs)))]), (AV.agg [(bp (((lineZ m ((w).take (i))).div) < 0)), (AV.sl 1 (ns .i64 (digs ((lineZ m ((w).take (i))).div).natAbs)))])] (intR ((B + ((lineZ m ((w).take (i))).div)))) Gd.none Xc_tC34 rfl (c_rAdd (B) (((lineZ m ((w).take (i))).div)) (by first | assumption | omega | (simp only [Int.natAbs_neg]; omega)) (by first | assumption | omega | (simp only [Int.natAbs_neg]; omega))) ?_
      refine o_store [(202, (AO.var 36 [(bp ((((lineZ m ((w).take (i))).mul * B + (lineZ m ((w).take (i))).add) % ((lineZ m ((w).take (i))).div)) < 0)), (AV.sl 1 (ns .i64 (digs ((((lineZ m ((w).take (i))).mul * B + (lineZ m ((w).take (i))).add) % ((lineZ m ((w).take (i))).div))).natAbs)))])), (201, (AO.var 36 [(bp ((((lineZ m ((w).take (i))).mul * B + (lineZ m ((w).take (i))).add) / ((lineZ m ((w).take (i))).div)) < 0)), (AV.sl 1 (ns .i64 (digs ((((lineZ m ((w).take (i))).mul * B + (lineZ m ((w).take (i))).add) / ((lineZ m ((w).take (i))).div))).natAbs)))])), (2, (AO.var 24 [(AV.lit (.int .i64 (m.mod))), (AV.sl 1 (is .i64 (m.mul))), (AV.sl 1 (is .i64 (m.add)))])), (3, (AO.var 36 [(AV.lit (.bool false)), (AV.lit (.slice none 0 0))])), (4, (AO.var 36 [(AV.lit (.bool false)), (AV.lit (.slice none 0 0))])), (5, (AO.var 36 [(bp ((B + ((lineZ m ((w).take (i))).div)) < 0)), (AV.sl 1 (ns .i64 (digs ((B + ((lineZ m ((w).take (i))).div))).natAbs)))])), (6, (AO.var 49 [(bp (((lineZ m ((w).take (i))).mul) < 0)), (AV.sl 1 (ns .i64 (digs ((lineZ m ((w).take (i))).mul).natAbs))), (bp (((lineZ m ((w).take (i))).add) < 0)), (AV.sl 1 (ns .i64 (digs ((lineZ m ((w).take (i))).add).natAbs))), (bp (((lineZ m ((w).take (i))).div) < 0)), (AV.sl 1 (ns .i64 (digs ((lineZ m ((w).take (i))).div).natAbs)))]))] Gd.none Xc_tZ36 rfl rfl rfl rfl rfl rfl ?_
      refine aops_end ?_
      refine ⟨_, _, ?lt, ⟨t + 1, (B + (lineZ m ((w).take (i))).div), (by omega), (by rw [hB, Int.natCast_add, Int.add_mul, Int.natCast_one, Int.one_mul]; omega), (by omega), rfl, rfl⟩, ?wk⟩
      case lt => omega
      case wk => exact Wk.sub (And.intro (by exact rfl) (And.intro (by exact rfl) (And.intro (by exact rfl) (And.intro (by exact rfl) (And.intro (by exact rfl) (And.intro (by exact rfl) (And.intro (by exact rfl) (trivial)))))))) (And.intro (by first | rfl | exact row_ns (by simp) | exact congrArg (fun x => some (AO.blk (.stringIter _ x))) (by omega) | (rw [← lineZ_next h1]; rfl)) (And.intro (by first | rfl | exact row_ns (by simp) | exact congrArg (fun x => some (AO.blk (.stringIter _ x))) (by omega) | (rw [← lineZ_next h1]; rfl)) (And.intro (by first | rfl | exact row_ns (by simp) | exact congrArg (fun x => some (AO.blk (.stringIter _ x))) (by omega) | (rw [← lineZ_next h1]; rfl)) (And.intro (by first | rfl | exact row_ns (by simp) | exact congrArg (fun x => some (AO.blk (.stringIter _ x))) (by omega) | (rw [← lineZ_next h1]; rfl)) (And.intro (by first | rfl | exact row_ns (by simp) | exact congrArg (fun x => some (AO.blk (.stringIter _ x))) (by omega) | (rw [← lineZ_next h1]; rfl)) (trivial))))))
  · refine awp_exit ?_
    refine hK2 _ ?_
    refine awp_seq fun K11 hK11 => ?_
    refine awp_regionD rfl ?_
    refine o_loadA [(bp (R < 0)), (AV.sl 1 (ns .i64 (digs (R).natAbs)))] Gd.none Xc_tA36 rfl rfl rfl rfl rfl ?_
    refine o_fieldRef 4 Gd.none Xc_tF49_2 rfl rfl ?_
    refine o_loadA [(bp (((lineZ m ((w).take (i))).div) < 0)), (AV.sl 1 (ns .i64 (digs ((lineZ m ((w).take (i))).div).natAbs)))] Gd.none Xc_tA36 rfl rfl rfl rfl rfl ?_
    refine o_store [(2, (AO.var 24 [(AV.lit (.int .i64 (m.mod))), (AV.sl 1 (is .i64 (m.mul))), (AV.sl 1 (is .i64 (m.add)))])), (3, (AO.var 36 [(bp (R < 0)), (AV.sl 1 (ns .i64 (digs (R).natAbs)))])), (4, (AO.var 36 [(AV.lit (.bool false)), (AV.lit (.slice none 0 0))])), (5, (AO.var 36 [(bp (R < 0)), (AV.sl 1 (ns .i64 (digs (R).natAbs)))])), (6, (AO.var 49 [(bp (((lineZ m ((w).take (i))).mul) < 0)), (AV.sl 1 (ns .i64 (digs ((lineZ m ((w).take (i))).mul).natAbs))), (bp (((lineZ m ((w).take (i))).add) < 0)), (AV.sl 1 (ns .i64 (digs ((lineZ m ((w).take (i))).add).natAbs))), (bp (((lineZ m ((w).take (i))).div) < 0)), (AV.sl 1 (ns .i64 (digs ((lineZ m ((w).take (i))).div).natAbs)))]))] Gd.none Xc_tZ36 rfl rfl rfl rfl rfl rfl ?_
    refine o_store [(2, (AO.var 24 [(AV.lit (.int .i64 (m.mod))), (AV.sl 1 (is .i64 (m.mul))), (AV.sl 1 (is .i64 (m.add)))])), (3, (AO.var 36 [(bp (R < 0)), (AV.sl 1 (ns .i64 (digs (R).natAbs)))])), (4, (AO.var 36 [(bp (((lineZ m ((w).take (i))).div) < 0)), (AV.sl 1 (ns .i64 (digs ((lineZ m ((w).take (i))).div).natAbs)))])), (5, (AO.var 36 [(bp (R < 0)), (AV.sl 1 (ns .i64 (digs (R).natAbs)))])), (6, (AO.var 49 [(bp (((lineZ m ((w).take (i))).mul) < 0)), (AV.sl 1 (ns .i64 (digs ((lineZ m ((w).take (i))).mul).natAbs))), (bp (((lineZ m ((w).take (i))).add) < 0)), (AV.sl 1 (ns .i64 (digs ((lineZ m ((w).take (i))).add).natAbs))), (bp (((lineZ m ((w).take (i))).div) < 0)), (AV.sl 1 (ns .i64 (digs ((lineZ m ((w).take (i))).div).natAbs)))]))] Gd.none Xc_tZ36 rfl rfl rfl rfl rfl rfl ?_
    refine aops_end ⟨by kernel_rfl, ?_⟩
    refine hK11 _ ?_
    refine awp_ret ?_
    refine post_ret ⟨[(AV.agg [(bp (R < 0)), (AV.sl 1 (ns .i64 (digs (R).natAbs)))]), (AV.agg [(bp (((lineZ m ((w).take (i))).div) < 0)), (AV.sl 1 (ns .i64 (digs ((lineZ m ((w).take (i))).div).natAbs)))])], And.intro ⟨3, (AO.var 36 [(bp (R < 0)), (AV.sl 1 (ns .i64 (digs (R).natAbs)))]), rfl, rfl, rfl, Or.inl ⟨Xc_tA36, AV.le_refl _⟩⟩ (And.intro ⟨4, (AO.var 36 [(bp (((lineZ m ((w).take (i))).div) < 0)), (AV.sl 1 (ns .i64 (digs ((lineZ m ((w).take (i))).div).natAbs)))]), rfl, rfl, rfl, Or.inl ⟨Xc_tA36, AV.le_refl _⟩⟩ (trivial)), rfl, ?_⟩
    have hi2 : i = w.length := by omega
    subst hi2
    rw [List.take_length] at hR
    exact tup_eq2 (congrArg intR hR.symm) (congrArg intR (by rw [List.take_length, lineZ_div]))

end Go.Proofs.YtbilndahjkimkaaDoor

set_option linter.unusedVariables false
set_option linter.unusedSimpArgs false
namespace Go.Mth
open Go.Ab
theorem exW_free : freeM (kinM 3 1) := fun i hi => by
  have : i < 2 := hi
  have : i = 0 ∨ i = 1 := by omega
  rcases this with rfl | rfl <;> decide
theorem exW_ok : OkW (kinM 3 1) [1, 1, 0] := ⟨fun r hr => by
  simp only [List.mem_cons, List.not_mem_nil, or_false] at hr
  rcases hr with rfl | rfl | rfl <;> exact ⟨by decide, by decide⟩, by decide⟩
theorem txt1 (n : Nat) (h : n < 10) : txt (n : Int) = ⟨#[UInt8.ofNat (48 + n)]⟩ := by
  have : n = 0 ∨ n = 1 ∨ n = 2 ∨ n = 3 ∨ n = 4 ∨ n = 5 ∨ n = 6 ∨ n = 7 ∨ n = 8 ∨ n = 9 := by omega
  rcases this with rfl | rfl | rfl | rfl | rfl | rfl | rfl | rfl | rfl | rfl <;> (simp [txt, txtL, decs, strN]; try rfl)
theorem txt13 : txt 13 = ⟨#[49, 51]⟩ := by
  simp [txt, txtL, decs, strN]
  rfl
theorem exW_line : lineS (kinM 3 1) [1, 1, 0] = ⟨⟨#[57]⟩, ⟨#[53]⟩, ⟨#[56]⟩⟩ ∧ lineE (kinM 3 1) [1, 1, 0] = 0 := by
  have h := line_0 okM_ex exW_ok
  have e : lineZ (kinM 3 1) [1, 1, 0] = ⟨9, 5, 8⟩ := by rfl
  refine ⟨h.2.trans ?_, h.1⟩
  rw [e]
  unfold lineT
  rw [show (9 : Int) = ((9 : Nat) : Int) by rfl, show (5 : Int) = ((5 : Nat) : Int) by rfl, show (8 : Int) = ((8 : Nat) : Int) by rfl, txt1 9 (by decide), txt1 5 (by decide), txt1 8 (by decide)]
  rfl
theorem exW_rest : restS (kinM 3 1) [1, 1, 0] = ⟨#[51]⟩ ∧ restD (kinM 3 1) [1, 1, 0] = ⟨#[56]⟩ ∧ restE (kinM 3 1) [1, 1, 0] = 0 := by
  have h := rest_0 okM_ex ⟨exW_ok, exW_free⟩
  have e : (restZ (kinM 3 1) [1, 1, 0]).1 = ((3 : Nat) : Int) := by decide +kernel
  have e2 : (kinM 3 1).mod ^ ([1, 1, 0] : List Int).length = ((8 : Nat) : Int) := by decide +kernel
  refine ⟨h.2.1.trans ?_, h.2.2.trans ?_, h.1⟩
  · rw [e, txt1 3 (by decide)]; rfl
  · rw [e2, txt1 8 (by decide)]; rfl
theorem exW_word : wordL (kinM 3 1) ⟨#[55]⟩ 4 = [1, 1, 1, 0] ∧ wordE (kinM 3 1) ⟨#[55]⟩ 4 = 0 := by
  have hf : FitK (kinM 3 1) (numS ⟨#[55]⟩) (4 : Int).toNat := fun j hj => by
    have : j < 4 := hj
    have : j = 0 ∨ j = 1 ∨ j = 2 ∨ j = 3 := by omega
    rw [numS_ex]
    rcases this with rfl | rfl | rfl | rfl
    · exact fit_of_lt (by decide)
    · rw [show iterZ (kinM 3 1) 1 7 = 11 by decide]; exact fit_of_lt (by decide)
    · rw [show iterZ (kinM 3 1) 2 7 = 17 by decide]; exact fit_of_lt (by decide)
    · rw [show iterZ (kinM 3 1) 3 7 = 26 by decide]; exact fit_of_lt (by decide)
  have h := wordE_0 (K := 4) ⟨okM_ex, okS_ex⟩ (by decide) hf
  refine ⟨h.2.trans ?_, h.1⟩
  rw [numS_ex]
  decide
theorem okS_dig {a : ByteArray} (h1 : 0 < a.size) (h2 : a.size ≤ 2000) (h3 : 49 ≤ byt a 0) (h : ∀ i, i < a.size → 48 ≤ byt a i ∧ byt a i ≤ 57) : okS a = true := by
  have h0 := h 0 h1
  have hs : sgnAt a = 0 := by unfold sgnAt; rw [if_neg (by omega)]
  exact okS_yes ⟨by rw [hs]; exact h1, by rw [hs]; omega, fun e => by rw [hs] at e; omega, fun i _ h2 => h i h2⟩
theorem dig1 {a : ByteArray} (h : (a.size = 1 ∧ 49 ≤ byt a 0 ∧ byt a 0 ≤ 57)) : okS a = true := okS_dig (by omega) (by omega) h.2.1 fun i hi => by
  have : i = 0 := by omega
  subst this; omega
theorem dig2 {a : ByteArray} (h : (a.size = 2 ∧ 49 ≤ byt a 0 ∧ byt a 0 ≤ 57 ∧ 48 ≤ byt a 1 ∧ byt a 1 ≤ 57)) : okS a = true := okS_dig (by omega) (by omega) h.2.1 fun i hi => by
  have : i = 0 ∨ i = 1 := by omega
  rcases this with rfl | rfl <;> omega
def exL : LineS := ⟨⟨#[57]⟩, ⟨#[53]⟩, ⟨#[56]⟩⟩
theorem exL_ok : okL exL = true := by
  unfold okL
  rw [show okS exL.mul = true from dig1 ⟨by decide, by decide, by decide⟩, show okS exL.add = true from dig1 ⟨by decide, by decide, by decide⟩, show okS exL.div = true from dig1 ⟨by decide, by decide, by decide⟩]
  rfl
theorem exL_num : numS exL.mul = 9 ∧ numS exL.add = 5 ∧ numS exL.div = 8 := ⟨by decide, by decide, by decide⟩
theorem exW_app : appS exL ⟨#[49, 49]⟩ = ⟨#[49, 51]⟩ ∧ AppB exL ⟨#[49, 49]⟩ ∧ appE exL ⟨#[49, 49]⟩ = 0 := by
  have hk : okS ⟨#[49, 49]⟩ = true := dig2 ⟨by decide, by decide, by decide, by decide, by decide⟩
  have hn : numS ⟨#[49, 49]⟩ = 11 := by decide
  obtain ⟨n1, n2, n3⟩ := exL_num
  have hv : appV exL ⟨#[49, 49]⟩ = 104 := by unfold appV; rw [n1, n2, hn]; rfl
  have h := app_yes ⟨exL_ok, hk⟩ (by rw [n3]; decide) (by rw [hv]; exact fit_of_lt (by decide)) (by rw [hv, n3]; rfl)
  refine ⟨h.2.2.trans ?_, h.2.1, h.1⟩
  rw [hv, n3, show (104 : Int) / 8 = 13 by rfl, txt13]
theorem exW_app2 : appS exL ⟨#[49, 50]⟩ = ⟨#[]⟩ ∧ ¬ AppB exL ⟨#[49, 50]⟩ ∧ appE exL ⟨#[49, 50]⟩ = 0 := by
  have hk : okS ⟨#[49, 50]⟩ = true := dig2 ⟨by decide, by decide, by decide, by decide, by decide⟩
  have hn : numS ⟨#[49, 50]⟩ = 12 := by decide
  obtain ⟨n1, n2, n3⟩ := exL_num
  have hv : appV exL ⟨#[49, 50]⟩ = 113 := by unfold appV; rw [n1, n2, hn]; rfl
  have h := app_no ⟨exL_ok, hk⟩ (by rw [n3]; decide) (by rw [hv]; exact fit_of_lt (by decide)) (by rw [hv, n3]; decide)
  exact ⟨h.2.2, h.2.1, h.1⟩
end Go.Mth

set_option linter.unusedVariables false
set_option linter.unusedSimpArgs false
namespace Go.Proofs.YtbilndahjkimkaaDoor
open Go Go.Ab Go.Mth
theorem Xd_tC51 : callable cx.P 51 = true := by kernel_rfl
theorem Xd_tO24 : tyZero cx.P 24 = some [(Go.Value.int IntKind.i64 0), (Go.Value.slice none 0 0), (Go.Value.slice none 0 0)] := by kernel_rfl
theorem Xd_tZ24 : tySize cx.P 24 = some 3 := by kernel_rfl
theorem Xd_tA24 : tyAgg cx.P 24 = some 3 := by kernel_rfl
theorem Xd_tE22 : tyElem cx.P 22 = some (3, 1, 8) := by kernel_rfl
theorem Xd_tO3 : tyZero cx.P 3 = some [(Go.Value.int IntKind.i64 0)] := by kernel_rfl
theorem Xd_tC20 : callable cx.P 20 = true := by kernel_rfl
theorem Xd_tO41 : tyZero cx.P 41 = some [(Go.Value.string {data := #[]}), (Go.Value.string {data := #[]}), (Go.Value.string {data := #[]})] := by kernel_rfl
theorem Xd_tZ41 : tySize cx.P 41 = some 3 := by kernel_rfl
theorem Xd_tC21 : callable cx.P 21 = true := by kernel_rfl
theorem Xd_tC12 : callable cx.P 12 = true := by kernel_rfl
theorem Xd_tP41 : tyPlaces cx.P 41 = some (fun i => (#[(0, 1), (1, 1), (2, 1)] : Array (Nat × Nat))[i]?) := by kernel_rfl
theorem Xd_tC28 : callable cx.P 28 = true := by kernel_rfl
theorem Xd_tA41 : tyAgg cx.P 41 = some 3 := by kernel_rfl
theorem Xd_tC19 : callable cx.P 19 = true := by kernel_rfl
theorem c_l3Awake  : ECalls cx 16 [] (.lit (.bool true)) := by
  refine ecalls_of_awp Tryd.func16 (c := _) rfl (Nat.le_of_ble_eq_true rfl) ?_
  show awp cx 97 _ (postF cx Tryd.f16 _) ⟨[], []⟩
  refine awp_seq fun K0 hK0 => ?_
  refine awp_region rfl ?_
  refine o_assign (AV.lit (.bool false)) Gd.none rfl ?_
  refine aops_end ?_
  refine hK0 _ ?_
  refine awp_seq fun K1 hK1 => ?_
  refine awp_region rfl ?_
  refine o_call [] (mapV (kinM 3 1)) Gd.none Xd_tC51 rfl c_gCollatz ?_
  refine o_alloc 2 [(nm .i64 (0)), (AV.lit (.slice none 0 0)), (AV.lit (.slice none 0 0))] Gd.none Xd_tO24 rfl rfl rfl ?_
  refine o_store [(2, (AO.var 24 [(AV.lit (.int .i64 ((kinM 3 1).mod))), (AV.sl 1 (is .i64 ((kinM 3 1).mul))), (AV.sl 1 (is .i64 ((kinM 3 1).add)))]))] Gd.none Xd_tZ24 rfl rfl rfl rfl rfl rfl ?_
  refine aops_end ?_
  refine hK1 _ ?_
  refine awp_seq fun K2 hK2 => ?_
  refine awp_region rfl ?_
  refine o_loadA [(AV.lit (.int .i64 ((kinM 3 1).mod))), (AV.sl 1 (is .i64 ((kinM 3 1).mul))), (AV.sl 1 (is .i64 ((kinM 3 1).add)))] Gd.none Xd_tA24 rfl rfl rfl rfl rfl ?_
  refine o_buildSlice 3 (ns .i64 ([1, 1, 0])) [(0, [(nm .i64 (1))]), (1, [(nm .i64 (1))]), (2, [(nm .i64 (0))])] Gd.none Xd_tE22 rfl Xd_tO3 rfl rfl rfl rfl rfl rfl rfl ?_
  refine o_callG [(3, 1, (ns .i64 ([1, 1, 0])))] [(AV.agg [(AV.lit (.int .i64 ((kinM 3 1).mod))), (AV.sl 1 (is .i64 ((kinM 3 1).mul))), (AV.sl 1 (is .i64 ((kinM 3 1).add)))]), (AV.sl 1 (ns .i64 ([1, 1, 0])))] _ (AV.tup [(AV.agg [(AV.lit (.string (({data := #[57]} : ByteArray)))), (AV.lit (.string (({data := #[53]} : ByteArray)))), (AV.lit (.string (({data := #[56]} : ByteArray))))]), (nm .i64 (0))]) [(2, (AO.var 24 [(AV.lit (.int .i64 ((kinM 3 1).mod))), (AV.sl 1 (is .i64 ((kinM 3 1).mul))), (AV.sl 1 (is .i64 ((kinM 3 1).add)))]))] Gd.none Xd_tC20 rfl (And.intro ⟨_, rfl⟩ (trivial)) rfl rfl (LeL.cons (AV.le_refl _) (LeL.cons (AV.le_refl _) (LeL.nil))) (by have h := c_oLine (kinM 3 1) [1, 1, 0] (by decide); rw [exW_line.1, exW_line.2] at h; exact h) rfl ?_
  refine o_move (AV.tup [(AV.agg [(AV.lit (.string (({data := #[57]} : ByteArray)))), (AV.lit (.string (({data := #[53]} : ByteArray)))), (AV.lit (.string (({data := #[56]} : ByteArray))))]), (nm .i64 (0))]) Gd.none rfl ?_
  refine o_extract (AV.agg [(AV.lit (.string (({data := #[57]} : ByteArray)))), (AV.lit (.string (({data := #[53]} : ByteArray)))), (AV.lit (.string (({data := #[56]} : ByteArray))))]) Gd.none rfl rfl ?_
  refine o_extract (nm .i64 (0)) Gd.none rfl rfl ?_
  refine o_alloc 4 [(AV.lit (.string (({data := #[]} : ByteArray)))), (AV.lit (.string (({data := #[]} : ByteArray)))), (AV.lit (.string (({data := #[]} : ByteArray))))] Gd.none Xd_tO41 rfl rfl rfl ?_
  refine o_store [(4, (AO.var 41 [(AV.lit (.string (({data := #[57]} : ByteArray)))), (AV.lit (.string (({data := #[53]} : ByteArray)))), (AV.lit (.string (({data := #[56]} : ByteArray))))])), (2, (AO.var 24 [(AV.lit (.int .i64 ((kinM 3 1).mod))), (AV.sl 1 (is .i64 ((kinM 3 1).mul))), (AV.sl 1 (is .i64 ((kinM 3 1).add)))]))] Gd.none Xd_tZ41 rfl rfl rfl rfl rfl rfl ?_
  refine o_assign (nm .i64 (0)) Gd.none rfl ?_
  refine aops_end ?_
  refine hK2 _ ?_
  refine awp_seq fun K3 hK3 => ?_
  refine awp_region rfl ?_
  refine o_loadA [(AV.lit (.int .i64 ((kinM 3 1).mod))), (AV.sl 1 (is .i64 ((kinM 3 1).mul))), (AV.sl 1 (is .i64 ((kinM 3 1).add)))] Gd.none Xd_tA24 rfl rfl rfl rfl rfl ?_
  refine o_buildSlice 5 (ns .i64 ([1, 1, 0])) [(0, [(nm .i64 (1))]), (1, [(nm .i64 (1))]), (2, [(nm .i64 (0))])] Gd.none Xd_tE22 rfl Xd_tO3 rfl rfl rfl rfl rfl rfl rfl ?_
  refine o_callG [(5, 1, (ns .i64 ([1, 1, 0])))] [(AV.agg [(AV.lit (.int .i64 ((kinM 3 1).mod))), (AV.sl 1 (is .i64 ((kinM 3 1).mul))), (AV.sl 1 (is .i64 ((kinM 3 1).add)))]), (AV.sl 1 (ns .i64 ([1, 1, 0])))] _ (AV.tup [(AV.lit (.string (({data := #[51]} : ByteArray)))), (AV.lit (.string (({data := #[56]} : ByteArray)))), (nm .i64 (0))]) [(4, (AO.var 41 [(AV.lit (.string (({data := #[57]} : ByteArray)))), (AV.lit (.string (({data := #[53]} : ByteArray)))), (AV.lit (.string (({data := #[56]} : ByteArray))))])), (2, (AO.var 24 [(AV.lit (.int .i64 ((kinM 3 1).mod))), (AV.sl 1 (is .i64 ((kinM 3 1).mul))), (AV.sl 1 (is .i64 ((kinM 3 1).add)))]))] Gd.none Xd_tC21 rfl (And.intro ⟨_, rfl⟩ (trivial)) rfl rfl (LeL.cons (AV.le_refl _) (LeL.cons (AV.le_refl _) (LeL.nil))) (by have h := c_oRest (kinM 3 1) [1, 1, 0] (by decide); rw [exW_rest.1, exW_rest.2.1, exW_rest.2.2] at h; exact h) rfl ?_
  refine o_move (AV.tup [(AV.lit (.string (({data := #[51]} : ByteArray)))), (AV.lit (.string (({data := #[56]} : ByteArray)))), (nm .i64 (0))]) Gd.none rfl ?_
  refine o_extract (AV.lit (.string (({data := #[51]} : ByteArray)))) Gd.none rfl rfl ?_
  refine o_extract (AV.lit (.string (({data := #[56]} : ByteArray)))) Gd.none rfl rfl ?_
  refine o_extract (nm .i64 (0)) Gd.none rfl rfl ?_
  refine o_assign (AV.lit (.string (({data := #[51]} : ByteArray)))) Gd.none rfl ?_
  refine o_assign (AV.lit (.string (({data := #[56]} : ByteArray)))) Gd.none rfl ?_
  refine o_assign (nm .i64 (0)) Gd.none rfl ?_
  refine aops_end ?_
  refine hK3 _ ?_
  refine awp_seq fun K4 hK4 => ?_
  refine awp_region rfl ?_
  refine o_loadA [(AV.lit (.int .i64 ((kinM 3 1).mod))), (AV.sl 1 (is .i64 ((kinM 3 1).mul))), (AV.sl 1 (is .i64 ((kinM 3 1).add)))] Gd.none Xd_tA24 rfl rfl rfl rfl rfl ?_
  refine o_call [(AV.agg [(AV.lit (.int .i64 ((kinM 3 1).mod))), (AV.sl 1 (is .i64 ((kinM 3 1).mul))), (AV.sl 1 (is .i64 ((kinM 3 1).add)))]), (AV.lit (.string (({data := #[55]} : ByteArray)))), (nm .i64 (4))] (AV.tup [(AV.sl 1 (is .i64 ([1, 1, 1, 0]))), (nm .i64 (0))]) Gd.none Xd_tC12 rfl (by have h := c_oWord (kinM 3 1) ⟨#[55]⟩ 4 (by decide); rw [exW_word.1, exW_word.2] at h; exact h) ?_
  refine o_move (AV.tup [(AV.sl 1 (is .i64 ([1, 1, 1, 0]))), (nm .i64 (0))]) Gd.none rfl ?_
  refine o_extract (AV.sl 1 (is .i64 ([1, 1, 1, 0]))) Gd.none rfl rfl ?_
  refine o_extract (nm .i64 (0)) Gd.none rfl rfl ?_
  refine o_assign (AV.sl 1 (is .i64 ([1, 1, 1, 0]))) Gd.none rfl ?_
  refine o_assign (nm .i64 (0)) Gd.none rfl ?_
  refine aops_end ?_
  refine hK4 _ ?_
  refine awp_seq fun K5 hK5 => ?_
  refine awp_region rfl ?_
  refine o_build [(AV.lit (.string (({data := #[57]} : ByteArray)))), (AV.lit (.string (({data := #[53]} : ByteArray)))), (AV.lit (.string (({data := #[56]} : ByteArray))))] [(0, [(AV.lit (.string (({data := #[57]} : ByteArray))))]), (1, [(AV.lit (.string (({data := #[53]} : ByteArray))))]), (2, [(AV.lit (.string (({data := #[56]} : ByteArray))))])] Gd.none Xd_tP41 Xd_tO41 rfl rfl rfl ?_
  refine o_call [(AV.agg [(AV.lit (.string (({data := #[57]} : ByteArray)))), (AV.lit (.string (({data := #[53]} : ByteArray)))), (AV.lit (.string (({data := #[56]} : ByteArray))))]), (AV.lit (.string (({data := #[49, 49]} : ByteArray))))] (AV.tup [(AV.lit (.string (({data := #[49, 51]} : ByteArray)))), (AV.lit (.bool true)), (nm .i64 (0))]) Gd.none Xd_tC28 rfl (by have h := c_oApply exL ⟨#[49, 49]⟩ (by decide) (by decide) (by decide) (by decide); rw [exW_app.1, bp_yes exW_app.2.1, exW_app.2.2] at h; exact h) ?_
  refine o_move (AV.tup [(AV.lit (.string (({data := #[49, 51]} : ByteArray)))), (AV.lit (.bool true)), (nm .i64 (0))]) Gd.none rfl ?_
  refine o_extract (AV.lit (.string (({data := #[49, 51]} : ByteArray)))) Gd.none rfl rfl ?_
  refine o_extract (AV.lit (.bool true)) Gd.none rfl rfl ?_
  refine o_extract (nm .i64 (0)) Gd.none rfl rfl ?_
  refine o_assign (AV.lit (.string (({data := #[49, 51]} : ByteArray)))) Gd.none rfl ?_
  refine o_assign (AV.lit (.bool true)) Gd.none rfl ?_
  refine o_assign (nm .i64 (0)) Gd.none rfl ?_
  refine aops_end ?_
  refine hK5 _ ?_
  refine awp_seq fun K6 hK6 => ?_
  refine awp_region rfl ?_
  refine o_build [(AV.lit (.string (({data := #[57]} : ByteArray)))), (AV.lit (.string (({data := #[53]} : ByteArray)))), (AV.lit (.string (({data := #[56]} : ByteArray))))] [(0, [(AV.lit (.string (({data := #[57]} : ByteArray))))]), (1, [(AV.lit (.string (({data := #[53]} : ByteArray))))]), (2, [(AV.lit (.string (({data := #[56]} : ByteArray))))])] Gd.none Xd_tP41 Xd_tO41 rfl rfl rfl ?_
  refine o_call [(AV.agg [(AV.lit (.string (({data := #[57]} : ByteArray)))), (AV.lit (.string (({data := #[53]} : ByteArray)))), (AV.lit (.string (({data := #[56]} : ByteArray))))]), (AV.lit (.string (({data := #[49, 50]} : ByteArray))))] (AV.tup [(AV.lit (.string (({data := #[]} : ByteArray)))), (AV.lit (.bool false)), (nm .i64 (0))]) Gd.none Xd_tC28 rfl (by have h := c_oApply exL ⟨#[49, 50]⟩ (by decide) (by decide) (by decide) (by decide); rw [exW_app2.1, bp_no exW_app2.2.1, exW_app2.2.2] at h; exact h) ?_
  refine o_move (AV.tup [(AV.lit (.string (({data := #[]} : ByteArray)))), (AV.lit (.bool false)), (nm .i64 (0))]) Gd.none rfl ?_
  refine o_extract (AV.lit (.string (({data := #[]} : ByteArray)))) Gd.none rfl rfl ?_
  refine o_extract (AV.lit (.bool false)) Gd.none rfl rfl ?_
  refine o_extract (nm .i64 (0)) Gd.none rfl rfl ?_
  refine o_assign (AV.lit (.string (({data := #[]} : ByteArray)))) Gd.none rfl ?_
  refine o_assign (AV.lit (.bool false)) Gd.none rfl ?_
  refine o_assign (nm .i64 (0)) Gd.none rfl ?_
  refine aops_end ?_
  refine hK6 _ ?_
  refine awp_seq fun K7 hK7 => ?_
  refine awp_region rfl ?_
  refine o_move (nm .i64 (0)) Gd.none rfl ?_
  refine n_eql (0) (0) Gd.none rfl rfl ?_
  refine o_move (bp ((0) = (0))) Gd.none rfl ?_
  refine o_loadA [(AV.lit (.string (({data := #[57]} : ByteArray)))), (AV.lit (.string (({data := #[53]} : ByteArray)))), (AV.lit (.string (({data := #[56]} : ByteArray))))] (Gd.yes rfl rfl (decide_eq_true (by decide))) Xd_tA41 rfl rfl rfl rfl rfl ?_
  refine o_build [(AV.lit (.string (({data := #[57]} : ByteArray)))), (AV.lit (.string (({data := #[53]} : ByteArray)))), (AV.lit (.string (({data := #[56]} : ByteArray))))] [(0, [(AV.lit (.string (({data := #[57]} : ByteArray))))]), (1, [(AV.lit (.string (({data := #[53]} : ByteArray))))]), (2, [(AV.lit (.string (({data := #[56]} : ByteArray))))])] (Gd.yes rfl rfl (decide_eq_true (by decide))) Xd_tP41 Xd_tO41 rfl rfl rfl ?_
  refine o_eqlA [.string (({data := #[57]} : ByteArray)), .string (({data := #[53]} : ByteArray)), .string (({data := #[56]} : ByteArray))] [.string (({data := #[57]} : ByteArray)), .string (({data := #[53]} : ByteArray)), .string (({data := #[56]} : ByteArray))] ((({data := #[57]} : ByteArray)) = (({data := #[57]} : ByteArray)) ∧ (({data := #[53]} : ByteArray)) = (({data := #[53]} : ByteArray)) ∧ (({data := #[56]} : ByteArray)) = (({data := #[56]} : ByteArray))) (Gd.yes rfl rfl (decide_eq_true (by decide))) rfl rfl (eq_api_Line _ _ _ _ _ _) ?_
  refine o_pickT (b := decide ((0) = (0))) (bp ((({data := #[57]} : ByteArray)) = (({data := #[57]} : ByteArray)) ∧ (({data := #[53]} : ByteArray)) = (({data := #[53]} : ByteArray)) ∧ (({data := #[56]} : ByteArray)) = (({data := #[56]} : ByteArray)))) Gd.none rfl (decide_eq_true (by decide)) rfl ?_
  refine o_move (bp ((({data := #[57]} : ByteArray)) = (({data := #[57]} : ByteArray)) ∧ (({data := #[53]} : ByteArray)) = (({data := #[53]} : ByteArray)) ∧ (({data := #[56]} : ByteArray)) = (({data := #[56]} : ByteArray)))) Gd.none rfl ?_
  refine o_move (nm .i64 (0)) (Gd.yes rfl rfl (decide_eq_true ⟨rfl, rfl, rfl⟩)) rfl ?_
  refine n_eql (0) (0) (Gd.yes rfl rfl (decide_eq_true ⟨rfl, rfl, rfl⟩)) rfl rfl ?_
  refine o_pickT (b := decide ((({data := #[57]} : ByteArray)) = (({data := #[57]} : ByteArray)) ∧ (({data := #[53]} : ByteArray)) = (({data := #[53]} : ByteArray)) ∧ (({data := #[56]} : ByteArray)) = (({data := #[56]} : ByteArray)))) (bp ((0) = (0))) Gd.none rfl (decide_eq_true ⟨rfl, rfl, rfl⟩) rfl ?_
  refine o_move (bp ((0) = (0))) Gd.none rfl ?_
  refine o_move (AV.lit (.string (({data := #[51]} : ByteArray)))) (Gd.yes rfl rfl (decide_eq_true (by decide))) rfl ?_
  refine o_eqlS (a := (({data := #[51]} : ByteArray))) (c := (({data := #[51]} : ByteArray))) (Gd.yes rfl rfl (decide_eq_true (by decide))) rfl rfl ?_
  refine o_pickT (b := decide ((0) = (0))) (bp ((({data := #[51]} : ByteArray)).toList = (({data := #[51]} : ByteArray)).toList)) Gd.none rfl (decide_eq_true (by decide)) rfl ?_
  refine o_move (bp ((({data := #[51]} : ByteArray)).toList = (({data := #[51]} : ByteArray)).toList)) Gd.none rfl ?_
  refine o_move (AV.lit (.string (({data := #[56]} : ByteArray)))) (Gd.yes rfl rfl (decide_eq_true rfl)) rfl ?_
  refine o_eqlS (a := (({data := #[56]} : ByteArray))) (c := (({data := #[56]} : ByteArray))) (Gd.yes rfl rfl (decide_eq_true rfl)) rfl rfl ?_
  refine o_pickT (b := decide ((({data := #[51]} : ByteArray)).toList = (({data := #[51]} : ByteArray)).toList)) (bp ((({data := #[56]} : ByteArray)).toList = (({data := #[56]} : ByteArray)).toList)) Gd.none rfl (decide_eq_true rfl) rfl ?_
  refine o_move (bp ((({data := #[56]} : ByteArray)).toList = (({data := #[56]} : ByteArray)).toList)) Gd.none rfl ?_
  refine o_move (nm .i64 (0)) (Gd.yes rfl rfl (decide_eq_true rfl)) rfl ?_
  refine n_eql (0) (0) (Gd.yes rfl rfl (decide_eq_true rfl)) rfl rfl ?_
  refine o_pickT (b := decide ((({data := #[56]} : ByteArray)).toList = (({data := #[56]} : ByteArray)).toList)) (bp ((0) = (0))) Gd.none rfl (decide_eq_true rfl) rfl ?_
  refine o_move (bp ((0) = (0))) Gd.none rfl ?_
  refine o_move (AV.sl 1 (is .i64 ([1, 1, 1, 0]))) (Gd.yes rfl rfl (decide_eq_true (by decide))) rfl ?_
  refine o_buildSlice 6 (ns .i64 ([1, 1, 1, 0])) [(0, [(nm .i64 (1))]), (1, [(nm .i64 (1))]), (2, [(nm .i64 (1))]), (3, [(nm .i64 (0))])] (Gd.yes rfl rfl (decide_eq_true (by decide))) Xd_tE22 rfl Xd_tO3 rfl rfl rfl rfl rfl rfl rfl ?_
  refine o_callG [(6, 1, (ns .i64 ([1, 1, 1, 0])))] [(AV.sl 1 (is .i64 ([1, 1, 1, 0]))), (AV.sl 1 (ns .i64 ([1, 1, 1, 0])))] _ (bp ([1, 1, 1, 0] = [1, 1, 1, 0])) [(4, (AO.var 41 [(AV.lit (.string (({data := #[57]} : ByteArray)))), (AV.lit (.string (({data := #[53]} : ByteArray)))), (AV.lit (.string (({data := #[56]} : ByteArray))))])), (2, (AO.var 24 [(AV.lit (.int .i64 ((kinM 3 1).mod))), (AV.sl 1 (is .i64 ((kinM 3 1).mul))), (AV.sl 1 (is .i64 ((kinM 3 1).add)))]))] (Gd.yes rfl rfl (decide_eq_true (by decide))) Xd_tC19 rfl (And.intro ⟨_, rfl⟩ (trivial)) rfl rfl (LeL.cons (AV.le_refl _) (LeL.cons (AV.le_refl _) (LeL.nil))) (c_gAlike [1, 1, 1, 0] [1, 1, 1, 0]) rfl ?_
  refine o_pickT (b := decide ((0) = (0))) (bp ([1, 1, 1, 0] = [1, 1, 1, 0])) Gd.none rfl (decide_eq_true (by decide)) rfl ?_
  refine o_move (bp ([1, 1, 1, 0] = [1, 1, 1, 0])) Gd.none rfl ?_
  refine o_move (nm .i64 (0)) (Gd.yes rfl rfl (decide_eq_true rfl)) rfl ?_
  refine n_eql (0) (0) (Gd.yes rfl rfl (decide_eq_true rfl)) rfl rfl ?_
  refine o_pickT (b := decide ([1, 1, 1, 0] = [1, 1, 1, 0])) (bp ((0) = (0))) Gd.none rfl (decide_eq_true rfl) rfl ?_
  refine o_move (bp ((0) = (0))) Gd.none rfl ?_
  refine o_move (AV.lit (.string (({data := #[49, 51]} : ByteArray)))) (Gd.yes rfl rfl (decide_eq_true (by decide))) rfl ?_
  refine o_eqlS (a := (({data := #[49, 51]} : ByteArray))) (c := (({data := #[49, 51]} : ByteArray))) (Gd.yes rfl rfl (decide_eq_true (by decide))) rfl rfl ?_
  refine o_pickT (b := decide ((0) = (0))) (bp ((({data := #[49, 51]} : ByteArray)).toList = (({data := #[49, 51]} : ByteArray)).toList)) Gd.none rfl (decide_eq_true (by decide)) rfl ?_
  refine o_move (bp ((({data := #[49, 51]} : ByteArray)).toList = (({data := #[49, 51]} : ByteArray)).toList)) Gd.none rfl ?_
  refine o_move (AV.lit (.bool true)) (Gd.yes rfl rfl (decide_eq_true rfl)) rfl ?_
  refine o_pickT (b := decide ((({data := #[49, 51]} : ByteArray)).toList = (({data := #[49, 51]} : ByteArray)).toList)) (AV.lit (.bool true)) Gd.none rfl (decide_eq_true rfl) rfl ?_
  refine o_move (AV.lit (.bool true)) Gd.none rfl ?_
  refine o_move (nm .i64 (0)) (Gd.yes rfl rfl rfl) rfl ?_
  refine n_eql (0) (0) (Gd.yes rfl rfl rfl) rfl rfl ?_
  refine o_pickT (b := true) (bp ((0) = (0))) Gd.none rfl rfl rfl ?_
  refine o_move (bp ((0) = (0))) Gd.none rfl ?_
  refine o_move (AV.lit (.string (({data := #[]} : ByteArray)))) (Gd.yes rfl rfl (decide_eq_true (by decide))) rfl ?_
  refine o_eqlS (a := (({data := #[]} : ByteArray))) (c := (({data := #[]} : ByteArray))) (Gd.yes rfl rfl (decide_eq_true (by decide))) rfl rfl ?_
  refine o_pickT (b := decide ((0) = (0))) (bp ((({data := #[]} : ByteArray)).toList = (({data := #[]} : ByteArray)).toList)) Gd.none rfl (decide_eq_true (by decide)) rfl ?_
  refine o_move (bp ((({data := #[]} : ByteArray)).toList = (({data := #[]} : ByteArray)).toList)) Gd.none rfl ?_
  refine o_move (AV.lit (.bool false)) (Gd.yes rfl rfl (decide_eq_true rfl)) rfl ?_
  refine o_not (b := false) (Gd.yes rfl rfl (decide_eq_true rfl)) rfl ?_
  refine o_pickT (b := decide ((({data := #[]} : ByteArray)).toList = (({data := #[]} : ByteArray)).toList)) (AV.lit (.bool true)) Gd.none rfl (decide_eq_true rfl) rfl ?_
  refine o_assign (AV.lit (.bool true)) Gd.none rfl ?_
  refine aops_end ?_
  refine hK7 _ ?_
  refine awp_ret ?_
  refine post_ret ⟨[(AV.lit (.bool true))], And.intro (AV.le_refl _) (trivial), rfl, ?_⟩
  first | rfl | simp [bp]

end Go.Proofs.YtbilndahjkimkaaDoor

set_option linter.unusedVariables false
set_option linter.unusedSimpArgs false
namespace Go.Mth
open Go.Ab
theorem fit_of_pow' {z : Int} {k : Nat} (h : z.natAbs < 10 ^ k) (hk : k ≤ 2000) (h1 : 1 ≤ k) : Fit z := fit_of_pow h hk h1
theorem ten2 (k : Nat) : (100 : Nat) ^ k = 10 ^ (2 * k) := by rw [Nat.pow_mul]
theorem mod_pow_lt {m : MapM} (hm : OkM m) (k : Nat) : (m.mod ^ k).natAbs < 10 ^ (2 * k + 1) := by
  obtain ⟨o1, o2, _⟩ := hm
  rw [Int.natAbs_pow]
  have h1 : m.mod.natAbs ^ k ≤ 100 ^ k := Nat.pow_le_pow_left (by omega) k
  have h2 : (10 : Nat) ^ (2 * k) < 10 ^ (2 * k + 1) := Nat.pow_lt_pow_right (by decide) (by omega)
  rw [ten2] at h1
  omega
theorem mod_pow_fit {m : MapM} (hm : OkM m) {k : Nat} (hk : k ≤ 200) : Fit (m.mod ^ k) := fit_of_pow' (mod_pow_lt hm k) (by omega) (by omega)
theorem rest_fit {m : MapM} (hm : OkM m) (hf : freeM m) {w : List Int} (hw : OkW m w) : 0 ≤ (restZ m w).1 ∧ (restZ m w).1 < m.mod ^ w.length ∧ Fit (restZ m w).1 := by
  obtain ⟨_, h2, h3, _⟩ := restZ_ok hm hf w hw.1
  exact ⟨h2, h3, fit_le (by omega) (mod_pow_fit hm hw.2)⟩
end Go.Mth

set_option linter.unusedVariables false
set_option linter.unusedSimpArgs false
namespace Go.Proofs.YtbilndahjkimkaaDoor
open Go Go.Ab Go.Mth
theorem Xe2_tA24 : tyAgg cx.P 24 = some 3 := by kernel_rfl
theorem Xe2_tC11 : callable cx.P 11 = true := by kernel_rfl
theorem Xe2_tE22 : tyElem cx.P 22 = some (3, 1, 8) := by kernel_rfl
theorem Xe2_tO3 : tyZero cx.P 3 = some [(Go.Value.int IntKind.i64 0)] := by kernel_rfl
theorem Xe2_tO24 : tyZero cx.P 24 = some [(Go.Value.int IntKind.i64 0), (Go.Value.slice none 0 0), (Go.Value.slice none 0 0)] := by kernel_rfl
theorem Xe2_tZ24 : tySize cx.P 24 = some 3 := by kernel_rfl
theorem Xe2_tC20 : callable cx.P 20 = true := by kernel_rfl
theorem Xe2_tO41 : tyZero cx.P 41 = some [(Go.Value.string {data := #[]}), (Go.Value.string {data := #[]}), (Go.Value.string {data := #[]})] := by kernel_rfl
theorem Xe2_tZ41 : tySize cx.P 41 = some 3 := by kernel_rfl
theorem Xe2_tC21 : callable cx.P 21 = true := by kernel_rfl
theorem Xe2_tC13 : callable cx.P 13 = true := by kernel_rfl
theorem Xe2_tC19 : callable cx.P 19 = true := by kernel_rfl
theorem Xe2_tC14 : callable cx.P 14 = true := by kernel_rfl
theorem Xe2_tA41 : tyAgg cx.P 41 = some 3 := by kernel_rfl
theorem Xe2_tP41 : tyPlaces cx.P 41 = some (fun i => (#[(0, 1), (1, 1), (2, 1)] : Array (Nat × Nat))[i]?) := by kernel_rfl
theorem Xe2_tC16 : callable cx.P 16 = true := by kernel_rfl
theorem Xe2_tC22 : callable cx.P 22 = true := by kernel_rfl
theorem Xe2_tC24 : callable cx.P 24 = true := by kernel_rfl
theorem Xe2_tC23 : callable cx.P 23 = true := by kernel_rfl
theorem Xe2_tC25 : callable cx.P 25 = true := by kernel_rfl
theorem Xe2_tC26 : callable cx.P 26 = true := by kernel_rfl
theorem Xe2_tO36 : tyZero cx.P 36 = some [(Go.Value.bool false), (Go.Value.slice none 0 0)] := by kernel_rfl
theorem Xe2_tZ36 : tySize cx.P 36 = some 2 := by kernel_rfl
theorem Xe2_tA36 : tyAgg cx.P 36 = some 2 := by kernel_rfl
theorem Xe2_tC27 : callable cx.P 27 = true := by kernel_rfl
theorem c_WordLines (m : MapM) (w : List Int) (h1m : m.mul.length ≤ 17592186044416) (h2m : m.add.length ≤ 17592186044416) (hwl : w.length ≤ 17592186044416) : ECalls cx 4 [(mapV m), (AV.sl 1 (is .i64 (w)))] (.lit (.bool true)) := by
  refine ecalls_of_awp Tryd.func4 (c := _) rfl (Nat.le_of_ble_eq_true rfl) ?_
  show awp cx 139 _ (postF cx Tryd.f4 _) ⟨[(0, (mapV m)), (1, (AV.sl 1 (is .i64 (w))))], []⟩
  refine awp_seq fun K0 hK0 => ?_
  refine awp_region rfl ?_
  refine o_box 2 [(AV.lit (.int .i64 (m.mod))), (AV.sl 1 (is .i64 (m.mul))), (AV.sl 1 (is .i64 (m.add)))] Gd.none rfl rfl ?_
  refine o_assign (AV.lit (.bool false)) Gd.none rfl ?_
  refine aops_end ?_
  refine hK0 _ ?_
  refine awp_seq fun K1 hK1 => ?_
  refine awp_region rfl ?_
  refine o_loadA [(AV.lit (.int .i64 (m.mod))), (AV.sl 1 (is .i64 (m.mul))), (AV.sl 1 (is .i64 (m.add)))] Gd.none Xe2_tA24 rfl rfl rfl rfl rfl ?_
  refine o_call [(AV.agg [(AV.lit (.int .i64 (m.mod))), (AV.sl 1 (is .i64 (m.mul))), (AV.sl 1 (is .i64 (m.add)))])] (mapV m) Gd.none Xe2_tC11 rfl (c_gTwin m (by omega) (by omega)) ?_
  refine o_buildSlice 3 (ns .i64 ([])) [] Gd.none Xe2_tE22 rfl Xe2_tO3 rfl rfl rfl rfl rfl rfl rfl ?_
  refine o_move (AV.sl 1 (is .i64 (w))) Gd.none rfl ?_
  refine o_append 4 (is .i64 (w)) (is .i64 (w)) _ [(2, (AO.var 24 [(AV.lit (.int .i64 (m.mod))), (AV.sl 1 (is .i64 (m.mul))), (AV.sl 1 (is .i64 (m.add)))]))] Gd.none Xe2_tE22 rfl Xe2_tO3 rfl rfl rfl (.inl ⟨rfl, rfl⟩) (by simp [is, ns]; omega) (by simp [is, ns]; omega) rfl rfl rfl ?_
  refine o_alloc 5 [(nm .i64 (0)), (AV.lit (.slice none 0 0)), (AV.lit (.slice none 0 0))] Gd.none Xe2_tO24 rfl rfl rfl ?_
  refine o_store [(5, (AO.var 24 [(AV.lit (.int .i64 (m.mod))), (AV.sl 1 (is .i64 (m.mul))), (AV.sl 1 (is .i64 (m.add)))])), (4, (AO.row 3 1 (is .i64 (w)))), (2, (AO.var 24 [(AV.lit (.int .i64 (m.mod))), (AV.sl 1 (is .i64 (m.mul))), (AV.sl 1 (is .i64 (m.add)))]))] Gd.none Xe2_tZ24 rfl rfl rfl rfl rfl rfl ?_
  refine o_assign (AV.row 4) Gd.none rfl ?_
  refine aops_end ?_
  refine hK1 _ ?_
  refine awp_seq fun K2 hK2 => ?_
  refine awp_region rfl ?_
  refine o_loadA [(AV.lit (.int .i64 (m.mod))), (AV.sl 1 (is .i64 (m.mul))), (AV.sl 1 (is .i64 (m.add)))] Gd.none Xe2_tA24 rfl rfl rfl rfl rfl ?_
  refine o_move (AV.sl 1 (is .i64 (w))) Gd.none rfl ?_
  refine o_call [(AV.agg [(AV.lit (.int .i64 (m.mod))), (AV.sl 1 (is .i64 (m.mul))), (AV.sl 1 (is .i64 (m.add)))]), (AV.sl 1 (is .i64 (w)))] (AV.tup [(AV.agg [(AV.lit (.string ((lineS m (w)).mul))), (AV.lit (.string ((lineS m (w)).add))), (AV.lit (.string ((lineS m (w)).div)))]), (nm .i64 (lineE m (w)))]) Gd.none Xe2_tC20 rfl (c_oLine m (w) (by omega)) ?_
  refine o_move (AV.tup [(AV.agg [(AV.lit (.string ((lineS m (w)).mul))), (AV.lit (.string ((lineS m (w)).add))), (AV.lit (.string ((lineS m (w)).div)))]), (nm .i64 (lineE m (w)))]) Gd.none rfl ?_
  refine o_extract (AV.agg [(AV.lit (.string ((lineS m (w)).mul))), (AV.lit (.string ((lineS m (w)).add))), (AV.lit (.string ((lineS m (w)).div)))]) Gd.none rfl rfl ?_
  refine o_extract (nm .i64 (lineE m (w))) Gd.none rfl rfl ?_
  refine o_alloc 6 [(AV.lit (.string (({data := #[]} : ByteArray)))), (AV.lit (.string (({data := #[]} : ByteArray)))), (AV.lit (.string (({data := #[]} : ByteArray))))] Gd.none Xe2_tO41 rfl rfl rfl ?_
  refine o_store [(6, (AO.var 41 [(AV.lit (.string ((lineS m (w)).mul))), (AV.lit (.string ((lineS m (w)).add))), (AV.lit (.string ((lineS m (w)).div)))])), (5, (AO.var 24 [(AV.lit (.int .i64 (m.mod))), (AV.sl 1 (is .i64 (m.mul))), (AV.sl 1 (is .i64 (m.add)))])), (4, (AO.row 3 1 (is .i64 (w)))), (2, (AO.var 24 [(AV.lit (.int .i64 (m.mod))), (AV.sl 1 (is .i64 (m.mul))), (AV.sl 1 (is .i64 (m.add)))]))] Gd.none Xe2_tZ41 rfl rfl rfl rfl rfl rfl ?_
  refine o_assign (nm .i64 (lineE m (w))) Gd.none rfl ?_
  refine aops_end ?_
  refine hK2 _ ?_
  refine awp_seq fun K3 hK3 => ?_
  refine awp_region rfl ?_
  refine o_loadA [(AV.lit (.int .i64 (m.mod))), (AV.sl 1 (is .i64 (m.mul))), (AV.sl 1 (is .i64 (m.add)))] Gd.none Xe2_tA24 rfl rfl rfl rfl rfl ?_
  refine o_move (AV.sl 1 (is .i64 (w))) Gd.none rfl ?_
  refine o_call [(AV.agg [(AV.lit (.int .i64 (m.mod))), (AV.sl 1 (is .i64 (m.mul))), (AV.sl 1 (is .i64 (m.add)))]), (AV.sl 1 (is .i64 (w)))] (AV.tup [(AV.lit (.string (restS m (w)))), (AV.lit (.string (restD m (w)))), (nm .i64 (restE m (w)))]) Gd.none Xe2_tC21 rfl (c_oRest m (w) (by omega)) ?_
  refine o_move (AV.tup [(AV.lit (.string (restS m (w)))), (AV.lit (.string (restD m (w)))), (nm .i64 (restE m (w)))]) Gd.none rfl ?_
  refine o_extract (AV.lit (.string (restS m (w)))) Gd.none rfl rfl ?_
  refine o_extract (AV.lit (.string (restD m (w)))) Gd.none rfl rfl ?_
  refine o_extract (nm .i64 (restE m (w))) Gd.none rfl rfl ?_
  refine o_assign (AV.lit (.string (restS m (w)))) Gd.none rfl ?_
  refine o_assign (AV.lit (.string (restD m (w)))) Gd.none rfl ?_
  refine o_assign (nm .i64 (restE m (w))) Gd.none rfl ?_
  refine aops_end ?_
  refine hK3 _ ?_
  refine awp_seq fun K4 hK4 => ?_
  refine awp_block ?_
  refine awp_seq fun K5 hK5 => ?_
  refine awp_region rfl ?_
  refine o_loadA [(AV.lit (.int .i64 (m.mod))), (AV.sl 1 (is .i64 (m.mul))), (AV.sl 1 (is .i64 (m.add)))] Gd.none Xe2_tA24 rfl rfl rfl rfl rfl ?_
  refine o_loadA [(AV.lit (.int .i64 (m.mod))), (AV.sl 1 (is .i64 (m.mul))), (AV.sl 1 (is .i64 (m.add)))] Gd.none Xe2_tA24 rfl rfl rfl rfl rfl ?_
  refine o_call [(AV.agg [(AV.lit (.int .i64 (m.mod))), (AV.sl 1 (is .i64 (m.mul))), (AV.sl 1 (is .i64 (m.add)))]), (AV.agg [(AV.lit (.int .i64 (m.mod))), (AV.sl 1 (is .i64 (m.mul))), (AV.sl 1 (is .i64 (m.add)))])] (bp (m = m)) Gd.none Xe2_tC13 rfl (c_gSame m m) ?_
  refine o_notP (q := m = m) Gd.none rfl ?_
  refine o_move (bp (¬ (m = m))) Gd.none rfl ?_
  refine o_move (AV.sl 1 (is .i64 (w))) (Gd.yes rfl rfl (decide_eq_false (fun h => h rfl))) rfl ?_
  refine o_move (AV.row 4) (Gd.yes rfl rfl (decide_eq_false (fun h => h rfl))) rfl ?_
  refine o_callG [(4, 1, (is .i64 (w)))] [(AV.sl 1 (is .i64 (w))), (AV.sl 1 (is .i64 (w)))] _ (bp (w = w)) [(6, (AO.var 41 [(AV.lit (.string ((lineS m (w)).mul))), (AV.lit (.string ((lineS m (w)).add))), (AV.lit (.string ((lineS m (w)).div)))])), (5, (AO.var 24 [(AV.lit (.int .i64 (m.mod))), (AV.sl 1 (is .i64 (m.mul))), (AV.sl 1 (is .i64 (m.add)))])), (2, (AO.var 24 [(AV.lit (.int .i64 (m.mod))), (AV.sl 1 (is .i64 (m.mul))), (AV.sl 1 (is .i64 (m.add)))]))] (Gd.yes rfl rfl (decide_eq_false (fun h => h rfl))) Xe2_tC19 rfl (And.intro ⟨_, rfl⟩ (trivial)) rfl rfl (LeL.cons (AV.le_refl _) (LeL.cons (AV.le_refl _) (LeL.nil))) (c_gAlike (w) (w)) rfl ?_
  refine o_notP (q := w = w) (Gd.yes rfl rfl (decide_eq_false (fun h => h rfl))) rfl ?_
  refine o_pickF (b := decide (¬ (m = m))) (bp (¬ (w = w))) Gd.none rfl (decide_eq_false (fun h => h rfl)) rfl ?_
  refine o_assign (bp (¬ (w = w))) Gd.none rfl ?_
  refine aops_end ?_
  refine hK5 _ ?_
  refine awp_condB (b := decide (¬ (w = w))) rfl (fun hh => absurd (hh.symm.trans (decide_eq_false (fun h => h rfl))) (by decide)) (fun _ => ?_)
  refine awp_seq fun K6 hK6 => ?_
  refine awp_region rfl ?_
  refine o_loadA [(AV.lit (.int .i64 (m.mod))), (AV.sl 1 (is .i64 (m.mul))), (AV.sl 1 (is .i64 (m.add)))] Gd.none Xe2_tA24 rfl rfl rfl rfl rfl ?_
  refine o_call [(AV.agg [(AV.lit (.int .i64 (m.mod))), (AV.sl 1 (is .i64 (m.mul))), (AV.sl 1 (is .i64 (m.add)))])] (AV.lit (.bool (okM m))) Gd.none Xe2_tC14 rfl (c_gValid m) ?_
  refine o_not (b := okM m) Gd.none rfl ?_
  refine o_assign (AV.lit (.bool (!(okM m)))) Gd.none rfl ?_
  refine aops_end ?_
  refine hK6 _ ?_
  refine awp_condB (b := !(okM m)) rfl (fun h1 => ?_) (fun h1 => ?_)
  · have hm' : ¬ okM m = true := by simpa using h1
    have e := line_1 (w := w) hm'
    have f := rest_1 (w := w) hm'
    refine awp_seq fun K7 hK7 => ?_
    refine awp_region rfl ?_
    refine o_loadA [(AV.lit (.string ((lineS m (w)).mul))), (AV.lit (.string ((lineS m (w)).add))), (AV.lit (.string ((lineS m (w)).div)))] Gd.none Xe2_tA41 rfl rfl rfl rfl rfl ?_
    refine n_as (v' := (AV.agg [(AV.lit (.string (({data := #[]} : ByteArray)))), (AV.lit (.string (({data := #[]} : ByteArray)))), (AV.lit (.string (({data := #[]} : ByteArray))))])) (by rw [e.2]; rfl) ?_
    refine o_build [(AV.lit (.string (({data := #[]} : ByteArray)))), (AV.lit (.string (({data := #[]} : ByteArray)))), (AV.lit (.string (({data := #[]} : ByteArray))))] [] Gd.none Xe2_tP41 Xe2_tO41 rfl rfl rfl ?_
    refine o_eqlA [.string (({data := #[]} : ByteArray)), .string (({data := #[]} : ByteArray)), .string (({data := #[]} : ByteArray))] [.string (({data := #[]} : ByteArray)), .string (({data := #[]} : ByteArray)), .string (({data := #[]} : ByteArray))] ((({data := #[]} : ByteArray)) = (({data := #[]} : ByteArray)) ∧ (({data := #[]} : ByteArray)) = (({data := #[]} : ByteArray)) ∧ (({data := #[]} : ByteArray)) = (({data := #[]} : ByteArray))) Gd.none rfl rfl (eq_api_Line _ _ _ _ _ _) ?_
    refine o_move (bp ((({data := #[]} : ByteArray)) = (({data := #[]} : ByteArray)) ∧ (({data := #[]} : ByteArray)) = (({data := #[]} : ByteArray)) ∧ (({data := #[]} : ByteArray)) = (({data := #[]} : ByteArray)))) Gd.none rfl ?_
    refine o_move (AV.lit (.string (restS m (w)))) (Gd.yes rfl rfl (decide_eq_true ⟨rfl, rfl, rfl⟩)) rfl ?_
    refine n_as (v' := (AV.lit (.string (({data := #[]} : ByteArray))))) (by rw [f.2.1]; rfl) ?_
    refine o_move (AV.lit (.string (restD m (w)))) (Gd.yes rfl rfl (decide_eq_true ⟨rfl, rfl, rfl⟩)) rfl ?_
    refine n_as (v' := (AV.lit (.string (({data := #[]} : ByteArray))))) (by rw [f.2.2]; rfl) ?_
    refine o_addS (a := (({data := #[]} : ByteArray))) (c := (({data := #[]} : ByteArray))) (Gd.yes rfl rfl (decide_eq_true ⟨rfl, rfl, rfl⟩)) rfl rfl (by decide) ?_
    refine n_as (v' := (AV.lit (.string (({data := #[]} : ByteArray))))) (by exact str_as E0_app) ?_
    refine o_eqlS (a := (({data := #[]} : ByteArray))) (c := (({data := #[]} : ByteArray))) (Gd.yes rfl rfl (decide_eq_true ⟨rfl, rfl, rfl⟩)) rfl rfl ?_
    refine o_pickT (b := decide ((({data := #[]} : ByteArray)) = (({data := #[]} : ByteArray)) ∧ (({data := #[]} : ByteArray)) = (({data := #[]} : ByteArray)) ∧ (({data := #[]} : ByteArray)) = (({data := #[]} : ByteArray)))) (bp ((({data := #[]} : ByteArray)).toList = (({data := #[]} : ByteArray)).toList)) Gd.none rfl (decide_eq_true ⟨rfl, rfl, rfl⟩) rfl ?_
    refine o_move (bp ((({data := #[]} : ByteArray)).toList = (({data := #[]} : ByteArray)).toList)) Gd.none rfl ?_
    refine o_move (nm .i64 (lineE m (w))) (Gd.yes rfl rfl (decide_eq_true rfl)) rfl ?_
    refine n_as (v' := (nm .i64 (1))) (by rw [e.1]) ?_
    refine n_eql (1) (1) (Gd.yes rfl rfl (decide_eq_true rfl)) rfl rfl ?_
    refine o_pickT (b := decide ((({data := #[]} : ByteArray)).toList = (({data := #[]} : ByteArray)).toList)) (bp ((1) = (1))) Gd.none rfl (decide_eq_true rfl) rfl ?_
    refine o_move (bp ((1) = (1))) Gd.none rfl ?_
    refine o_move (nm .i64 (restE m (w))) (Gd.yes rfl rfl (decide_eq_true (by decide))) rfl ?_
    refine n_as (v' := (nm .i64 (1))) (by rw [f.1]) ?_
    refine n_eql (1) (1) (Gd.yes rfl rfl (decide_eq_true (by decide))) rfl rfl ?_
    refine o_pickT (b := decide ((1) = (1))) (bp ((1) = (1))) Gd.none rfl (decide_eq_true (by decide)) rfl ?_
    refine o_move (bp ((1) = (1))) Gd.none rfl ?_
    refine o_call [] (AV.lit (.bool true)) (Gd.yes rfl rfl (decide_eq_true (by decide))) Xe2_tC16 rfl c_l3Awake ?_
    refine o_pickT (b := decide ((1) = (1))) (AV.lit (.bool true)) Gd.none rfl (decide_eq_true (by decide)) rfl ?_
    refine o_assign (AV.lit (.bool true)) Gd.none rfl ?_
    refine aops_end ?_
    refine hK7 _ ?_
    refine awp_ret ?_
    refine post_ret ⟨[(AV.lit (.bool true))], And.intro (AV.le_refl _) (trivial), rfl, ?_⟩
    first | rfl | simp [bp]
  · have hm' : okM m = true := by simpa using h1
    have hM := okM_iff.1 hm'
    refine awp_seq fun K8 hK8 => ?_
    refine awp_region rfl ?_
    refine o_loadA [(AV.lit (.int .i64 (m.mod))), (AV.sl 1 (is .i64 (m.mul))), (AV.sl 1 (is .i64 (m.add)))] Gd.none Xe2_tA24 rfl rfl rfl rfl rfl ?_
    refine o_move (AV.sl 1 (is .i64 (w))) Gd.none rfl ?_
    refine o_call [(AV.agg [(AV.lit (.int .i64 (m.mod))), (AV.sl 1 (is .i64 (m.mul))), (AV.sl 1 (is .i64 (m.add)))]), (AV.sl 1 (is .i64 (w)))] (bp (OkW m (w))) Gd.none Xe2_tC22 rfl (c_vIs m (w) (by omega)) ?_
    refine o_notP (q := OkW m (w)) Gd.none rfl ?_
    refine o_assign (bp (¬ (OkW m (w)))) Gd.none rfl ?_
    refine aops_end ?_
    refine hK8 _ ?_
    refine awp_condQ (q := ¬ (OkW m (w))) rfl (fun h2 => ?_) (fun h2 => ?_)
    · have e := line_2 hm' h2
      have f := rest_2 (m := m) (w := w) hm' (fun x => h2 x.1)
      refine awp_seq fun K9 hK9 => ?_
      refine awp_region rfl ?_
      refine o_loadA [(AV.lit (.string ((lineS m (w)).mul))), (AV.lit (.string ((lineS m (w)).add))), (AV.lit (.string ((lineS m (w)).div)))] Gd.none Xe2_tA41 rfl rfl rfl rfl rfl ?_
      refine n_as (v' := (AV.agg [(AV.lit (.string (({data := #[]} : ByteArray)))), (AV.lit (.string (({data := #[]} : ByteArray)))), (AV.lit (.string (({data := #[]} : ByteArray))))])) (by rw [e.2]; rfl) ?_
      refine o_build [(AV.lit (.string (({data := #[]} : ByteArray)))), (AV.lit (.string (({data := #[]} : ByteArray)))), (AV.lit (.string (({data := #[]} : ByteArray))))] [] Gd.none Xe2_tP41 Xe2_tO41 rfl rfl rfl ?_
      refine o_eqlA [.string (({data := #[]} : ByteArray)), .string (({data := #[]} : ByteArray)), .string (({data := #[]} : ByteArray))] [.string (({data := #[]} : ByteArray)), .string (({data := #[]} : ByteArray)), .string (({data := #[]} : ByteArray))] ((({data := #[]} : ByteArray)) = (({data := #[]} : ByteArray)) ∧ (({data := #[]} : ByteArray)) = (({data := #[]} : ByteArray)) ∧ (({data := #[]} : ByteArray)) = (({data := #[]} : ByteArray))) Gd.none rfl rfl (eq_api_Line _ _ _ _ _ _) ?_
      refine o_move (bp ((({data := #[]} : ByteArray)) = (({data := #[]} : ByteArray)) ∧ (({data := #[]} : ByteArray)) = (({data := #[]} : ByteArray)) ∧ (({data := #[]} : ByteArray)) = (({data := #[]} : ByteArray)))) Gd.none rfl ?_
      refine o_move (AV.lit (.string (restS m (w)))) (Gd.yes rfl rfl (decide_eq_true ⟨rfl, rfl, rfl⟩)) rfl ?_
      refine n_as (v' := (AV.lit (.string (({data := #[]} : ByteArray))))) (by rw [f.2.1]; rfl) ?_
      refine o_move (AV.lit (.string (restD m (w)))) (Gd.yes rfl rfl (decide_eq_true ⟨rfl, rfl, rfl⟩)) rfl ?_
      refine n_as (v' := (AV.lit (.string (({data := #[]} : ByteArray))))) (by rw [f.2.2]; rfl) ?_
      refine o_addS (a := (({data := #[]} : ByteArray))) (c := (({data := #[]} : ByteArray))) (Gd.yes rfl rfl (decide_eq_true ⟨rfl, rfl, rfl⟩)) rfl rfl (by decide) ?_
      refine n_as (v' := (AV.lit (.string (({data := #[]} : ByteArray))))) (by exact str_as E0_app) ?_
      refine o_eqlS (a := (({data := #[]} : ByteArray))) (c := (({data := #[]} : ByteArray))) (Gd.yes rfl rfl (decide_eq_true ⟨rfl, rfl, rfl⟩)) rfl rfl ?_
      refine o_pickT (b := decide ((({data := #[]} : ByteArray)) = (({data := #[]} : ByteArray)) ∧ (({data := #[]} : ByteArray)) = (({data := #[]} : ByteArray)) ∧ (({data := #[]} : ByteArray)) = (({data := #[]} : ByteArray)))) (bp ((({data := #[]} : ByteArray)).toList = (({data := #[]} : ByteArray)).toList)) Gd.none rfl (decide_eq_true ⟨rfl, rfl, rfl⟩) rfl ?_
      refine o_move (bp ((({data := #[]} : ByteArray)).toList = (({data := #[]} : ByteArray)).toList)) Gd.none rfl ?_
      refine o_move (nm .i64 (lineE m (w))) (Gd.yes rfl rfl (decide_eq_true rfl)) rfl ?_
      refine n_as (v' := (nm .i64 (2))) (by rw [e.1]) ?_
      refine n_eql (2) (2) (Gd.yes rfl rfl (decide_eq_true rfl)) rfl rfl ?_
      refine o_pickT (b := decide ((({data := #[]} : ByteArray)).toList = (({data := #[]} : ByteArray)).toList)) (bp ((2) = (2))) Gd.none rfl (decide_eq_true rfl) rfl ?_
      refine o_move (bp ((2) = (2))) Gd.none rfl ?_
      refine o_move (nm .i64 (restE m (w))) (Gd.yes rfl rfl (decide_eq_true (by decide))) rfl ?_
      refine n_as (v' := (nm .i64 (2))) (by rw [f.1]) ?_
      refine n_eql (2) (2) (Gd.yes rfl rfl (decide_eq_true (by decide))) rfl rfl ?_
      refine o_pickT (b := decide ((2) = (2))) (bp ((2) = (2))) Gd.none rfl (decide_eq_true (by decide)) rfl ?_
      refine o_move (bp ((2) = (2))) Gd.none rfl ?_
      refine o_call [] (AV.lit (.bool true)) (Gd.yes rfl rfl (decide_eq_true (by decide))) Xe2_tC16 rfl c_l3Awake ?_
      refine o_pickT (b := decide ((2) = (2))) (AV.lit (.bool true)) Gd.none rfl (decide_eq_true (by decide)) rfl ?_
      refine o_assign (AV.lit (.bool true)) Gd.none rfl ?_
      refine aops_end ?_
      refine hK9 _ ?_
      refine awp_ret ?_
      refine post_ret ⟨[(AV.lit (.bool true))], And.intro (AV.le_refl _) (trivial), rfl, ?_⟩
      first | rfl | simp [bp]
    · have hW : OkW m w := Decidable.not_not.1 h2
      have e := line_0 hm' hW
      obtain ⟨L1, L2, L3⟩ := line_len hM w hW.1
      have hWl := hW.2
      refine awp_skip ?_
      refine hK4 _ ?_
      refine awp_seq fun K10 hK10 => ?_
      refine awp_seq fun K11 hK11 => ?_
      refine awp_regionD rfl ?_
      refine o_move (nm .i64 (lineE m (w))) Gd.none rfl ?_
      refine n_as (v' := (nm .i64 (0))) (by rw [e.1]) ?_
      refine n_neq (0) (0) Gd.none rfl rfl ?_
      refine o_move (bp ((0) ≠ (0))) Gd.none rfl ?_
      refine o_loadA [(AV.lit (.string ((lineS m (w)).mul))), (AV.lit (.string ((lineS m (w)).add))), (AV.lit (.string ((lineS m (w)).div)))] (Gd.yes rfl rfl (decide_eq_false (by decide))) Xe2_tA41 rfl rfl rfl rfl rfl ?_
      refine n_as (v' := (AV.agg [(AV.lit (.string ((lineT (lineZ m (w))).mul))), (AV.lit (.string ((lineT (lineZ m (w))).add))), (AV.lit (.string ((lineT (lineZ m (w))).div)))])) (by rw [e.2]) ?_
      refine o_loadA [(AV.lit (.int .i64 (m.mod))), (AV.sl 1 (is .i64 (m.mul))), (AV.sl 1 (is .i64 (m.add)))] (Gd.yes rfl rfl (decide_eq_false (by decide))) Xe2_tA24 rfl rfl rfl rfl rfl ?_
      refine o_move (AV.sl 1 (is .i64 (w))) (Gd.yes rfl rfl (decide_eq_false (by decide))) rfl ?_
      refine o_call [(AV.agg [(AV.lit (.int .i64 (m.mod))), (AV.sl 1 (is .i64 (m.mul))), (AV.sl 1 (is .i64 (m.add)))]), (AV.sl 1 (is .i64 (w)))] (linR (lineZ m (w))) (Gd.yes rfl rfl (decide_eq_false (by decide))) Xe2_tC24 rfl (c_vOf m (w) (by first | assumption | exact okM_iff.1 (by assumption)) (by first | assumption | exact (by assumption : OkW _ _).1 | exact isW_take (by assumption : OkW _ _).1 _) (by first | omega | exact (by assumption : OkW _ _).2)) ?_
      refine o_call [(linR (lineZ m (w)))] (AV.agg [(AV.lit (.string ((lineT (lineZ m (w))).mul))), (AV.lit (.string ((lineT (lineZ m (w))).add))), (AV.lit (.string ((lineT (lineZ m (w))).div)))]) (Gd.yes rfl rfl (decide_eq_false (by decide))) Xe2_tC23 rfl (c_vText (lineZ m (w)) (by omega) (by omega) (by omega)) ?_
      refine o_neqA [.string ((lineT (lineZ m (w))).mul), .string ((lineT (lineZ m (w))).add), .string ((lineT (lineZ m (w))).div)] [.string ((lineT (lineZ m (w))).mul), .string ((lineT (lineZ m (w))).add), .string ((lineT (lineZ m (w))).div)] (((lineT (lineZ m (w))).mul) = ((lineT (lineZ m (w))).mul) ∧ ((lineT (lineZ m (w))).add) = ((lineT (lineZ m (w))).add) ∧ ((lineT (lineZ m (w))).div) = ((lineT (lineZ m (w))).div)) (Gd.yes rfl rfl (decide_eq_false (by decide))) rfl rfl (eq_api_Line _ _ _ _ _ _) ?_
      refine o_pickF (b := decide ((0) ≠ (0))) (bp (¬ (((lineT (lineZ m (w))).mul) = ((lineT (lineZ m (w))).mul) ∧ ((lineT (lineZ m (w))).add) = ((lineT (lineZ m (w))).add) ∧ ((lineT (lineZ m (w))).div) = ((lineT (lineZ m (w))).div)))) Gd.none rfl (decide_eq_false (by decide)) rfl ?_
      refine aops_end ⟨by kernel_rfl, ?_⟩
      refine hK11 _ ?_
      refine awp_condB (b := decide (¬ (((lineT (lineZ m (w))).mul) = ((lineT (lineZ m (w))).mul) ∧ ((lineT (lineZ m (w))).add) = ((lineT (lineZ m (w))).add) ∧ ((lineT (lineZ m (w))).div) = ((lineT (lineZ m (w))).div)))) rfl (fun hh => absurd (hh.symm.trans (decide_eq_false (fun h => h ⟨rfl, rfl, rfl⟩))) (by decide)) (fun _ => ?_)
      refine awp_skip ?_
      refine hK10 _ ?_
      refine awp_seq fun K12 hK12 => ?_
      refine awp_seq fun K13 hK13 => ?_
      refine awp_region rfl ?_
      refine o_loadA [(AV.lit (.int .i64 (m.mod))), (AV.sl 1 (is .i64 (m.mul))), (AV.sl 1 (is .i64 (m.add)))] Gd.none Xe2_tA24 rfl rfl rfl rfl rfl ?_
      refine o_call [(AV.agg [(AV.lit (.int .i64 (m.mod))), (AV.sl 1 (is .i64 (m.mul))), (AV.sl 1 (is .i64 (m.add)))])] (bp (freeM m)) Gd.none Xe2_tC25 rfl (c_gRegular m (by first | assumption | exact okM_iff.1 (by assumption))) ?_
      refine o_notP (q := freeM m) Gd.none rfl ?_
      refine aops_end ?_
      refine hK13 _ ?_
      refine awp_condQ (q := ¬ (freeM m)) rfl (fun h3 => ?_) (fun h3 => ?_)
      · have f := rest_2 (m := m) (w := w) hm' (fun x => h3 x.2)
        refine awp_seq fun K14 hK14 => ?_
        refine awp_region rfl ?_
        refine o_move (AV.lit (.string (restS m (w)))) Gd.none rfl ?_
        refine n_as (v' := (AV.lit (.string (({data := #[]} : ByteArray))))) (by rw [f.2.1]; rfl) ?_
        refine o_move (AV.lit (.string (restD m (w)))) Gd.none rfl ?_
        refine n_as (v' := (AV.lit (.string (({data := #[]} : ByteArray))))) (by rw [f.2.2]; rfl) ?_
        refine o_addS (a := (({data := #[]} : ByteArray))) (c := (({data := #[]} : ByteArray))) Gd.none rfl rfl (by decide) ?_
        refine n_as (v' := (AV.lit (.string (({data := #[]} : ByteArray))))) (by exact str_as E0_app) ?_
        refine o_eqlS (a := (({data := #[]} : ByteArray))) (c := (({data := #[]} : ByteArray))) Gd.none rfl rfl ?_
        refine o_move (bp ((({data := #[]} : ByteArray)).toList = (({data := #[]} : ByteArray)).toList)) Gd.none rfl ?_
        refine o_move (nm .i64 (restE m (w))) (Gd.yes rfl rfl (decide_eq_true rfl)) rfl ?_
        refine n_as (v' := (nm .i64 (2))) (by rw [f.1]) ?_
        refine n_eql (2) (2) (Gd.yes rfl rfl (decide_eq_true rfl)) rfl rfl ?_
        refine o_pickT (b := decide ((({data := #[]} : ByteArray)).toList = (({data := #[]} : ByteArray)).toList)) (bp ((2) = (2))) Gd.none rfl (decide_eq_true rfl) rfl ?_
        refine o_move (bp ((2) = (2))) Gd.none rfl ?_
        refine o_call [] (AV.lit (.bool true)) (Gd.yes rfl rfl (decide_eq_true (by decide))) Xe2_tC16 rfl c_l3Awake ?_
        refine o_pickT (b := decide ((2) = (2))) (AV.lit (.bool true)) Gd.none rfl (decide_eq_true (by decide)) rfl ?_
        refine o_assign (AV.lit (.bool true)) Gd.none rfl ?_
        refine aops_end ?_
        refine hK14 _ ?_
        refine awp_ret ?_
        refine post_ret ⟨[(AV.lit (.bool true))], And.intro (AV.le_refl _) (trivial), rfl, ?_⟩
        first | rfl | simp [bp]
      · have hF : freeM m := Decidable.not_not.1 h3
        have f := rest_0 hm' ⟨hW, hF⟩
        obtain ⟨r1, r2, r3⟩ := rest_fit hM hF hW
        have r4 := fit_len r3
        have r5 := fit_len (mod_pow_fit hM hWl)
        refine awp_skip ?_
        refine hK12 _ ?_
        refine awp_seq fun K15 hK15 => ?_
        refine awp_region rfl ?_
        refine o_loadA [(AV.lit (.int .i64 (m.mod))), (AV.sl 1 (is .i64 (m.mul))), (AV.sl 1 (is .i64 (m.add)))] Gd.none Xe2_tA24 rfl rfl rfl rfl rfl ?_
        refine o_move (AV.sl 1 (is .i64 (w))) Gd.none rfl ?_
        refine o_call [(AV.agg [(AV.lit (.int .i64 (m.mod))), (AV.sl 1 (is .i64 (m.mul))), (AV.sl 1 (is .i64 (m.add)))]), (AV.sl 1 (is .i64 (w)))] (AV.tup [(intR (((restZ m (w)).1))), (intR ((m.mod ^ (w).length)))]) Gd.none Xe2_tC26 rfl (c_vRest m (w) (by first | assumption | exact okM_iff.1 (by assumption)) hF hW.1 hW.2) ?_
        refine o_move (AV.tup [(intR (((restZ m (w)).1))), (intR ((m.mod ^ (w).length)))]) Gd.none rfl ?_
        refine o_extract (intR (((restZ m (w)).1))) Gd.none rfl rfl ?_
        refine o_extract (intR ((m.mod ^ (w).length))) Gd.none rfl rfl ?_
        refine o_alloc 7 [(AV.lit (.bool false)), (AV.lit (.slice none 0 0))] Gd.none Xe2_tO36 rfl rfl rfl ?_
        refine o_alloc 8 [(AV.lit (.bool false)), (AV.lit (.slice none 0 0))] Gd.none Xe2_tO36 rfl rfl rfl ?_
        refine o_store [(8, (AO.var 36 [(AV.lit (.bool false)), (AV.lit (.slice none 0 0))])), (7, (AO.var 36 [(bp (((restZ m (w)).1) < 0)), (AV.sl 1 (ns .i64 (digs (((restZ m (w)).1)).natAbs)))])), (6, (AO.var 41 [(AV.lit (.string ((lineS m (w)).mul))), (AV.lit (.string ((lineS m (w)).add))), (AV.lit (.string ((lineS m (w)).div)))])), (5, (AO.var 24 [(AV.lit (.int .i64 (m.mod))), (AV.sl 1 (is .i64 (m.mul))), (AV.sl 1 (is .i64 (m.add)))])), (2, (AO.var 24 [(AV.lit (.int .i64 (m.mod))), (AV.sl 1 (is .i64 (m.mul))), (AV.sl 1 (is .i64 (m.add)))]))] Gd.none Xe2_tZ36 rfl rfl rfl rfl rfl rfl ?_
        refine o_store [(8, (AO.var 36 [(bp ((m.mod ^ (w).length) < 0)), (AV.sl 1 (ns .i64 (digs ((m.mod ^ (w).length)).natAbs)))])), (7, (AO.var 36 [(bp (((restZ m (w)).1) < 0)), (AV.sl 1 (ns .i64 (digs (((restZ m (w)).1)).natAbs)))])), (6, (AO.var 41 [(AV.lit (.string ((lineS m (w)).mul))), (AV.lit (.string ((lineS m (w)).add))), (AV.lit (.string ((lineS m (w)).div)))])), (5, (AO.var 24 [(AV.lit (.int .i64 (m.mod))), (AV.sl 1 (is .i64 (m.mul))), (AV.sl 1 (is .i64 (m.add)))])), (2, (AO.var 24 [(AV.lit (.int .i64 (m.mod))), (AV.sl 1 (is .i64 (m.mul))), (AV.sl 1 (is .i64 (m.add)))]))] Gd.none Xe2_tZ36 rfl rfl rfl rfl rfl rfl ?_
        refine aops_end ?_
        refine hK15 _ ?_
        refine awp_seq fun K16 hK16 => ?_
        refine awp_region rfl ?_
        refine o_move (nm .i64 (restE m (w))) Gd.none rfl ?_
        refine n_as (v' := (nm .i64 (0))) (by rw [f.1]) ?_
        refine n_eql (0) (0) Gd.none rfl rfl ?_
        refine o_move (bp ((0) = (0))) Gd.none rfl ?_
        refine o_move (AV.lit (.string (restS m (w)))) (Gd.yes rfl rfl (decide_eq_true (by decide))) rfl ?_
        refine n_as (v' := (AV.lit (.string (txt (((restZ m (w)).1)))))) (by rw [f.2.1]) ?_
        refine o_loadA [(bp (((restZ m (w)).1) < 0)), (AV.sl 1 (ns .i64 (digs (((restZ m (w)).1)).natAbs)))] (Gd.yes rfl rfl (decide_eq_true (by decide))) Xe2_tA36 rfl rfl rfl rfl rfl ?_
        refine o_call [(AV.agg [(bp (((restZ m (w)).1) < 0)), (AV.sl 1 (ns .i64 (digs (((restZ m (w)).1)).natAbs)))])] (AV.lit (.string (txt (((restZ m (w)).1))))) (Gd.yes rfl rfl (decide_eq_true (by decide))) Xe2_tC27 rfl (c_rText (((restZ m (w)).1)) (by first | assumption | omega | (simp only [Int.natAbs_neg]; omega))) ?_
        refine o_eqlS (a := (txt (((restZ m (w)).1)))) (c := (txt (((restZ m (w)).1)))) (Gd.yes rfl rfl (decide_eq_true (by decide))) rfl rfl ?_
        refine o_pickT (b := decide ((0) = (0))) (bp ((txt (((restZ m (w)).1))).toList = (txt (((restZ m (w)).1))).toList)) Gd.none rfl (decide_eq_true (by decide)) rfl ?_
        refine o_move (bp ((txt (((restZ m (w)).1))).toList = (txt (((restZ m (w)).1))).toList)) Gd.none rfl ?_
        refine o_move (AV.lit (.string (restD m (w)))) (Gd.yes rfl rfl (decide_eq_true rfl)) rfl ?_
        refine n_as (v' := (AV.lit (.string (txt ((m.mod ^ (w).length)))))) (by rw [f.2.2]) ?_
        refine o_loadA [(bp ((m.mod ^ (w).length) < 0)), (AV.sl 1 (ns .i64 (digs ((m.mod ^ (w).length)).natAbs)))] (Gd.yes rfl rfl (decide_eq_true rfl)) Xe2_tA36 rfl rfl rfl rfl rfl ?_
        refine o_call [(AV.agg [(bp ((m.mod ^ (w).length) < 0)), (AV.sl 1 (ns .i64 (digs ((m.mod ^ (w).length)).natAbs)))])] (AV.lit (.string (txt ((m.mod ^ (w).length))))) (Gd.yes rfl rfl (decide_eq_true rfl)) Xe2_tC27 rfl (c_rText ((m.mod ^ (w).length)) (by first | assumption | omega | (simp only [Int.natAbs_neg]; omega))) ?_
        refine o_eqlS (a := (txt ((m.mod ^ (w).length)))) (c := (txt ((m.mod ^ (w).length)))) (Gd.yes rfl rfl (decide_eq_true rfl)) rfl rfl ?_
        refine o_pickT (b := decide ((txt (((restZ m (w)).1))).toList = (txt (((restZ m (w)).1))).toList)) (bp ((txt ((m.mod ^ (w).length))).toList = (txt ((m.mod ^ (w).length))).toList)) Gd.none rfl (decide_eq_true rfl) rfl ?_
        refine o_move (bp ((txt ((m.mod ^ (w).length))).toList = (txt ((m.mod ^ (w).length))).toList)) Gd.none rfl ?_
        refine o_call [] (AV.lit (.bool true)) (Gd.yes rfl rfl (decide_eq_true rfl)) Xe2_tC16 rfl c_l3Awake ?_
        refine o_pickT (b := decide ((txt ((m.mod ^ (w).length))).toList = (txt ((m.mod ^ (w).length))).toList)) (AV.lit (.bool true)) Gd.none rfl (decide_eq_true rfl) rfl ?_
        refine o_assign (AV.lit (.bool true)) Gd.none rfl ?_
        refine aops_end ?_
        refine hK16 _ ?_
        refine awp_ret ?_
        refine post_ret ⟨[(AV.lit (.bool true))], And.intro (AV.le_refl _) (trivial), rfl, ?_⟩
        first | rfl | simp [bp]

end Go.Proofs.YtbilndahjkimkaaDoor

set_option linter.unusedVariables false
namespace Go.Proofs.YtbilndahjkimkaaDoor.wordLines
open Go Go.Ab Go.Mth Go.ChangeShapes Go.WideShapes Go.ChangeAt Go.RowKit
theorem reads (os : Os) {H : Type} (enc : TypeId × Value → H) : ∃ places, DataW.whole enc Tryd.prog ((World.laidAll Tryd.prog os laid5).forCall (fun _ _ => 0) ⟨#[], #[.agg #[.int .i64 0, .slice none 0 0, .slice none 0 0], .slice none 0 0], []⟩).memory Tryd.f4.params.toList Rows.wordLinesSpec.vars false (#[.agg #[.int .i64 0, .slice none 0 0, .slice none 0 0], .slice none 0 0] : Array Value).toList 8 = some ([.agg [.lit (.int .i64 0), .nil, .nil], .nil], [], places) := ⟨[], by kernel_rfl⟩
theorem met (os : Os) : laidMetH Tryd.prog laid5 ((World.laidAll Tryd.prog os laid5).forCall (fun _ _ => 0) ⟨#[], #[.agg #[.int .i64 0, .slice none 0 0, .slice none 0 0], .slice none 0 0], []⟩).memory := (MakeChecks.laidMetH_plain _ _ _ (by kernel_rfl)).mpr (laidMet_laidAll _ (by kernel_rfl) (by kernel_rfl))
theorem specs {H : Type} (ds : List (DataW H)) (h : ds.length = 2) : (Rows.wordLinesSpec.fn H ds).results = [.lit (.bool true)] ∧ (Rows.wordLinesSpec.fn H ds).args = ds ∧ (Rows.wordLinesSpec.fn H ds).vars = [] := by
  rcases ds with _ | ⟨d0, _ | ⟨d1, _ | ⟨e, t⟩⟩⟩ <;> simp at h <;> exact ⟨rfl, rfl, rfl⟩
set_option maxRecDepth 100000 in
theorem opened {H : Type} (enc : TypeId × Value → H) (W : World) (base : Nat) (args : Array Value) (ds : List (DataW H)) (ps : List MemPlace) (hval : ∀ (j : Nat) t v, (#[24, 22] : Array TypeId)[j]? = some t → args[j]? = some v → Value.okWide Tryd.prog W .any base t v)
    (hA : DataW.TrodAll enc Tryd.prog W 0 (fun _ => true) true [24, 22] args.toList ds ps) (hsz : (DataW.weightsEach Tryd.prog [24, 22] ds).all (· ≤ reachBytes) = true) : ∃ xs, RepL (memOf W) xs noLoc args.toList ∧ ECalls cx 4 xs (.lit (.bool true)) := by
  obtain ⟨v0, vs0, d0, ds0, p0, q0, hargs, rfl, rfl, h0, r0⟩ := trodAll_cons hA
  obtain ⟨v1, vs1, d1, ds1, p1, q1, rfl, rfl, rfl, h1, r1⟩ := trodAll_cons r0
  obtain ⟨rfl, rfl, rfl⟩ := trodAll_nil r1
  obtain rfl : args = #[v0, v1] := by cases args; simp_all
  obtain ⟨m0, e0, b0, c0⟩ := rep_map (hval 0 24 v0 rfl rfl) h0 (fun n hn => by simpa using List.all_eq_true.1 hsz n (DataW.weights_mem_each (j := 0) rfl rfl n hn))
  obtain ⟨l1, e1, b1⟩ := rep_list (hval 1 22 v1 rfl rfl) h1 (fun n hn => by simpa using List.all_eq_true.1 hsz n (DataW.weights_mem_each (j := 1) rfl rfl n hn))
  exact ⟨[mapV m0, .sl 1 (is .i64 l1)], RepL.cons e0 (RepL.cons e1 (by simp only [RepL])), c_WordLines m0 l1 b0 c0 b1⟩
set_option maxRecDepth 100000 in
theorem lifted (os : Os) (started : os.Started) (H : Type) (enc : TypeId × Value → H) (F : Stop.Interp) :
    ReturnsInHanded {} Tryd.checked os 4 .any ((OpenSpec.ofChange Rows.wordLinesSpec).preRow enc Tryd.prog Tryd.f4 Rows.wordLinesRow.domain false Rows.wordLinesRow.laid) (((OpenSpec.ofChange Rows.wordLinesSpec).at F).post enc Tryd.prog Tryd.f4 false true false false) := by
  obtain ⟨places, hx⟩ := reads os enc
  refine lifted_of (C := Tryd.checked) started cx rfl ownT (by kernel_rfl) Tryd.func4 (witness_laid #[.agg #[.int .i64 0, .slice none 0 0, .slice none 0 0], .slice none 0 0] (by kernel_rfl) (by kernel_rfl) (by kernel_rfl) (OpenSpec.preRow_of_cond 8 hx (by kernel_rfl) (fun k hk => by cases hk) (by kernel_rfl) (met os))) laidOutT (by kernel_rfl) (tb := 4) (by kernel_rfl) u4T rfl (fun ds h => specs ds (h.trans (by kernel_rfl))) (fun W h => tabG_of h) ?_
  intro W base args ds ps hval hA hsz
  exact opened enc W base args ds ps hval hA hsz
theorem said : Rows.WordLinesSaid :=
  OpenClaim.holds_of_cond 4 Tryd.f4 rfl rfl rfl rfl rfl rfl rfl ⟨rfl, rfl, rfl, rfl, rfl⟩ rfl rfl rfl rfl rfl (by kernel_rfl) Tryd.func4 (by kernel_rfl)
    (of_decide_eq_true (by kernel_rfl)) (by unfold Func.isWrapper; first | (rw [if_pos (by decide +kernel)]; kernel_rfl) | (rw [if_neg (by decide +kernel)]; exact ⟨rfl, rfl⟩))
    (fun os started H enc _ F => by rw [OpenClaim.pre_eq_preRow]; exact lifted os started H enc F)
theorem plain (f : FuncId) (fn : Func) (hf : Tryd.pinned.checked.prog.funcNamed "katabasis/katabasislaw03.WordLines" = some f) (hfn : Tryd.pinned.checked.prog.funcs[f]? = some fn) :
    true = Tryd.pinned.checked.prog.looks [] ∧ ∀ (j : Nat) t, fn.params[j]? = some t → Tryd.pinned.checked.prog.wantsStandIn t = false := by
  obtain rfl : f = 4 := Option.some.inj ((show Tryd.prog.funcNamed "katabasis/katabasislaw03.WordLines" = some 4 by kernel_rfl).symm.trans hf) |>.symm
  obtain rfl : fn = Tryd.f4 := (Option.some.inj (Tryd.func4.symm.trans hfn)).symm
  refine ⟨by kernel_rfl, fun j t ht => ?_⟩
  rw [Tryd.params4] at ht
  have : t = 24 ∨ t = 22 := by have h := Array.mem_of_getElem? ht; simp at h; first | exact h | (rcases h with h | h | h | h <;> simp [h]) | (rcases h with h | h | h <;> simp [h]) | (rcases h with h | h <;> simp [h])
  rcases this with rfl | rfl
  · exact (show Tryd.prog.wantsStandIn 24 = false by kernel_rfl)
  · exact (show Tryd.prog.wantsStandIn 22 = false by kernel_rfl)
end Go.Proofs.YtbilndahjkimkaaDoor.wordLines
namespace Go.Proofs.YtbilndahjkimkaaDoor
open Go
theorem wordLines_holds : Rows.WordLinesCardSaid :=
  Claim7.holds_tied_plain_at .later [] _ _ _ _ wordLines.said (fun _ h => by cases h) (by kernel_rfl) (fun _ h => by cases h) wordLines_row_tie rfl ⟨rfl, rfl⟩ (by kernel_rfl) rfl wordLines.plain (by kernel_rfl)
#print axioms wordLines_holds
end Go.Proofs.YtbilndahjkimkaaDoor

