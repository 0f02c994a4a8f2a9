import Derived.Test.YtkngglpnejdicaaDoorWc
import Derived.Test.YtkngglpnejdicaaDoorQx
set_option linter.unusedVariables false
set_option linter.unusedSimpArgs false
namespace Go.Proofs.YtkngglpnejdicaaDoor
open Go Go.Ab Go.Mth
theorem Wr_tO89 : tyZero cx.P 89 = some [(Go.Value.bool false), (Go.Value.slice none 0 0)] := by kernel_rfl
theorem Wr_tU87 : cx.P.underlying 87 = some (.slice 122) := by kernel_rfl
theorem Wr_tE87 : tyElem cx.P 87 = some (122, 1, 4) := by kernel_rfl
theorem Wr_tS122 : tySc cx.P 122 = true := by kernel_rfl
theorem Wr_tP89 : tyPlaces cx.P 89 = some (fun i => (#[(0, 1), (1, 1)] : Array (Nat × Nat))[i]?) := by kernel_rfl
theorem Wr_tZ89 : tySize cx.P 89 = some 2 := by kernel_rfl
theorem Wr_tA89 : tyAgg cx.P 89 = some 2 := by kernel_rfl
theorem Wr_tO122 : tyZero cx.P 122 = some [(Go.Value.int IntKind.u32 0)] := by kernel_rfl
theorem Wr_tI122 : tyInt cx.P 122 = some .u32 := by kernel_rfl
theorem Wr_tI117 : tyInt cx.P 117 = some .u64 := by kernel_rfl
theorem Wr_tC101 : callable cx.P 101 = true := by kernel_rfl
theorem Wr_tF89_1 : tyField cx.P 89 1 = some (1, 87) := by kernel_rfl
theorem Wr_tS87 : tySc cx.P 87 = true := by kernel_rfl
theorem Wr_tC113 : callable cx.P 113 = true := by kernel_rfl
theorem Wr_tC103 : callable cx.P 103 = true := by kernel_rfl
theorem Wr_tC114 : callable cx.P 114 = true := by kernel_rfl
theorem Wr_tZ122 : tySize cx.P 122 = some 1 := by kernel_rfl
theorem Wr_tC107 : callable cx.P 107 = true := by kernel_rfl
theorem c_wTrimX (neg : Bool) (xs : List Nat) (hx : Dig xs) : ECalls cx 101 [(AV.lit (.bool (neg))), (AV.sl 1 (ns .u32 (xs)))] (intC (sg neg (val xs))) := by
  refine ecalls_of_awp Tryd.func101 (c := _) rfl (Nat.le_of_ble_eq_true rfl) ?_
  show awp cx 30 _ (postF cx Tryd.f101 _) ⟨[(0, (AV.lit (.bool (neg)))), (1, (AV.sl 1 (ns .u32 (xs))))], []⟩
  refine awp_bound (i := 1) rfl fun hb => ?_
  replace hb := n_bnd hb
  refine awp_seq fun K0 hK0 => ?_
  refine awp_region rfl ?_
  refine o_alloc 2 [(AV.lit (.bool false)), (AV.lit (.slice none 0 0))] Gd.none Wr_tO89 rfl rfl rfl ?_
  refine aops_end ?_
  refine hK0 _ ?_
  refine awp_seq fun K1 hK1 => ?_
  refine awp_region rfl ?_
  refine o_move (AV.sl 1 (ns .u32 (xs))) Gd.none rfl ?_
  refine n_len (xs) Gd.none Wr_tU87 rfl ?_
  refine o_assign (nm .i64 ((xs).length)) Gd.none rfl ?_
  refine aops_end ?_
  refine hK1 _ ?_
  refine awp_seq fun K2 hK2 => ?_
  refine awp_block ?_
  refine awp_loopR (fun κ σ => ∃ (n : Nat), (n ≤ xs.length) ∧ (val (xs.take n) = val xs) ∧ (n) = κ ∧ σ = ⟨[(0, (AV.lit (.bool (neg)))), (1, (AV.sl 1 (ns .u32 (xs)))), (4, (AV.ref 2 (0))), (5, (nm .i64 (n)))], [(2, (AO.var 89 [(AV.lit (.bool false)), (AV.lit (.slice none 0 0))]))]⟩) ⟨_, _, ⟨xs.length, (Nat.le_refl _), (by rw [List.take_length]), rfl, rfl⟩, ?wk0⟩ ?rd0
  case wk0 =>
    exact Wk.sub (And.intro (by exact rfl) (And.intro (by exact rfl) (And.intro (by exact rfl) (And.intro (by first | rfl | exact congrArg (nm _) (by omega) | exact nm_int (by omega) | exact nm_int (by simp [IntKind.wrap, IntKind.bits, IntKind.signed]; omega)) (trivial))))) (And.intro (by first | rfl | exact row_ns (by simp) | exact congrArg (fun x => some (AO.blk (.stringIter _ x))) (by omega)) (trivial))
  rintro κ _ ⟨n, hn, hv, rfl, rfl⟩
  refine awp_seq fun K3 hK3 => ?_
  refine awp_seq fun K4 hK4 => ?_
  refine awp_region rfl ?_
  refine o_move (nm .i64 (n)) Gd.none rfl ?_
  refine n_gtr (n) (0) Gd.none rfl rfl ?_
  refine o_move (bp ((0) < (n))) Gd.none rfl ?_
  refine o_splitP (q := (0) < (n)) 10 rfl (fun h1 => ?_) (fun h1 => ?_)
  · refine o_move (AV.sl 1 (ns .u32 (xs))) (Gd.yes rfl rfl (decide_eq_true h1)) rfl ?_
    refine o_move (nm .i64 (n)) (Gd.yes rfl rfl (decide_eq_true h1)) rfl ?_
    refine n_sub (n) (1) (Gd.yes rfl rfl (decide_eq_true h1)) rfl rfl (by omega) (by simp only [topOf]; omega) ?_
    refine n_index (xs) ((n) - (1)) (Gd.yes rfl rfl (decide_eq_true h1)) Wr_tE87 rfl rfl (by omega) ?_
    refine n_loadI (xs) ((n) - (1)) (Gd.yes rfl rfl (decide_eq_true h1)) Wr_tS122 rfl (by omega) ?_
    refine n_eql ((xs).getD ((n) - (1)) 0) (0) (Gd.yes rfl rfl (decide_eq_true h1)) rfl rfl ?_
    refine o_pickT (b := decide ((0) < (n))) (bp (((xs).getD ((n) - (1)) 0) = (0))) Gd.none rfl (decide_eq_true h1) rfl ?_
    refine aops_end ?_
    refine hK4 _ ?_
    refine awp_condQ (q := ((xs).getD ((n) - (1)) 0) = (0)) rfl (fun h2 => ?_) (fun h2 => ?_)
    · refine awp_skip ?_
      refine hK3 _ ?_
      refine awp_block ?_
      refine awp_region rfl ?_
      refine o_move (nm .i64 (n)) Gd.none rfl ?_
      refine n_sub (n) (1) Gd.none rfl rfl (by omega) (by simp only [topOf]; omega) ?_
      refine o_assign (nm .i64 ((n) - (1))) Gd.none rfl ?_
      refine aops_end ?_
      refine ⟨_, _, ?lt, ⟨n - 1, (by omega), (by rw [← take_getD_zero (by assumption) hn (by assumption)]; exact hv), rfl, rfl⟩, ?wk⟩
      case lt => omega
      case wk => exact Wk.sub (And.intro (by exact rfl) (And.intro (by exact rfl) (And.intro (by exact rfl) (And.intro (by first | rfl | exact congrArg (nm _) (by omega) | exact nm_int (by omega) | exact nm_int (by simp [IntKind.wrap, IntKind.bits, IntKind.signed]; omega)) (trivial))))) (And.intro (by first | rfl | exact row_ns (by simp) | exact congrArg (fun x => some (AO.blk (.stringIter _ x))) (by omega)) (trivial))
    · refine awp_exit ?_
      refine hK2 _ ?_
      refine awp_seq fun K5 hK5 => ?_
      refine awp_region rfl ?_
      refine o_move (AV.lit (.bool (neg))) Gd.none rfl ?_
      refine o_move (AV.lit (.bool (neg))) Gd.none rfl ?_
      refine o_split (b := neg) 21 rfl (fun h3 => ?_) (fun h3 => ?_)
      · refine o_move (nm .i64 (n)) (Gd.yes rfl rfl h3) rfl ?_
        refine n_gtr (n) (0) (Gd.yes rfl rfl h3) rfl rfl ?_
        refine o_pickT (b := neg) (bp ((0) < (n))) Gd.none rfl h3 rfl ?_
        refine o_move (AV.sl 1 (ns .u32 (xs))) Gd.none rfl ?_
        refine o_move (nm .i64 (n)) Gd.none rfl ?_
        refine o_move (nm .i64 (n)) Gd.none rfl ?_
        refine n_sliceX (xs) (0) (n) Gd.none Wr_tE87 rfl rfl (hi_nm rfl) (mx_nm rfl) rfl (by omega) (by omega) ?_
        refine o_build [(bp ((0) < (n))), (AV.slc 1 (ns .u32 (((xs).drop (0)).take (n - 0))) (n - 0))] [(0, [(bp ((0) < (n)))]), (1, [(AV.slc 1 (ns .u32 (((xs).drop (0)).take (n - 0))) (n - 0))])] Gd.none Wr_tP89 Wr_tO89 rfl rfl rfl ?_
        refine o_store [(2, (AO.var 89 [(bp ((0) < (n))), (AV.slc 1 (ns .u32 (((xs).drop (0)).take (n - 0))) (n - 0))]))] Gd.none Wr_tZ89 rfl rfl rfl rfl rfl rfl ?_
        refine aops_end ?_
        refine hK5 _ ?_
        refine awp_ret ?_
        refine post_ret ⟨[(AV.agg [(bp ((0) < (n))), (AV.slc 1 (ns .u32 (((xs).drop (0)).take (n - 0))) (n - 0))])], And.intro ⟨2, (AO.var 89 [(bp ((0) < (n))), (AV.slc 1 (ns .u32 (((xs).drop (0)).take (n - 0))) (n - 0))]), rfl, rfl, rfl, Or.inl ⟨Wr_tA89, AV.le_refl _⟩⟩ (trivial), rfl, ?_⟩
        subst h3
        exact (trimc_fin (neg := true) hx hn hv (by first | (left; omega) | (right; assumption))).symm
      · refine o_skip (b := neg) rfl rfl h3 ?_
        refine o_skip (b := neg) rfl rfl h3 ?_
        refine o_pickF (b := neg) (AV.lit (.bool false)) Gd.none rfl h3 rfl ?_
        refine o_move (AV.sl 1 (ns .u32 (xs))) Gd.none rfl ?_
        refine o_move (nm .i64 (n)) Gd.none rfl ?_
        refine o_move (nm .i64 (n)) Gd.none rfl ?_
        refine n_sliceX (xs) (0) (n) Gd.none Wr_tE87 rfl rfl (hi_nm rfl) (mx_nm rfl) rfl (by omega) (by omega) ?_
        refine o_build [(AV.lit (.bool false)), (AV.slc 1 (ns .u32 (((xs).drop (0)).take (n - 0))) (n - 0))] [(0, [(AV.lit (.bool false))]), (1, [(AV.slc 1 (ns .u32 (((xs).drop (0)).take (n - 0))) (n - 0))])] Gd.none Wr_tP89 Wr_tO89 rfl rfl rfl ?_
        refine o_store [(2, (AO.var 89 [(AV.lit (.bool false)), (AV.slc 1 (ns .u32 (((xs).drop (0)).take (n - 0))) (n - 0))]))] Gd.none Wr_tZ89 rfl rfl rfl rfl rfl rfl ?_
        refine aops_end ?_
        refine hK5 _ ?_
        refine awp_ret ?_
        refine post_ret ⟨[(AV.agg [(AV.lit (.bool false)), (AV.slc 1 (ns .u32 (((xs).drop (0)).take (n - 0))) (n - 0))])], And.intro ⟨2, (AO.var 89 [(AV.lit (.bool false)), (AV.slc 1 (ns .u32 (((xs).drop (0)).take (n - 0))) (n - 0))]), rfl, rfl, rfl, Or.inl ⟨Wr_tA89, AV.le_refl _⟩⟩ (trivial), rfl, ?_⟩
        subst h3
        exact (trimc_fin (neg := false) hx hn hv (by first | (left; omega) | (right; assumption))).symm
  · refine o_skip (b := decide ((0) < (n))) rfl rfl (decide_eq_false h1) ?_
    refine o_skip (b := decide ((0) < (n))) rfl rfl (decide_eq_false h1) ?_
    refine o_skip (b := decide ((0) < (n))) rfl rfl (decide_eq_false h1) ?_
    refine o_skip (b := decide ((0) < (n))) rfl rfl (decide_eq_false h1) ?_
    refine o_skip (b := decide ((0) < (n))) rfl rfl (decide_eq_false h1) ?_
    refine o_skip (b := decide ((0) < (n))) rfl rfl (decide_eq_false h1) ?_
    refine o_pickF (b := decide ((0) < (n))) (AV.lit (.bool false)) Gd.none rfl (decide_eq_false h1) rfl ?_
    refine aops_end ?_
    refine hK4 _ ?_
    refine awp_condB (b := false) rfl (fun hh => absurd (hh.symm.trans rfl) (by decide)) (fun _ => ?_)
    refine awp_exit ?_
    refine hK2 _ ?_
    refine awp_seq fun K6 hK6 => ?_
    refine awp_region rfl ?_
    refine o_move (AV.lit (.bool (neg))) Gd.none rfl ?_
    refine o_move (AV.lit (.bool (neg))) Gd.none rfl ?_
    refine o_split (b := neg) 21 rfl (fun h4 => ?_) (fun h4 => ?_)
    · refine o_move (nm .i64 (n)) (Gd.yes rfl rfl h4) rfl ?_
      refine n_gtr (n) (0) (Gd.yes rfl rfl h4) rfl rfl ?_
      refine o_pickT (b := neg) (bp ((0) < (n))) Gd.none rfl h4 rfl ?_
      refine o_move (AV.sl 1 (ns .u32 (xs))) Gd.none rfl ?_
      refine o_move (nm .i64 (n)) Gd.none rfl ?_
      refine o_move (nm .i64 (n)) Gd.none rfl ?_
      refine n_sliceX (xs) (0) (n) Gd.none Wr_tE87 rfl rfl (hi_nm rfl) (mx_nm rfl) rfl (by omega) (by omega) ?_
      refine o_build [(bp ((0) < (n))), (AV.slc 1 (ns .u32 (((xs).drop (0)).take (n - 0))) (n - 0))] [(0, [(bp ((0) < (n)))]), (1, [(AV.slc 1 (ns .u32 (((xs).drop (0)).take (n - 0))) (n - 0))])] Gd.none Wr_tP89 Wr_tO89 rfl rfl rfl ?_
      refine o_store [(2, (AO.var 89 [(bp ((0) < (n))), (AV.slc 1 (ns .u32 (((xs).drop (0)).take (n - 0))) (n - 0))]))] Gd.none Wr_tZ89 rfl rfl rfl rfl rfl rfl ?_
      refine aops_end ?_
      refine hK6 _ ?_
      refine awp_ret ?_
      refine post_ret ⟨[(AV.agg [(bp ((0) < (n))), (AV.slc 1 (ns .u32 (((xs).drop (0)).take (n - 0))) (n - 0))])], And.intro ⟨2, (AO.var 89 [(bp ((0) < (n))), (AV.slc 1 (ns .u32 (((xs).drop (0)).take (n - 0))) (n - 0))]), rfl, rfl, rfl, Or.inl ⟨Wr_tA89, AV.le_refl _⟩⟩ (trivial), rfl, ?_⟩
      subst h4
      exact (trimc_fin (neg := true) hx hn hv (by first | (left; omega) | (right; assumption))).symm
    · refine o_skip (b := neg) rfl rfl h4 ?_
      refine o_skip (b := neg) rfl rfl h4 ?_
      refine o_pickF (b := neg) (AV.lit (.bool false)) Gd.none rfl h4 rfl ?_
      refine o_move (AV.sl 1 (ns .u32 (xs))) Gd.none rfl ?_
      refine o_move (nm .i64 (n)) Gd.none rfl ?_
      refine o_move (nm .i64 (n)) Gd.none rfl ?_
      refine n_sliceX (xs) (0) (n) Gd.none Wr_tE87 rfl rfl (hi_nm rfl) (mx_nm rfl) rfl (by omega) (by omega) ?_
      refine o_build [(AV.lit (.bool false)), (AV.slc 1 (ns .u32 (((xs).drop (0)).take (n - 0))) (n - 0))] [(0, [(AV.lit (.bool false))]), (1, [(AV.slc 1 (ns .u32 (((xs).drop (0)).take (n - 0))) (n - 0))])] Gd.none Wr_tP89 Wr_tO89 rfl rfl rfl ?_
      refine o_store [(2, (AO.var 89 [(AV.lit (.bool false)), (AV.slc 1 (ns .u32 (((xs).drop (0)).take (n - 0))) (n - 0))]))] Gd.none Wr_tZ89 rfl rfl rfl rfl rfl rfl ?_
      refine aops_end ?_
      refine hK6 _ ?_
      refine awp_ret ?_
      refine post_ret ⟨[(AV.agg [(AV.lit (.bool false)), (AV.slc 1 (ns .u32 (((xs).drop (0)).take (n - 0))) (n - 0))])], And.intro ⟨2, (AO.var 89 [(AV.lit (.bool false)), (AV.slc 1 (ns .u32 (((xs).drop (0)).take (n - 0))) (n - 0))]), rfl, rfl, rfl, Or.inl ⟨Wr_tA89, AV.le_refl _⟩⟩ (trivial), rfl, ?_⟩
      subst h4
      exact (trimc_fin (neg := false) hx hn hv (by first | (left; omega) | (right; assumption))).symm

theorem c_wTimes (m n : Nat) (hm : (digs m).length ≤ 1000000000) (hn : n < 1000000000) : ECalls cx 114 [(AV.sl 1 (ns .u32 (digs m))), (nm .u64 (n))] (.sl 1 (ns .u32 (digs (m * n)))) := by
  refine ecalls_of_awp Tryd.func114 (c := _) rfl (Nat.le_of_ble_eq_true rfl) ?_
  show awp cx 42 _ (postF cx Tryd.f114 _) ⟨[(0, (AV.sl 1 (ns .u32 (digs m)))), (1, (nm .u64 (n)))], []⟩
  refine awp_bound (i := 0) rfl fun hb => ?_
  replace hb := n_bnd hb
  refine awp_seq fun K0 hK0 => ?_
  refine awp_region rfl ?_
  refine o_assign (AV.lit (.slice none 0 0)) Gd.none rfl ?_
  refine aops_end ?_
  refine hK0 _ ?_
  refine awp_seq fun K1 hK1 => ?_
  refine awp_region rfl ?_
  refine o_move (AV.sl 1 (ns .u32 (digs m))) Gd.none rfl ?_
  refine n_len (digs m) Gd.none Wr_tU87 rfl ?_
  refine n_add ((digs m).length) (1) Gd.none rfl rfl (by simp only [topOf]; omega) ?_
  refine n_make0 .u32 2 (((digs m).length) + (1)) Gd.none Wr_tE87 Wr_tO122 rfl rfl (by omega) (by omega) rfl ?_
  refine o_assign (AV.row 2) Gd.none rfl ?_
  refine aops_end ?_
  refine hK1 _ ?_
  refine awp_seq fun K2 hK2 => ?_
  refine awp_region rfl ?_
  refine o_assign (nm .u64 (0)) Gd.none rfl ?_
  refine aops_end ?_
  refine hK2 _ ?_
  refine awp_seq fun K3 hK3 => ?_
  refine awp_seq fun K4 hK4 => ?_
  refine awp_region rfl ?_
  refine o_move (AV.sl 1 (ns .u32 (digs m))) Gd.none rfl ?_
  refine n_len (digs m) Gd.none Wr_tU87 rfl ?_
  refine o_move (nm .i64 (0)) Gd.none rfl ?_
  refine aops_end ?_
  refine hK4 _ ?_
  refine awp_block ?_
  refine awp_loopR (fun κ σ => ∃ (i : Nat), ∃ (r : List Nat), ∃ (c : Nat), (r.length = i) ∧ (i ≤ (digs m).length) ∧ (Dig r) ∧ (c < 1000000000) ∧ (val r + 1000000000 ^ i * c = val ((digs m).take i) * n) ∧ ((digs m).length - i) = κ ∧ σ = ⟨[(1, (nm .u64 (n))), (5, (AV.row 3)), (6, (nm .u64 (c))), (14, (AV.sl 1 (ns .u32 (digs m)))), (15, (nm .i64 ((digs m).length))), (16, (nm .i64 (i)))], [(3, (AO.row 122 1 (ns .u32 (r))))]⟩) ⟨_, _, ⟨0, [], 0, rfl, (by omega), Dig.nil, (by omega), (by simp [val]), rfl, rfl⟩, ?wk0⟩ ?rd0
  case wk0 =>
    exact Wk.trans (Wk.sub (σ' := ⟨[(1, (nm .u64 (n))), (5, (AV.row 2)), (6, (nm .u64 (0))), (14, (AV.sl 1 (ns .u32 (digs m)))), (15, (nm .i64 ((digs m).length))), (16, (nm .i64 (0)))], [(2, (AO.row 122 1 (ns .u32 ([]))))]⟩) (And.intro rfl (And.intro rfl (And.intro rfl (And.intro rfl (And.intro rfl (And.intro rfl (trivial))))))) (And.intro rfl (trivial))) (Wk.trans (Wk.ren (id := 2) (id' := 3) rfl) (Wk.sub (And.intro (by exact rfl) (And.intro (by first | rfl | (simp)) (And.intro (by first | rfl | exact congrArg (nm _) (by omega) | exact nm_int (by omega) | exact nm_int (by simp [IntKind.wrap, IntKind.bits, IntKind.signed]; omega)) (And.intro (by exact rfl) (And.intro (by exact rfl) (And.intro (by first | rfl | exact congrArg (nm _) (by omega) | exact nm_int (by omega) | exact nm_int (by simp [IntKind.wrap, IntKind.bits, IntKind.signed]; omega)) (trivial))))))) (And.intro (by first | rfl | exact row_ns (by simp) | exact congrArg (fun x => some (AO.blk (.stringIter _ x))) (by omega)) (trivial))))
  rintro κ _ ⟨i, r, c, hl, hi, hd, hc, hv, rfl, rfl⟩
  have hA := Dig.getD (digs_dig m) i
  have hAn : ((digs m).getD (i) 0) * n ≤ 999999999 * 999999999 := Nat.mul_le_mul (by omega) (by omega)
  refine awp_seq fun K5 hK5 => ?_
  refine awp_region rfl ?_
  refine n_lss (i) ((digs m).length) Gd.none rfl rfl ?_
  refine aops_end ?_
  refine hK5 _ ?_
  refine awp_seq fun K6 hK6 => ?_
  refine awp_condQ (q := (i) < ((digs m).length)) rfl (fun h1 => ?_) (fun h1 => ?_)
  · refine awp_skip ?_
    refine hK6 _ ?_
    refine awp_seq fun K7 hK7 => ?_
    refine awp_block ?_
    refine awp_seq fun K8 hK8 => ?_
    refine awp_region rfl ?_
    refine n_index (digs m) (i) Gd.none Wr_tE87 rfl rfl (by omega) ?_
    refine n_loadI (digs m) (i) Gd.none Wr_tS122 rfl (by omega) ?_
    refine o_assign (nm .u32 ((digs m).getD (i) 0)) Gd.none rfl ?_
    refine aops_end ?_
    refine hK8 _ ?_
    refine awp_seq fun K9 hK9 => ?_
    refine awp_region rfl ?_
    refine o_move (nm .u32 ((digs m).getD (i) 0)) Gd.none rfl ?_
    refine n_conv ((digs m).getD (i) 0) Gd.none rfl Wr_tI122 Wr_tI117 (by simp only [topOf]; omega) ?_
    refine o_move (nm .u64 (n)) Gd.none rfl ?_
    refine n_mul ((digs m).getD (i) 0) (n) Gd.none rfl rfl (by simp only [topOf]; omega) ?_
    refine o_move (nm .u64 (c)) Gd.none rfl ?_
    refine n_add (((digs m).getD (i) 0) * (n)) (c) Gd.none rfl rfl (by simp only [topOf]; omega) ?_
    refine o_assign (nm .u64 ((((digs m).getD (i) 0) * (n)) + (c))) Gd.none rfl ?_
    refine aops_end ?_
    refine hK9 _ ?_
    refine awp_seq fun K10 hK10 => ?_
    refine awp_region rfl ?_
    refine o_move (AV.row 3) Gd.none rfl ?_
    refine o_move (nm .u64 ((((digs m).getD (i) 0) * (n)) + (c))) Gd.none rfl ?_
    refine n_rem ((((digs m).getD (i) 0) * (n)) + (c)) (1000000000) Gd.none rfl rfl (by omega) ?_
    refine n_conv (((((digs m).getD (i) 0) * (n)) + (c)) % (1000000000)) Gd.none rfl Wr_tI117 Wr_tI122 (by simp only [topOf]; omega) ?_
    refine o_buildSlice 101 (ns .u32 ([((((digs m).getD (i) 0) * (n)) + (c)) % (1000000000)])) [(0, [(nm .u32 (((((digs m).getD (i) 0) * (n)) + (c)) % (1000000000)))])] Gd.none Wr_tE87 rfl Wr_tO122 rfl rfl rfl rfl rfl rfl rfl ?_
    refine n_append 102 (r) ([((((digs m).getD (i) 0) * (n)) + (c)) % (1000000000)]) [(101, (AO.row 122 1 (ns .u32 ([((((digs m).getD (i) 0) * (n)) + (c)) % (1000000000)]))))] Gd.none Wr_tE87 Wr_tO122 rfl rfl rfl rfl rfl (by simp only [List.length_append, List.length_cons, List.length_nil]; omega) (by decide) rfl rfl ?_
    refine o_assign (AV.row 102) Gd.none rfl ?_
    refine aops_end ?_
    refine hK10 _ ?_
    refine awp_region rfl ?_
    refine o_move (nm .u64 ((((digs m).getD (i) 0) * (n)) + (c))) Gd.none rfl ?_
    refine n_quo ((((digs m).getD (i) 0) * (n)) + (c)) (1000000000) Gd.none rfl rfl (by omega) (by simp only [topOf]; omega) ?_
    refine o_assign (nm .u64 (((((digs m).getD (i) 0) * (n)) + (c)) / (1000000000))) Gd.none rfl ?_
    refine aops_end ?_
    refine hK7 _ ?_
    refine awp_region rfl ?_
    refine n_add (i) (1) Gd.none rfl rfl (by simp only [topOf]; omega) ?_
    refine o_move (nm .i64 ((i) + (1))) Gd.none rfl ?_
    refine aops_end ?_
    refine ⟨_, _, ?lt, ⟨i + 1, (r) ++ ([((((digs m).getD (i) 0) * (n)) + (c)) % (1000000000)]), ((((digs m).getD (i) 0) * (n)) + (c)) / (1000000000), (by simp [hl]), (by omega), (hd.snoc (Nat.mod_lt _ (by decide))), (by omega), (times_step hl hv rfl), rfl, rfl⟩, ?wk⟩
    case lt => omega
    case wk => exact Wk.trans (Wk.sub (σ' := ⟨[(1, (nm .u64 (n))), (5, (AV.row 102)), (6, (nm .u64 (((((digs m).getD (i) 0) * (n)) + (c)) / (1000000000)))), (14, (AV.sl 1 (ns .u32 (digs m)))), (15, (nm .i64 ((digs m).length))), (16, (nm .i64 ((i) + (1))))], [(102, (AO.row 122 1 (ns .u32 ((r) ++ ([((((digs m).getD (i) 0) * (n)) + (c)) % (1000000000)])))))]⟩) (And.intro rfl (And.intro rfl (And.intro rfl (And.intro rfl (And.intro rfl (And.intro rfl (trivial))))))) (And.intro rfl (trivial))) (Wk.trans (Wk.ren (id := 102) (id' := 3) rfl) (Wk.sub (And.intro (by exact rfl) (And.intro (by first | rfl | (simp)) (And.intro (by first | rfl | exact congrArg (nm _) (by omega) | exact nm_int (by omega) | exact nm_int (by simp [IntKind.wrap, IntKind.bits, IntKind.signed]; omega)) (And.intro (by exact rfl) (And.intro (by exact rfl) (And.intro (by first | rfl | exact congrArg (nm _) (by omega) | exact nm_int (by omega) | exact nm_int (by simp [IntKind.wrap, IntKind.bits, IntKind.signed]; omega)) (trivial))))))) (And.intro (by first | rfl | exact row_ns (by simp) | exact congrArg (fun x => some (AO.blk (.stringIter _ x))) (by omega)) (trivial))))
  · refine awp_exit ?_
    refine hK3 _ ?_
    refine awp_seq fun K11 hK11 => ?_
    refine awp_region rfl ?_
    refine o_move (AV.row 3) Gd.none rfl ?_
    refine o_move (nm .u64 (c)) Gd.none rfl ?_
    refine n_conv (c) Gd.none rfl Wr_tI117 Wr_tI122 (by simp only [topOf]; omega) ?_
    refine o_buildSlice 101 (ns .u32 ([c])) [(0, [(nm .u32 (c))])] Gd.none Wr_tE87 rfl Wr_tO122 rfl rfl rfl rfl rfl rfl rfl ?_
    refine n_append 102 (r) ([c]) [(101, (AO.row 122 1 (ns .u32 ([c]))))] Gd.none Wr_tE87 Wr_tO122 rfl rfl rfl rfl rfl (by simp only [List.length_append, List.length_cons, List.length_nil]; omega) (by decide) rfl rfl ?_
    refine o_callG [(102, 1, (ns .u32 ((r) ++ ([c]))))] [(AV.lit (.bool false)), (AV.sl 1 (ns .u32 ((r) ++ ([c]))))] _ (intW ((sg (false) (val ((r) ++ ([c])))))) [(101, (AO.row 122 1 (ns .u32 ([c]))))] Gd.none Wr_tC101 rfl (And.intro ⟨_, rfl⟩ (trivial)) rfl rfl (LeL.cons (AV.le_refl _) (LeL.cons (AV.le_refl _) (LeL.nil))) (c_wTrim (false) ((r) ++ ([c])) (by first | assumption | exact dgn_dig _ _ | exact digs_dig _ | exact Dig.snoc (by assumption) (by assumption) | exact Dig.cons (by omega) (digs_dig _))) rfl ?_
    refine o_fieldS (AV.sl 1 (ns .u32 (digs ((sg (false) (val ((r) ++ ([c]))))).natAbs))) Gd.none Wr_tF89_1 Wr_tS87 rfl rfl ?_
    refine o_assign (AV.sl 1 (ns .u32 (digs ((sg (false) (val ((r) ++ ([c]))))).natAbs))) Gd.none rfl ?_
    refine aops_end ?_
    refine hK11 _ ?_
    refine awp_ret ?_
    refine post_ret ⟨[(AV.sl 1 (ns .u32 (digs ((sg (false) (val ((r) ++ ([c]))))).natAbs)))], And.intro (AV.le_refl _) (trivial), rfl, ?_⟩
    refine ns_congr ?_
    rw [sg_abs, times_fin (by omega) hl hv]

theorem c_wQuot (m n : Nat) (hn0 : 0 < n) (hm : (digs m).length ≤ 900000000) (hn : (digs n).length ≤ 900000000) : ECalls cx 109 [(AV.sl 1 (ns .u32 (digs m))), (AV.sl 1 (ns .u32 (digs n)))] (.tup [.sl 1 (ns .u32 (dgn (digs m).length (m / n))), .sl 1 (ns .u32 (digs (m % n)))]) := by
  refine ecalls_of_awp Tryd.func109 (c := _) rfl (Nat.le_of_ble_eq_true rfl) ?_
  show awp cx 65 _ (postF cx Tryd.f109 _) ⟨[(0, (AV.sl 1 (ns .u32 (digs m)))), (1, (AV.sl 1 (ns .u32 (digs n))))], []⟩
  refine awp_bound (i := 0) rfl fun hb => ?_
  replace hb := n_bnd hb
  refine awp_bound (i := 1) rfl fun hb2 => ?_
  replace hb2 := n_bnd hb2
  refine awp_seq fun K0 hK0 => ?_
  refine awp_region rfl ?_
  refine o_assign (AV.lit (.slice none 0 0)) Gd.none rfl ?_
  refine o_assign (AV.lit (.slice none 0 0)) Gd.none rfl ?_
  refine aops_end ?_
  refine hK0 _ ?_
  refine awp_seq fun K1 hK1 => ?_
  refine awp_region rfl ?_
  refine o_move (AV.sl 1 (ns .u32 (digs m))) Gd.none rfl ?_
  refine n_len (digs m) Gd.none Wr_tU87 rfl ?_
  refine n_make 2 ((digs m).length) Gd.none Wr_tE87 Wr_tO122 rfl rfl (by omega) rfl rfl ?_
  refine o_assign (AV.row 2) Gd.none rfl ?_
  refine aops_end ?_
  refine hK1 _ ?_
  refine awp_seq fun K2 hK2 => ?_
  refine awp_region rfl ?_
  refine o_assign (AV.lit (.slice none 0 0)) Gd.none rfl ?_
  refine aops_end ?_
  refine hK2 _ ?_
  refine awp_seq fun K3 hK3 => ?_
  refine awp_seq fun K4 hK4 => ?_
  refine awp_region rfl ?_
  refine o_move (AV.sl 1 (ns .u32 (digs m))) Gd.none rfl ?_
  refine n_len (digs m) Gd.none Wr_tU87 rfl ?_
  refine o_sub (a := ((((digs m).length : Nat) : Int))) (c := (((1 : Nat) : Int))) Gd.none rfl rfl (by exact wrap64 (by omega) (by omega)) ?_
  refine o_assign (AV.lit (.int .i64 (((((digs m).length : Nat) : Int)) - (((1 : Nat) : Int))))) Gd.none rfl ?_
  refine aops_end ?_
  refine hK4 _ ?_
  refine awp_block ?_
  refine awp_wk (Wk.slot (i := 7) (y := (AV.slc 1 (ns .u32 (digs 0)) ((digs 0).length))) (AV.le_nilc' (by decide) (by simp [digs_zero, ns]) (by simp [digs_zero]))) ?_
  refine awp_loopR (fun κ σ => ∃ (j : Nat), ∃ (o : List Nat), ∃ (r : Nat), (j ≤ (digs m).length) ∧ (o.length = (digs m).length) ∧ (Dig o) ∧ (∀ k, k < j → o.getD k 0 = 0) ∧ (r < n) ∧ (val ((digs m).drop j) = n * val (o.drop j) + r) ∧ (j) = κ ∧ σ = ⟨[(0, (AV.sl 1 (ns .u32 (digs m)))), (1, (AV.sl 1 (ns .u32 (digs n)))), (6, (AV.row 3)), (8, (AV.lit (.int .i64 ((j : Int) - 1)))), (7, (AV.slc 1 (ns .u32 (digs (r))) ((digs (r)).length)))], [(3, (AO.row 122 1 (ns .u32 (o))))]⟩) ⟨_, _, ⟨(digs m).length, List.replicate (digs m).length 0, 0, (Nat.le_refl _), (by simp), (Dig.repl _), (fun k hk => by rw [List.getD_eq_getElem?_getD, List.getElem?_replicate]; split <;> rfl), hn0, (by rw [val_drop_all (Nat.le_refl _), val_drop_all (by simp)]; simp), rfl, rfl⟩, ?wk0⟩ ?rd0
  case wk0 =>
    exact Wk.trans (Wk.sub (σ' := ⟨[(0, (AV.sl 1 (ns .u32 (digs m)))), (1, (AV.sl 1 (ns .u32 (digs n)))), (6, (AV.row 2)), (8, (AV.lit (.int .i64 (((((digs m).length : Nat) : Int)) - (((1 : Nat) : Int)))))), (7, (AV.slc 1 (ns .u32 (digs 0)) ((digs 0).length)))], [(2, (AO.row 122 1 (ns .u32 (List.replicate ((digs m).length) 0))))]⟩) (And.intro rfl (And.intro rfl (And.intro rfl (And.intro rfl (And.intro rfl (trivial)))))) (And.intro rfl (trivial))) (Wk.trans (Wk.ren (id := 2) (id' := 3) rfl) (Wk.sub (And.intro (by exact rfl) (And.intro (by exact rfl) (And.intro (by first | rfl | (simp)) (And.intro (by first | rfl | exact int_eq (by omega) | exact int_nm (by omega)) (And.intro (by first | rfl | (simp)) (trivial)))))) (And.intro (by first | rfl | exact row_ns (by simp) | exact congrArg (fun x => some (AO.blk (.stringIter _ x))) (by omega)) (trivial))))
  rintro κ _ ⟨j, o, r, hj, hl, hd, hz, hr, hv, rfl, rfl⟩
  have hA := Dig.getD (digs_dig m) (j - 1)
  have hrl := digs_len_le (Nat.le_of_lt hr)
  have hXt := quo_top hA hr
  have hXl := digs_len_le (Nat.le_of_lt hXt)
  have hXm := digs_mul_len n 1000000000
  have h10 : (digs 1000000000).length ≤ 3 := digs_len_small (by decide)
  refine awp_seq fun K5 hK5 => ?_
  refine awp_seq fun K6 hK6 => ?_
  refine awp_region rfl ?_
  refine o_move (AV.lit (.int .i64 ((j : Int) - 1))) Gd.none rfl ?_
  refine o_geq (a := ((j : Int) - 1)) (c := (((0 : Nat) : Int))) Gd.none rfl rfl ?_
  refine aops_end ?_
  refine hK6 _ ?_
  refine awp_condQ (q := (((0 : Nat) : Int)) ≤ ((j : Int) - 1)) rfl (fun h1 => ?_) (fun h1 => ?_)
  · refine awp_wk (Wk.slot (i := 8) (y := (nm .i64 (j - 1))) (AV.le_eq (by exact nm_int (by omega)))) ?_
    refine awp_skip ?_
    refine hK5 _ ?_
    refine awp_seq fun K7 hK7 => ?_
    refine awp_block ?_
    refine awp_seq fun K8 hK8 => ?_
    refine awp_region rfl ?_
    refine o_move (AV.slc 1 (ns .u32 (digs (r))) ((digs (r)).length)) Gd.none rfl ?_
    refine o_move (AV.sl 1 (ns .u32 (digs m))) Gd.none rfl ?_
    refine o_move (nm .i64 (j - 1)) Gd.none rfl ?_
    refine n_index (digs m) (j - 1) Gd.none Wr_tE87 rfl rfl (by omega) ?_
    refine n_loadI (digs m) (j - 1) Gd.none Wr_tS122 rfl (by omega) ?_
    refine o_buildSlice 101 (ns .u32 ([(digs m).getD (j - 1) 0])) [(0, [(nm .u32 ((digs m).getD (j - 1) 0))])] Gd.none Wr_tE87 rfl Wr_tO122 rfl rfl rfl rfl rfl rfl rfl ?_
    refine o_callG [(101, 1, (ns .u32 ([(digs m).getD (j - 1) 0])))] [(AV.slc 1 (ns .u32 (digs (r))) ((digs (r)).length)), (nm .i64 (0)), (AV.sl 1 (ns .u32 ([(digs m).getD (j - 1) 0])))] _ (AV.sl 1 (ns .u32 (((digs m).getD (j - 1) 0) :: digs (r)))) [(3, (AO.row 122 1 (ns .u32 (o))))] Gd.none Wr_tC113 rfl (And.intro ⟨_, rfl⟩ (trivial)) rfl rfl (LeL.cons (AV.le_refl _) (LeL.cons (AV.le_refl _) (LeL.cons (AV.le_refl _) (LeL.nil)))) (c_insert (digs (r)) ((digs m).getD (j - 1) 0) (by omega)) rfl ?_
    refine o_call [(AV.lit (.bool false)), (AV.sl 1 (ns .u32 (((digs m).getD (j - 1) 0) :: digs (r))))] (intC ((sg (false) (val (((digs m).getD (j - 1) 0) :: digs (r)))))) Gd.none Wr_tC101 rfl (c_wTrimX (false) (((digs m).getD (j - 1) 0) :: digs (r)) (by first | assumption | exact dgn_dig _ _ | exact digs_dig _ | exact Dig.snoc (by assumption) (by assumption) | exact Dig.cons (by omega) (digs_dig _))) ?_
    refine o_fieldS (AV.slc 1 (ns .u32 (digs ((sg (false) (val (((digs m).getD (j - 1) 0) :: digs (r))))).natAbs)) ((digs ((sg (false) (val (((digs m).getD (j - 1) 0) :: digs (r))))).natAbs).length)) Gd.none Wr_tF89_1 Wr_tS87 rfl rfl ?_
    refine n_as (v' := (AV.slc 1 (ns .u32 (digs (((digs m).getD (j - 1) 0 + 1000000000 * r)))) ((digs (((digs m).getD (j - 1) 0 + 1000000000 * r))).length))) (by exact nc_sg (by simp only [val, val_digs])) ?_
    refine o_assign (AV.slc 1 (ns .u32 (digs (((digs m).getD (j - 1) 0 + 1000000000 * r)))) ((digs (((digs m).getD (j - 1) 0 + 1000000000 * r))).length)) Gd.none rfl ?_
    refine aops_end ?_
    refine hK8 _ ?_
    refine awp_seq fun K9 hK9 => ?_
    refine awp_seq fun K10 hK10 => ?_
    refine awp_region rfl ?_
    refine o_move (AV.slc 1 (ns .u32 (digs (((digs m).getD (j - 1) 0 + 1000000000 * r)))) ((digs (((digs m).getD (j - 1) 0 + 1000000000 * r))).length)) Gd.none rfl ?_
    refine o_move (AV.sl 1 (ns .u32 (digs n))) Gd.none rfl ?_
    refine o_callG [] [(AV.slc 1 (ns .u32 (digs (((digs m).getD (j - 1) 0 + 1000000000 * r)))) ((digs (((digs m).getD (j - 1) 0 + 1000000000 * r))).length)), (AV.sl 1 (ns .u32 (digs n)))] _ (AV.lit (.int .i64 (cmpN ((((digs m).getD (j - 1) 0 + 1000000000 * r))) (n)))) [(3, (AO.row 122 1 (ns .u32 (o))))] Gd.none Wr_tC103 rfl (trivial) rfl rfl (LeL.cons (AV.le_slc) (LeL.cons (AV.le_refl _) (LeL.nil))) (c_wSize ((((digs m).getD (j - 1) 0 + 1000000000 * r))) (n)) rfl ?_
    refine o_lss (a := (cmpN ((((digs m).getD (j - 1) 0 + 1000000000 * r))) (n))) (c := (((0 : Nat) : Int))) Gd.none rfl rfl ?_
    refine aops_end ?_
    refine hK10 _ ?_
    refine awp_condQ (q := (cmpN ((((digs m).getD (j - 1) 0 + 1000000000 * r))) (n)) < (((0 : Nat) : Int))) rfl (fun h2 => ?_) (fun h2 => ?_)
    · have hXn := cmpN_neg h2
      refine awp_exit ?_
      refine hK7 _ ?_
      refine awp_region rfl ?_
      refine o_move (nm .i64 (j - 1)) Gd.none rfl ?_
      refine o_sub (a := (((j - 1 : Nat) : Int))) (c := (((1 : Nat) : Int))) Gd.none rfl rfl (by exact wrap64 (by omega) (by omega)) ?_
      refine o_assign (AV.lit (.int .i64 ((((j - 1 : Nat) : Int)) - (((1 : Nat) : Int))))) Gd.none rfl ?_
      refine aops_end ?_
      refine ⟨_, _, ?lt, ⟨j - 1, o, ((digs m).getD (j - 1) 0 + 1000000000 * r), (by omega), hl, hd, (fun k hk => hz k (by omega)), hXn, (quo_skip (by omega) hl (by rw [Nat.sub_add_cancel (by omega)]; exact hv) (hz _ (by omega)) hXn), rfl, rfl⟩, ?wk⟩
      case lt => omega
      case wk => exact Wk.sub (And.intro (by exact rfl) (And.intro (by exact rfl) (And.intro (by exact rfl) (And.intro (by first | rfl | exact int_eq (by omega) | exact int_nm (by omega)) (And.intro (by first | rfl | (simp)) (trivial)))))) (And.intro (by first | rfl | exact row_ns (by simp) | exact congrArg (fun x => some (AO.blk (.stringIter _ x))) (by omega)) (trivial))
    · have hXn := cmpN_nneg h2
      refine awp_skip ?_
      refine hK9 _ ?_
      refine awp_seq fun K11 hK11 => ?_
      refine awp_region rfl ?_
      refine o_assign (nm .u64 (0)) Gd.none rfl ?_
      refine o_assign (nm .u64 (1000000000)) Gd.none rfl ?_
      refine aops_end ?_
      refine hK11 _ ?_
      refine awp_seq fun K12 hK12 => ?_
      refine awp_block ?_
      refine awp_loopR (fun κ σ => ∃ (l : Nat), ∃ (h : Nat), (l < h) ∧ (h ≤ 1000000000) ∧ (n * l ≤ ((digs m).getD (j - 1) 0 + 1000000000 * r)) ∧ (((digs m).getD (j - 1) 0 + 1000000000 * r) < n * h) ∧ (h - l) = κ ∧ σ = ⟨[(0, (AV.sl 1 (ns .u32 (digs m)))), (1, (AV.sl 1 (ns .u32 (digs n)))), (6, (AV.row 3)), (8, (nm .i64 (j - 1))), (7, (AV.slc 1 (ns .u32 (digs (((digs m).getD (j - 1) 0 + 1000000000 * r)))) ((digs (((digs m).getD (j - 1) 0 + 1000000000 * r))).length))), (9, (nm .u64 (l))), (10, (nm .u64 (h)))], [(3, (AO.row 122 1 (ns .u32 (o))))]⟩) ⟨_, _, ⟨0, 1000000000, (by decide), (Nat.le_refl _), (by rw [Nat.mul_zero]; exact Nat.zero_le _), hXt, rfl, rfl⟩, ?wk1⟩ ?rd1
      case wk1 =>
        exact Wk.sub (And.intro (by exact rfl) (And.intro (by exact rfl) (And.intro (by exact rfl) (And.intro (by exact rfl) (And.intro (by exact rfl) (And.intro (by first | rfl | exact congrArg (nm _) (by omega) | exact nm_int (by omega) | exact nm_int (by simp [IntKind.wrap, IntKind.bits, IntKind.signed]; omega)) (And.intro (by first | rfl | exact congrArg (nm _) (by omega) | exact nm_int (by omega) | exact nm_int (by simp [IntKind.wrap, IntKind.bits, IntKind.signed]; omega)) (trivial)))))))) (And.intro (by first | rfl | exact row_ns (by simp) | exact congrArg (fun x => some (AO.blk (.stringIter _ x))) (by omega)) (trivial))
      rintro κ _ ⟨l, h, hlh, hh, hlo, hhi, rfl, rfl⟩
      have hml := digs_mul_len n ((l + h) / 2)
      have hmd := digs_len_small (n := (l + h) / 2) (by omega)
      have hnl := digs_len_le hlo
      refine awp_seq fun K13 hK13 => ?_
      refine awp_seq fun K14 hK14 => ?_
      refine awp_region rfl ?_
      refine o_move (nm .u64 (h)) Gd.none rfl ?_
      refine o_move (nm .u64 (l)) Gd.none rfl ?_
      refine n_sub (h) (l) Gd.none rfl rfl (by omega) (by simp only [topOf]; omega) ?_
      refine n_gtr ((h) - (l)) (1) Gd.none rfl rfl ?_
      refine aops_end ?_
      refine hK14 _ ?_
      refine awp_condQ (q := (1) < ((h) - (l))) rfl (fun h3 => ?_) (fun h3 => ?_)
      · refine awp_skip ?_
        refine hK13 _ ?_
        refine awp_block ?_
        refine awp_seq fun K15 hK15 => ?_
        refine awp_region rfl ?_
        refine o_move (nm .u64 (l)) Gd.none rfl ?_
        refine o_move (nm .u64 (h)) Gd.none rfl ?_
        refine n_add (l) (h) Gd.none rfl rfl (by simp only [topOf]; omega) ?_
        refine n_quo ((l) + (h)) (2) Gd.none rfl rfl (by omega) (by simp only [topOf]; omega) ?_
        refine o_assign (nm .u64 (((l) + (h)) / (2))) Gd.none rfl ?_
        refine aops_end ?_
        refine hK15 _ ?_
        refine awp_seq fun K16 hK16 => ?_
        refine awp_region rfl ?_
        refine o_move (AV.sl 1 (ns .u32 (digs n))) Gd.none rfl ?_
        refine o_move (nm .u64 (((l) + (h)) / (2))) Gd.none rfl ?_
        refine o_call [(AV.sl 1 (ns .u32 (digs n))), (nm .u64 (((l) + (h)) / (2)))] (AV.sl 1 (ns .u32 (digs (n * (((l) + (h)) / (2)))))) Gd.none Wr_tC114 rfl (c_wTimes (n) (((l) + (h)) / (2)) (by omega) (by omega)) ?_
        refine o_move (AV.slc 1 (ns .u32 (digs (((digs m).getD (j - 1) 0 + 1000000000 * r)))) ((digs (((digs m).getD (j - 1) 0 + 1000000000 * r))).length)) Gd.none rfl ?_
        refine o_callG [] [(AV.sl 1 (ns .u32 (digs (n * (((l) + (h)) / (2)))))), (AV.slc 1 (ns .u32 (digs (((digs m).getD (j - 1) 0 + 1000000000 * r)))) ((digs (((digs m).getD (j - 1) 0 + 1000000000 * r))).length))] _ (AV.lit (.int .i64 (cmpN ((n * (((l) + (h)) / (2)))) ((((digs m).getD (j - 1) 0 + 1000000000 * r)))))) [(3, (AO.row 122 1 (ns .u32 (o))))] Gd.none Wr_tC103 rfl (trivial) rfl rfl (LeL.cons (AV.le_refl _) (LeL.cons (AV.le_slc) (LeL.nil))) (c_wSize ((n * (((l) + (h)) / (2)))) ((((digs m).getD (j - 1) 0 + 1000000000 * r)))) rfl ?_
        refine o_leq (a := (cmpN ((n * (((l) + (h)) / (2)))) ((((digs m).getD (j - 1) 0 + 1000000000 * r))))) (c := (((0 : Nat) : Int))) Gd.none rfl rfl ?_
        refine aops_end ?_
        refine hK16 _ ?_
        refine awp_condQ (q := (cmpN ((n * (((l) + (h)) / (2)))) ((((digs m).getD (j - 1) 0 + 1000000000 * r)))) ≤ (((0 : Nat) : Int))) rfl (fun h4 => ?_) (fun h4 => ?_)
        · refine awp_region rfl ?_
          refine o_move (nm .u64 (((l) + (h)) / (2))) Gd.none rfl ?_
          refine o_assign (nm .u64 (((l) + (h)) / (2))) Gd.none rfl ?_
          refine aops_end ?_
          refine ⟨_, _, ?lt, ⟨(l + h) / 2, h, (by omega), hh, (cmpN_le h4), hhi, rfl, rfl⟩, ?wk⟩
          case lt => omega
          case wk => exact Wk.sub (And.intro (by exact rfl) (And.intro (by exact rfl) (And.intro (by exact rfl) (And.intro (by exact rfl) (And.intro (by exact rfl) (And.intro (by first | rfl | exact congrArg (nm _) (by omega) | exact nm_int (by omega) | exact nm_int (by simp [IntKind.wrap, IntKind.bits, IntKind.signed]; omega)) (And.intro (by exact rfl) (trivial)))))))) (And.intro (by first | rfl | exact row_ns (by simp) | exact congrArg (fun x => some (AO.blk (.stringIter _ x))) (by omega)) (trivial))
        · refine awp_region rfl ?_
          refine o_move (nm .u64 (((l) + (h)) / (2))) Gd.none rfl ?_
          refine o_assign (nm .u64 (((l) + (h)) / (2))) Gd.none rfl ?_
          refine aops_end ?_
          refine ⟨_, _, ?lt, ⟨l, (l + h) / 2, (by omega), (by omega), hlo, (cmpN_nle h4), rfl, rfl⟩, ?wk⟩
          case lt => omega
          case wk => exact Wk.sub (And.intro (by exact rfl) (And.intro (by exact rfl) (And.intro (by exact rfl) (And.intro (by exact rfl) (And.intro (by exact rfl) (And.intro (by exact rfl) (And.intro (by first | rfl | exact congrArg (nm _) (by omega) | exact nm_int (by omega) | exact nm_int (by simp [IntKind.wrap, IntKind.bits, IntKind.signed]; omega)) (trivial)))))))) (And.intro (by first | rfl | exact row_ns (by simp) | exact congrArg (fun x => some (AO.blk (.stringIter _ x))) (by omega)) (trivial))
      · have hh1 : h = l + 1 := by omega
        have hend := hhi
        rw [hh1] at hend
        refine awp_exit ?_
        refine hK12 _ ?_
        refine awp_seq fun K17 hK17 => ?_
        refine awp_region rfl ?_
        refine o_move (AV.row 3) Gd.none rfl ?_
        refine o_move (nm .i64 (j - 1)) Gd.none rfl ?_
        refine o_move (nm .u64 (l)) Gd.none rfl ?_
        refine n_conv (l) Gd.none rfl Wr_tI117 Wr_tI122 (by simp only [topOf]; omega) ?_
        refine n_indexRow (o) (j - 1) Gd.none Wr_tE87 rfl rfl rfl (by omega) ?_
        refine n_storeRow (o) (j - 1) (l) [(3, (AO.row 122 1 (ns .u32 ((o).set (j - 1) (l)))))] Gd.none Wr_tZ122 rfl rfl rfl (by omega) rfl ?_
        refine aops_end ?_
        refine hK17 _ ?_
        refine awp_region rfl ?_
        refine o_move (AV.slc 1 (ns .u32 (digs (((digs m).getD (j - 1) 0 + 1000000000 * r)))) ((digs (((digs m).getD (j - 1) 0 + 1000000000 * r))).length)) Gd.none rfl ?_
        refine o_move (AV.sl 1 (ns .u32 (digs n))) Gd.none rfl ?_
        refine o_move (nm .u64 (l)) Gd.none rfl ?_
        refine o_call [(AV.sl 1 (ns .u32 (digs n))), (nm .u64 (l))] (AV.sl 1 (ns .u32 (digs (n * (l))))) Gd.none Wr_tC114 rfl (c_wTimes (n) (l) (by omega) (by omega)) ?_
        refine o_callG [] [(AV.slc 1 (ns .u32 (digs (((digs m).getD (j - 1) 0 + 1000000000 * r)))) ((digs (((digs m).getD (j - 1) 0 + 1000000000 * r))).length)), (AV.sl 1 (ns .u32 (digs (n * (l)))))] _ (AV.sl 1 (ns .u32 (dgn (digs ((((digs m).getD (j - 1) 0 + 1000000000 * r)))).length ((((digs m).getD (j - 1) 0 + 1000000000 * r)) - (n * (l)))))) [(3, (AO.row 122 1 (ns .u32 ((o).set (j - 1) (l)))))] Gd.none Wr_tC107 rfl (trivial) rfl rfl (LeL.cons (AV.le_slc) (LeL.cons (AV.le_refl _) (LeL.nil))) (c_wLess ((((digs m).getD (j - 1) 0 + 1000000000 * r))) ((n * (l))) (by omega) (by omega) (by omega)) rfl ?_
        refine o_call [(AV.lit (.bool false)), (AV.sl 1 (ns .u32 (dgn (digs ((((digs m).getD (j - 1) 0 + 1000000000 * r)))).length ((((digs m).getD (j - 1) 0 + 1000000000 * r)) - (n * (l))))))] (intC ((sg (false) (val (dgn (digs ((((digs m).getD (j - 1) 0 + 1000000000 * r)))).length ((((digs m).getD (j - 1) 0 + 1000000000 * r)) - (n * (l)))))))) Gd.none Wr_tC101 rfl (c_wTrimX (false) (dgn (digs ((((digs m).getD (j - 1) 0 + 1000000000 * r)))).length ((((digs m).getD (j - 1) 0 + 1000000000 * r)) - (n * (l)))) (by first | assumption | exact dgn_dig _ _ | exact digs_dig _ | exact Dig.snoc (by assumption) (by assumption) | exact Dig.cons (by omega) (digs_dig _))) ?_
        refine o_fieldS (AV.slc 1 (ns .u32 (digs ((sg (false) (val (dgn (digs ((((digs m).getD (j - 1) 0 + 1000000000 * r)))).length ((((digs m).getD (j - 1) 0 + 1000000000 * r)) - (n * (l))))))).natAbs)) ((digs ((sg (false) (val (dgn (digs ((((digs m).getD (j - 1) 0 + 1000000000 * r)))).length ((((digs m).getD (j - 1) 0 + 1000000000 * r)) - (n * (l))))))).natAbs).length)) Gd.none Wr_tF89_1 Wr_tS87 rfl rfl ?_
        refine n_as (v' := (AV.slc 1 (ns .u32 (digs (((digs m).getD (j - 1) 0 + 1000000000 * r) - n * l))) ((digs (((digs m).getD (j - 1) 0 + 1000000000 * r) - n * l)).length))) (by exact nc_sg (val_minus _ _)) ?_
        refine o_assign (AV.slc 1 (ns .u32 (digs (((digs m).getD (j - 1) 0 + 1000000000 * r) - n * l))) ((digs (((digs m).getD (j - 1) 0 + 1000000000 * r) - n * l)).length)) Gd.none rfl ?_
        refine aops_end ?_
        refine hK7 _ ?_
        refine awp_region rfl ?_
        refine o_move (nm .i64 (j - 1)) Gd.none rfl ?_
        refine o_sub (a := (((j - 1 : Nat) : Int))) (c := (((1 : Nat) : Int))) Gd.none rfl rfl (by exact wrap64 (by omega) (by omega)) ?_
        refine o_assign (AV.lit (.int .i64 ((((j - 1 : Nat) : Int)) - (((1 : Nat) : Int))))) Gd.none rfl ?_
        refine aops_end ?_
        refine ⟨_, _, ?lt, ⟨j - 1, o.set (j - 1) l, ((digs m).getD (j - 1) 0 + 1000000000 * r) - n * l, (by omega), (by simp only [List.length_set]; exact hl), (hd.set (by omega)), (fun k hk => by rw [getD_set_off (by omega)]; exact hz k (by omega)), (quo_rest hlo hend), (quo_put (by omega) hl (by rw [Nat.sub_add_cancel (by omega)]; exact hv) hlo hend), rfl, rfl⟩, ?wk⟩
        case lt => omega
        case wk => exact Wk.sub (And.intro (by exact rfl) (And.intro (by exact rfl) (And.intro (by exact rfl) (And.intro (by first | rfl | exact int_eq (by omega) | exact int_nm (by omega)) (And.intro (by first | rfl | (simp)) (trivial)))))) (And.intro (by first | rfl | exact row_ns (by simp) | exact congrArg (fun x => some (AO.blk (.stringIter _ x))) (by omega)) (trivial))
  · have hj0 : j = 0 := by omega
    have hv0 := hv
    rw [hj0] at hv0
    have hE := div_end hr hv0
    refine awp_exit ?_
    refine hK3 _ ?_
    refine awp_seq fun K18 hK18 => ?_
    refine awp_region rfl ?_
    refine o_move (AV.row 3) Gd.none rfl ?_
    refine o_move (AV.slc 1 (ns .u32 (digs (r))) ((digs (r)).length)) Gd.none rfl ?_
    refine o_assign (AV.row 3) Gd.none rfl ?_
    refine o_assign (AV.slc 1 (ns .u32 (digs (r))) ((digs (r)).length)) Gd.none rfl ?_
    refine aops_end ?_
    refine hK18 _ ?_
    refine awp_wk (σ' := ⟨[(4, (AV.row 3)), (5, (AV.slc 1 (ns .u32 (digs (r))) ((digs (r)).length)))], [(3, (AO.row 122 1 (ns .u32 (o))))]⟩) (Wk.sub (And.intro rfl (And.intro rfl (trivial))) (And.intro rfl (trivial))) ?_
    refine awp_wk (σ' := ⟨[(4, (AV.sl 1 (ns .u32 (o)))), (5, (AV.slc 1 (ns .u32 (digs (r))) ((digs (r)).length)))], []⟩) (Wk.freeze (id := 3) (e := 122) (sz := 1) (cs := (ns .u32 (o))) rfl) ?_
    refine awp_ret ?_
    refine post_ret ⟨[(AV.sl 1 (ns .u32 (o))), (AV.sl 1 (ns .u32 (digs (r))))], And.intro (AV.le_refl _) (And.intro (AV.le_slc) (trivial)), rfl, ?_⟩
    exact tup_eq2 (ns_congr (dgn_eq hd hl hE.1).symm) (ns_congr (by rw [← hE.2]))

end Go.Proofs.YtkngglpnejdicaaDoor
