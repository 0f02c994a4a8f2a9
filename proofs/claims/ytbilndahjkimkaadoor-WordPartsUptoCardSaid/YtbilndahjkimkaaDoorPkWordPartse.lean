/- The law 'katabasislaw03.WordParts' is true for every map and two lists (of a bulk of at most 1048576): the linear map of a word u followed by a word v is that of u and then that of v. Its condition: none but the row's own (the listed tables of the library). -/
import Derived.Test.YtbilndahjkimkaaDoorPkWordPartsd
set_option linter.unusedVariables false
set_option linter.unusedSimpArgs false
namespace Go.Proofs.YtbilndahjkimkaaDoor
open Go Go.Ab Go.Mth
theorem Wr_tO79 : tyZero cx.P 79 = some [(Go.Value.bool false), (Go.Value.slice none 0 0)] := by kernel_rfl
theorem Wr_tU77 : cx.P.underlying 77 = some (.slice 115) := by kernel_rfl
theorem Wr_tE77 : tyElem cx.P 77 = some (115, 1, 4) := by kernel_rfl
theorem Wr_tS115 : tySc cx.P 115 = true := by kernel_rfl
theorem Wr_tP79 : tyPlaces cx.P 79 = some (fun i => (#[(0, 1), (1, 1)] : Array (Nat × Nat))[i]?) := by kernel_rfl
theorem Wr_tZ79 : tySize cx.P 79 = some 2 := by kernel_rfl
theorem Wr_tA79 : tyAgg cx.P 79 = some 2 := by kernel_rfl
theorem Wr_tO115 : tyZero cx.P 115 = some [(Go.Value.int IntKind.u32 0)] := by kernel_rfl
theorem Wr_tI115 : tyInt cx.P 115 = some .u32 := by kernel_rfl
theorem Wr_tI110 : tyInt cx.P 110 = some .u64 := by kernel_rfl
theorem Wr_tC81 : callable cx.P 81 = true := by kernel_rfl
theorem Wr_tF79_1 : tyField cx.P 79 1 = some (1, 77) := by kernel_rfl
theorem Wr_tS77 : tySc cx.P 77 = true := by kernel_rfl
theorem Wr_tC96 : callable cx.P 96 = true := by kernel_rfl
theorem Wr_tC87 : callable cx.P 87 = true := by kernel_rfl
theorem Wr_tC97 : callable cx.P 97 = true := by kernel_rfl
theorem Wr_tZ115 : tySize cx.P 115 = some 1 := by kernel_rfl
theorem Wr_tC88 : callable cx.P 88 = true := by kernel_rfl
theorem c_wTrimX (neg : Bool) (xs : List Nat) (hx : Dig xs) : ECalls cx 81 [(AV.lit (.bool (neg))), (AV.sl 1 (ns .u32 (xs)))] (intC (sg neg (val xs))) := by
  refine ecalls_of_awp Tryd.func81 (c := _) rfl (Nat.le_of_ble_eq_true rfl) ?_
  show awp cx 30 _ (postF cx Tryd.f81 _) ⟨[(0, (AV.lit (.bool (neg)))), (1, (AV.sl 1 (ns .u32 (xs))))], []⟩
  refine awp_bound (i := 1) rfl fun hb => ?_
  replace hb := n_bnd hb
  refine awp_seq fun K0 hK0 => ?_
  refine awp_region rfl ?_
  refine o_alloc 2 [(AV.lit (.bool false)), (AV.lit (.slice none 0 0))] Gd.none Wr_tO79 rfl rfl rfl ?_
  refine aops_end ?_
  refine hK0 _ ?_
  refine awp_seq fun K1 hK1 => ?_
  refine awp_region rfl ?_
  refine o_move (AV.sl 1 (ns .u32 (xs))) Gd.none rfl ?_
  refine n_len (xs) Gd.none Wr_tU77 rfl ?_
  refine o_assign (nm .i64 ((xs).length)) Gd.none rfl ?_
  refine aops_end ?_
  refine hK1 _ ?_
  refine awp_seq fun K2 hK2 => ?_
  refine awp_block ?_
  refine awp_loopR (fun κ σ => ∃ (n : Nat), (n ≤ xs.length) ∧ (val (xs.take n) = val xs) ∧ (n) = κ ∧ σ = ⟨[(0, (AV.lit (.bool (neg)))), (1, (AV.sl 1 (ns .u32 (xs)))), (4, (AV.ref 2 (0))), (5, (nm .i64 (n)))], [(2, (AO.var 79 [(AV.lit (.bool false)), (AV.lit (.slice none 0 0))]))]⟩) ⟨_, _, ⟨xs.length, (Nat.le_refl _), (by rw [List.take_length]), rfl, rfl⟩, ?wk0⟩ ?rd0
  case wk0 =>
    exact Wk.sub (And.intro (by exact rfl) (And.intro (by exact rfl) (And.intro (by exact rfl) (And.intro (by first | rfl | exact congrArg (nm _) (by omega) | exact nm_int (by omega) | exact nm_int (by simp [IntKind.wrap, IntKind.bits, IntKind.signed]; omega)) (trivial))))) (And.intro (by first | rfl | exact row_ns (by simp) | exact congrArg (fun x => some (AO.blk (.stringIter _ x))) (by omega)) (trivial))
  rintro κ _ ⟨n, hn, hv, rfl, rfl⟩
  refine awp_seq fun K3 hK3 => ?_
  refine awp_seq fun K4 hK4 => ?_
  refine awp_region rfl ?_
  refine o_move (nm .i64 (n)) Gd.none rfl ?_
  refine n_gtr (n) (0) Gd.none rfl rfl ?_
  refine o_move (bp ((0) < (n))) Gd.none rfl ?_
  refine o_splitP (q := (0) < (n)) 10 rfl (fun h1 => ?_) (fun h1 => ?_)
  · refine o_move (AV.sl 1 (ns .u32 (xs))) (Gd.yes rfl rfl (decide_eq_true h1)) rfl ?_
    refine o_move (nm .i64 (n)) (Gd.yes rfl rfl (decide_eq_true h1)) rfl ?_
    refine n_sub (n) (1) (Gd.yes rfl rfl (decide_eq_true h1)) rfl rfl (by omega) (by simp only [topOf]; omega) ?_
    refine n_index (xs) ((n) - (1)) (Gd.yes rfl rfl (decide_eq_true h1)) Wr_tE77 rfl rfl (by omega) ?_
    refine n_loadI (xs) ((n) - (1)) (Gd.yes rfl rfl (decide_eq_true h1)) Wr_tS115 rfl (by omega) ?_
    refine n_eql ((xs).getD ((n) - (1)) 0) (0) (Gd.yes rfl rfl (decide_eq_true h1)) rfl rfl ?_
    refine o_pickT (b := decide ((0) < (n))) (bp (((xs).getD ((n) - (1)) 0) = (0))) Gd.none rfl (decide_eq_true h1) rfl ?_
    refine aops_end ?_
    refine hK4 _ ?_
    refine awp_condQ (q := ((xs).getD ((n) - (1)) 0) = (0)) rfl (fun h2 => ?_) (fun h2 => ?_)
    · refine awp_skip ?_
      refine hK3 _ ?_
      refine awp_block ?_
      refine awp_region rfl ?_
      refine o_move (nm .i64 (n)) Gd.none rfl ?_
      refine n_sub (n) (1) Gd.none rfl rfl (by omega) (by simp only [topOf]; omega) ?_
      refine o_assign (nm .i64 ((n) - (1))) Gd.none rfl ?_
      refine aops_end ?_
      refine ⟨_, _, ?lt, ⟨n - 1, (by omega), (by rw [← take_getD_zero (by assumption) hn (by assumption)]; exact hv), rfl, rfl⟩, ?wk⟩
      case lt => omega
      case wk => exact Wk.sub (And.intro (by exact rfl) (And.intro (by exact rfl) (And.intro (by exact rfl) (And.intro (by first | rfl | exact congrArg (nm _) (by omega) | exact nm_int (by omega) | exact nm_int (by simp [IntKind.wrap, IntKind.bits, IntKind.signed]; omega)) (trivial))))) (And.intro (by first | rfl | exact row_ns (by simp) | exact congrArg (fun x => some (AO.blk (.stringIter _ x))) (by omega)) (trivial))
    · refine awp_exit ?_
      refine hK2 _ ?_
      refine awp_seq fun K5 hK5 => ?_
      refine awp_region rfl ?_
      refine o_move (AV.lit (.bool (neg))) Gd.none rfl ?_
      refine o_move (AV.lit (.bool (neg))) Gd.none rfl ?_
      refine o_split (b := neg) 21 rfl (fun h3 => ?_) (fun h3 => ?_)
      · refine o_move (nm .i64 (n)) (Gd.yes rfl rfl h3) rfl ?_
        refine n_gtr (n) (0) (Gd.yes rfl rfl h3) rfl rfl ?_
        refine o_pickT (b := neg) (bp ((0) < (n))) Gd.none rfl h3 rfl ?_
        refine o_move (AV.sl 1 (ns .u32 (xs))) Gd.none rfl ?_
        refine o_move (nm .i64 (n)) Gd.none rfl ?_
        refine o_move (nm .i64 (n)) Gd.none rfl ?_
        refine n_sliceX (xs) (0) (n) Gd.none Wr_tE77 rfl rfl (hi_nm rfl) (mx_nm rfl) rfl (by omega) (by omega) ?_
        refine o_build [(bp ((0) < (n))), (AV.slc 1 (ns .u32 (((xs).drop (0)).take (n - 0))) (n - 0))] [(0, [(bp ((0) < (n)))]), (1, [(AV.slc 1 (ns .u32 (((xs).drop (0)).take (n - 0))) (n - 0))])] Gd.none Wr_tP79 Wr_tO79 rfl rfl rfl ?_
        refine o_store [(2, (AO.var 79 [(bp ((0) < (n))), (AV.slc 1 (ns .u32 (((xs).drop (0)).take (n - 0))) (n - 0))]))] Gd.none Wr_tZ79 rfl rfl rfl rfl rfl rfl ?_
        refine aops_end ?_
        refine hK5 _ ?_
        refine awp_ret ?_
        refine post_ret ⟨[(AV.agg [(bp ((0) < (n))), (AV.slc 1 (ns .u32 (((xs).drop (0)).take (n - 0))) (n - 0))])], And.intro ⟨2, (AO.var 79 [(bp ((0) < (n))), (AV.slc 1 (ns .u32 (((xs).drop (0)).take (n - 0))) (n - 0))]), rfl, rfl, rfl, Or.inl ⟨Wr_tA79, AV.le_refl _⟩⟩ (trivial), rfl, ?_⟩
        subst h3
        exact (trimc_fin (neg := true) hx hn hv (by first | (left; omega) | (right; assumption))).symm
      · refine o_skip (b := neg) rfl rfl h3 ?_
        refine o_skip (b := neg) rfl rfl h3 ?_
        refine o_pickF (b := neg) (AV.lit (.bool false)) Gd.none rfl h3 rfl ?_
        refine o_move (AV.sl 1 (ns .u32 (xs))) Gd.none rfl ?_
        refine o_move (nm .i64 (n)) Gd.none rfl ?_
        refine o_move (nm .i64 (n)) Gd.none rfl ?_
        refine n_sliceX (xs) (0) (n) Gd.none Wr_tE77 rfl rfl (hi_nm rfl) (mx_nm rfl) rfl (by omega) (by omega) ?_
        refine o_build [(AV.lit (.bool false)), (AV.slc 1 (ns .u32 (((xs).drop (0)).take (n - 0))) (n - 0))] [(0, [(AV.lit (.bool false))]), (1, [(AV.slc 1 (ns .u32 (((xs).drop (0)).take (n - 0))) (n - 0))])] Gd.none Wr_tP79 Wr_tO79 rfl rfl rfl ?_
        refine o_store [(2, (AO.var 79 [(AV.lit (.bool false)), (AV.slc 1 (ns .u32 (((xs).drop (0)).take (n - 0))) (n - 0))]))] Gd.none Wr_tZ79 rfl rfl rfl rfl rfl rfl ?_
        refine aops_end ?_
        refine hK5 _ ?_
        refine awp_ret ?_
        refine post_ret ⟨[(AV.agg [(AV.lit (.bool false)), (AV.slc 1 (ns .u32 (((xs).drop (0)).take (n - 0))) (n - 0))])], And.intro ⟨2, (AO.var 79 [(AV.lit (.bool false)), (AV.slc 1 (ns .u32 (((xs).drop (0)).take (n - 0))) (n - 0))]), rfl, rfl, rfl, Or.inl ⟨Wr_tA79, AV.le_refl _⟩⟩ (trivial), rfl, ?_⟩
        subst h3
        exact (trimc_fin (neg := false) hx hn hv (by first | (left; omega) | (right; assumption))).symm
  · refine o_skip (b := decide ((0) < (n))) rfl rfl (decide_eq_false h1) ?_
    refine o_skip (b := decide ((0) < (n))) rfl rfl (decide_eq_false h1) ?_
    refine o_skip (b := decide ((0) < (n))) rfl rfl (decide_eq_false h1) ?_
    refine o_skip (b := decide ((0) < (n))) rfl rfl (decide_eq_false h1) ?_
    refine o_skip (b := decide ((0) < (n))) rfl rfl (decide_eq_false h1) ?_
    refine o_skip (b := decide ((0) < (n))) rfl rfl (decide_eq_false h1) ?_
    refine o_pickF (b := decide ((0) < (n))) (AV.lit (.bool false)) Gd.none rfl (decide_eq_false h1) rfl ?_
    refine aops_end ?_
    refine hK4 _ ?_
    refine awp_condB (b := false) rfl (fun hh => absurd (hh.symm.trans rfl) (by decide)) (fun _ => ?_)
    refine awp_exit ?_
    refine hK2 _ ?_
    refine awp_seq fun K6 hK6 => ?_
    refine awp_region rfl ?_
    refine o_move (AV.lit (.bool (neg))) Gd.none rfl ?_
    refine o_move (AV.lit (.bool (neg))) Gd.none rfl ?_
    refine o_split (b := neg) 21 rfl (fun h4 => ?_) (fun h4 => ?_)
    · refine o_move (nm .i64 (n)) (Gd.yes rfl rfl h4) rfl ?_
      refine n_gtr (n) (0) (Gd.yes rfl rfl h4) rfl rfl ?_
      refine o_pickT (b := neg) (bp ((0) < (n))) Gd.none rfl h4 rfl ?_
      refine o_move (AV.sl 1 (ns .u32 (xs))) Gd.none rfl ?_
      refine o_move (nm .i64 (n)) Gd.none rfl ?_
      refine o_move (nm .i64 (n)) Gd.none rfl ?_
      refine n_sliceX (xs) (0) (n) Gd.none Wr_tE77 rfl rfl (hi_nm rfl) (mx_nm rfl) rfl (by omega) (by omega) ?_
      refine o_build [(bp ((0) < (n))), (AV.slc 1 (ns .u32 (((xs).drop (0)).take (n - 0))) (n - 0))] [(0, [(bp ((0) < (n)))]), (1, [(AV.slc 1 (ns .u32 (((xs).drop (0)).take (n - 0))) (n - 0))])] Gd.none Wr_tP79 Wr_tO79 rfl rfl rfl ?_
      refine o_store [(2, (AO.var 79 [(bp ((0) < (n))), (AV.slc 1 (ns .u32 (((xs).drop (0)).take (n - 0))) (n - 0))]))] Gd.none Wr_tZ79 rfl rfl rfl rfl rfl rfl ?_
      refine aops_end ?_
      refine hK6 _ ?_
      refine awp_ret ?_
      refine post_ret ⟨[(AV.agg [(bp ((0) < (n))), (AV.slc 1 (ns .u32 (((xs).drop (0)).take (n - 0))) (n - 0))])], And.intro ⟨2, (AO.var 79 [(bp ((0) < (n))), (AV.slc 1 (ns .u32 (((xs).drop (0)).take (n - 0))) (n - 0))]), rfl, rfl, rfl, Or.inl ⟨Wr_tA79, AV.le_refl _⟩⟩ (trivial), rfl, ?_⟩
      subst h4
      exact (trimc_fin (neg := true) hx hn hv (by first | (left; omega) | (right; assumption))).symm
    · refine o_skip (b := neg) rfl rfl h4 ?_
      refine o_skip (b := neg) rfl rfl h4 ?_
      refine o_pickF (b := neg) (AV.lit (.bool false)) Gd.none rfl h4 rfl ?_
      refine o_move (AV.sl 1 (ns .u32 (xs))) Gd.none rfl ?_
      refine o_move (nm .i64 (n)) Gd.none rfl ?_
      refine o_move (nm .i64 (n)) Gd.none rfl ?_
      refine n_sliceX (xs) (0) (n) Gd.none Wr_tE77 rfl rfl (hi_nm rfl) (mx_nm rfl) rfl (by omega) (by omega) ?_
      refine o_build [(AV.lit (.bool false)), (AV.slc 1 (ns .u32 (((xs).drop (0)).take (n - 0))) (n - 0))] [(0, [(AV.lit (.bool false))]), (1, [(AV.slc 1 (ns .u32 (((xs).drop (0)).take (n - 0))) (n - 0))])] Gd.none Wr_tP79 Wr_tO79 rfl rfl rfl ?_
      refine o_store [(2, (AO.var 79 [(AV.lit (.bool false)), (AV.slc 1 (ns .u32 (((xs).drop (0)).take (n - 0))) (n - 0))]))] Gd.none Wr_tZ79 rfl rfl rfl rfl rfl rfl ?_
      refine aops_end ?_
      refine hK6 _ ?_
      refine awp_ret ?_
      refine post_ret ⟨[(AV.agg [(AV.lit (.bool false)), (AV.slc 1 (ns .u32 (((xs).drop (0)).take (n - 0))) (n - 0))])], And.intro ⟨2, (AO.var 79 [(AV.lit (.bool false)), (AV.slc 1 (ns .u32 (((xs).drop (0)).take (n - 0))) (n - 0))]), rfl, rfl, rfl, Or.inl ⟨Wr_tA79, AV.le_refl _⟩⟩ (trivial), rfl, ?_⟩
      subst h4
      exact (trimc_fin (neg := false) hx hn hv (by first | (left; omega) | (right; assumption))).symm

theorem c_wTimes (m n : Nat) (hm : (digs m).length ≤ 1000000000) (hn : n < 1000000000) : ECalls cx 97 [(AV.sl 1 (ns .u32 (digs m))), (nm .u64 (n))] (.sl 1 (ns .u32 (digs (m * n)))) := by
  refine ecalls_of_awp Tryd.func97 (c := _) rfl (Nat.le_of_ble_eq_true rfl) ?_
  show awp cx 42 _ (postF cx Tryd.f97 _) ⟨[(0, (AV.sl 1 (ns .u32 (digs m)))), (1, (nm .u64 (n)))], []⟩
  refine awp_bound (i := 0) rfl fun hb => ?_
  replace hb := n_bnd hb
  refine awp_seq fun K0 hK0 => ?_
  refine awp_region rfl ?_
  refine o_assign (AV.lit (.slice none 0 0)) Gd.none rfl ?_
  refine aops_end ?_
  refine hK0 _ ?_
  refine awp_seq fun K1 hK1 => ?_
  refine awp_region rfl ?_
  refine o_move (AV.sl 1 (ns .u32 (digs m))) Gd.none rfl ?_
  refine n_len (digs m) Gd.none Wr_tU77 rfl ?_
  refine n_add ((digs m).length) (1) Gd.none rfl rfl (by simp only [topOf]; omega) ?_
  refine n_make0 .u32 2 (((digs m).length) + (1)) Gd.none Wr_tE77 Wr_tO115 rfl rfl (by omega) (by omega) rfl ?_
  refine o_assign (AV.row 2) Gd.none rfl ?_
  refine aops_end ?_
  refine hK1 _ ?_
  refine awp_seq fun K2 hK2 => ?_
  refine awp_region rfl ?_
  refine o_assign (nm .u64 (0)) Gd.none rfl ?_
  refine aops_end ?_
  refine hK2 _ ?_
  refine awp_seq fun K3 hK3 => ?_
  refine awp_seq fun K4 hK4 => ?_
  refine awp_region rfl ?_
  refine o_move (AV.sl 1 (ns .u32 (digs m))) Gd.none rfl ?_
  refine n_len (digs m) Gd.none Wr_tU77 rfl ?_
  refine o_move (nm .i64 (0)) Gd.none rfl ?_
  refine aops_end ?_
  refine hK4 _ ?_
  refine awp_block ?_
  refine awp_loopR (fun κ σ => ∃ (i : Nat), ∃ (r : List Nat), ∃ (c : Nat), (r.length = i) ∧ (i ≤ (digs m).length) ∧ (Dig r) ∧ (c < 1000000000) ∧ (val r + 1000000000 ^ i * c = val ((digs m).take i) * n) ∧ ((digs m).length - i) = κ ∧ σ = ⟨[(1, (nm .u64 (n))), (5, (AV.row 3)), (6, (nm .u64 (c))), (14, (AV.sl 1 (ns .u32 (digs m)))), (15, (nm .i64 ((digs m).length))), (16, (nm .i64 (i)))], [(3, (AO.row 115 1 (ns .u32 (r))))]⟩) ⟨_, _, ⟨0, [], 0, rfl, (by omega), Dig.nil, (by omega), (by simp [val]), rfl, rfl⟩, ?wk0⟩ ?rd0
  case wk0 =>
    exact Wk.trans (Wk.sub (σ' := ⟨[(1, (nm .u64 (n))), (5, (AV.row 2)), (6, (nm .u64 (0))), (14, (AV.sl 1 (ns .u32 (digs m)))), (15, (nm .i64 ((digs m).length))), (16, (nm .i64 (0)))], [(2, (AO.row 115 1 (ns .u32 ([]))))]⟩) (And.intro rfl (And.intro rfl (And.intro rfl (And.intro rfl (And.intro rfl (And.intro rfl (trivial))))))) (And.intro rfl (trivial))) (Wk.trans (Wk.ren (id := 2) (id' := 3) rfl) (Wk.sub (And.intro (by exact rfl) (And.intro (by first | rfl | (simp)) (And.intro (by first | rfl | exact congrArg (nm _) (by omega) | exact nm_int (by omega) | exact nm_int (by simp [IntKind.wrap, IntKind.bits, IntKind.signed]; omega)) (And.intro (by exact rfl) (And.intro (by exact rfl) (And.intro (by first | rfl | exact congrArg (nm _) (by omega) | exact nm_int (by omega) | exact nm_int (by simp [IntKind.wrap, IntKind.bits, IntKind.signed]; omega)) (trivial))))))) (And.intro (by first | rfl | exact row_ns (by simp) | exact congrArg (fun x => some (AO.blk (.stringIter _ x))) (by omega)) (trivial))))
  rintro κ _ ⟨i, r, c, hl, hi, hd, hc, hv, rfl, rfl⟩
  have hA := Dig.getD (digs_dig m) i
  have hAn : ((digs m).getD (i) 0) * n ≤ 999999999 * 999999999 := Nat.mul_le_mul (by omega) (by omega)
  refine awp_seq fun K5 hK5 => ?_
  refine awp_region rfl ?_
  refine n_lss (i) ((digs m).length) Gd.none rfl rfl ?_
  refine aops_end ?_
  refine hK5 _ ?_
  refine awp_seq fun K6 hK6 => ?_
  refine awp_condQ (q := (i) < ((digs m).length)) rfl (fun h1 => ?_) (fun h1 => ?_)
  · refine awp_skip ?_
    refine hK6 _ ?_
    refine awp_seq fun K7 hK7 => ?_
    refine awp_block ?_
    refine awp_seq fun K8 hK8 => ?_
    refine awp_region rfl ?_
    refine n_index (digs m) (i) Gd.none Wr_tE77 rfl rfl (by omega) ?_
    refine n_loadI (digs m) (i) Gd.none Wr_tS115 rfl (by omega) ?_
    refine o_assign (nm .u32 ((digs m).getD (i) 0)) Gd.none rfl ?_
    refine aops_end ?_
    refine hK8 _ ?_
    refine awp_seq fun K9 hK9 => ?_
    refine awp_region rfl ?_
    refine o_move (nm .u32 ((digs m).getD (i) 0)) Gd.none rfl ?_
    refine n_conv ((digs m).getD (i) 0) Gd.none rfl Wr_tI115 Wr_tI110 (by simp only [topOf]; omega) ?_
    refine o_move (nm .u64 (n)) Gd.none rfl ?_
    refine n_mul ((digs m).getD (i) 0) (n) Gd.none rfl rfl (by simp only [topOf]; omega) ?_
    refine o_move (nm .u64 (c)) Gd.none rfl ?_
    refine n_add (((digs m).getD (i) 0) * (n)) (c) Gd.none rfl rfl (by simp only [topOf]; omega) ?_
    refine o_assign (nm .u64 ((((digs m).getD (i) 0) * (n)) + (c))) Gd.none rfl ?_
    refine aops_end ?_
    refine hK9 _ ?_
    refine awp_seq fun K10 hK10 => ?_
    refine awp_region rfl ?_
    refine o_move (AV.row 3) Gd.none rfl ?_
    refine o_move (nm .u64 ((((digs m).getD (i) 0) * (n)) + (c))) Gd.none rfl ?_
    refine n_rem ((((digs m).getD (i) 0) * (n)) + (c)) (1000000000) Gd.none rfl rfl (by omega) ?_
    refine n_conv (((((digs m).getD (i) 0) * (n)) + (c)) % (1000000000)) Gd.none rfl Wr_tI110 Wr_tI115 (by simp only [topOf]; omega) ?_
    refine o_buildSlice 101 (ns .u32 ([((((digs m).getD (i) 0) * (n)) + (c)) % (1000000000)])) [(0, [(nm .u32 (((((digs m).getD (i) 0) * (n)) + (c)) % (1000000000)))])] Gd.none Wr_tE77 rfl Wr_tO115 rfl rfl rfl rfl rfl rfl rfl ?_
    refine n_append 102 (r) ([((((digs m).getD (i) 0) * (n)) + (c)) % (1000000000)]) [(101, (AO.row 115 1 (ns .u32 ([((((digs m).getD (i) 0) * (n)) + (c)) % (1000000000)]))))] Gd.none Wr_tE77 Wr_tO115 rfl rfl rfl rfl rfl (by simp only [List.length_append, List.length_cons, List.length_nil]; omega) (by decide) rfl rfl ?_
    refine o_assign (AV.row 102) Gd.none rfl ?_
    refine aops_end ?_
    refine hK10 _ ?_
    refine awp_region rfl ?_
    refine o_move (nm .u64 ((((digs m).getD (i) 0) * (n)) + (c))) Gd.none rfl ?_
    refine n_quo ((((digs m).getD (i) 0) * (n)) + (c)) (1000000000) Gd.none rfl rfl (by omega) (by simp only [topOf]; omega) ?_
    refine o_assign (nm .u64 (((((digs m).getD (i) 0) * (n)) + (c)) / (1000000000))) Gd.none rfl ?_
    refine aops_end ?_
    refine hK7 _ ?_
    refine awp_region rfl ?_
    refine n_add (i) (1) Gd.none rfl rfl (by simp only [topOf]; omega) ?_
    refine o_move (nm .i64 ((i) + (1))) Gd.none rfl ?_
    refine aops_end ?_
    refine ⟨_, _, ?lt, ⟨i + 1, (r) ++ ([((((digs m).getD (i) 0) * (n)) + (c)) % (1000000000)]), ((((digs m).getD (i) 0) * (n)) + (c)) / (1000000000), (by simp [hl]), (by omega), (hd.snoc (Nat.mod_lt _ (by decide))), (by omega), (times_step hl hv rfl), rfl, rfl⟩, ?wk⟩
    case lt => omega
    case wk => exact Wk.trans (Wk.sub (σ' := ⟨[(1, (nm .u64 (n))), (5, (AV.row 102)), (6, (nm .u64 (((((digs m).getD (i) 0) * (n)) + (c)) / (1000000000)))), (14, (AV.sl 1 (ns .u32 (digs m)))), (15, (nm .i64 ((digs m).length))), (16, (nm .i64 ((i) + (1))))], [(102, (AO.row 115 1 (ns .u32 ((r) ++ ([((((digs m).getD (i) 0) * (n)) + (c)) % (1000000000)])))))]⟩) (And.intro rfl (And.intro rfl (And.intro rfl (And.intro rfl (And.intro rfl (And.intro rfl (trivial))))))) (And.intro rfl (trivial))) (Wk.trans (Wk.ren (id := 102) (id' := 3) rfl) (Wk.sub (And.intro (by exact rfl) (And.intro (by first | rfl | (simp)) (And.intro (by first | rfl | exact congrArg (nm _) (by omega) | exact nm_int (by omega) | exact nm_int (by simp [IntKind.wrap, IntKind.bits, IntKind.signed]; omega)) (And.intro (by exact rfl) (And.intro (by exact rfl) (And.intro (by first | rfl | exact congrArg (nm _) (by omega) | exact nm_int (by omega) | exact nm_int (by simp [IntKind.wrap, IntKind.bits, IntKind.signed]; omega)) (trivial))))))) (And.intro (by first | rfl | exact row_ns (by simp) | exact congrArg (fun x => some (AO.blk (.stringIter _ x))) (by omega)) (trivial))))
  · refine awp_exit ?_
    refine hK3 _ ?_
    refine awp_seq fun K11 hK11 => ?_
    refine awp_region rfl ?_
    refine o_move (AV.row 3) Gd.none rfl ?_
    refine o_move (nm .u64 (c)) Gd.none rfl ?_
    refine n_conv (c) Gd.none rfl Wr_tI110 Wr_tI115 (by simp only [topOf]; omega) ?_
    refine o_buildSlice 101 (ns .u32 ([c])) [(0, [(nm .u32 (c))])] Gd.none Wr_tE77 rfl Wr_tO115 rfl rfl rfl rfl rfl rfl rfl ?_
    refine n_append 102 (r) ([c]) [(101, (AO.row 115 1 (ns .u32 ([c]))))] Gd.none Wr_tE77 Wr_tO115 rfl rfl rfl rfl rfl (by simp only [List.length_append, List.length_cons, List.length_nil]; omega) (by decide) rfl rfl ?_
    refine o_callG [(102, 1, (ns .u32 ((r) ++ ([c]))))] [(AV.lit (.bool false)), (AV.sl 1 (ns .u32 ((r) ++ ([c]))))] _ (intW ((sg (false) (val ((r) ++ ([c])))))) [(101, (AO.row 115 1 (ns .u32 ([c]))))] Gd.none Wr_tC81 rfl (And.intro ⟨_, rfl⟩ (trivial)) rfl rfl (LeL.cons (AV.le_refl _) (LeL.cons (AV.le_refl _) (LeL.nil))) (c_wTrim (false) ((r) ++ ([c])) (by first | assumption | exact dgn_dig _ _ | exact digs_dig _ | exact Dig.snoc (by assumption) (by assumption) | exact Dig.cons (by omega) (digs_dig _))) rfl ?_
    refine o_fieldS (AV.sl 1 (ns .u32 (digs ((sg (false) (val ((r) ++ ([c]))))).natAbs))) Gd.none Wr_tF79_1 Wr_tS77 rfl rfl ?_
    refine o_assign (AV.sl 1 (ns .u32 (digs ((sg (false) (val ((r) ++ ([c]))))).natAbs))) Gd.none rfl ?_
    refine aops_end ?_
    refine hK11 _ ?_
    refine awp_ret ?_
    refine post_ret ⟨[(AV.sl 1 (ns .u32 (digs ((sg (false) (val ((r) ++ ([c]))))).natAbs)))], And.intro (AV.le_refl _) (trivial), rfl, ?_⟩
    refine ns_congr ?_
    rw [sg_abs, times_fin (by omega) hl hv]

theorem c_wQuot (m n : Nat) (hn0 : 0 < n) (hm : (digs m).length ≤ 900000000) (hn : (digs n).length ≤ 900000000) : ECalls cx 89 [(AV.sl 1 (ns .u32 (digs m))), (AV.sl 1 (ns .u32 (digs n)))] (.tup [.sl 1 (ns .u32 (dgn (digs m).length (m / n))), .sl 1 (ns .u32 (digs (m % n)))]) := by
  refine ecalls_of_awp Tryd.func89 (c := _) rfl (Nat.le_of_ble_eq_true rfl) ?_
  show awp cx 65 _ (postF cx Tryd.f89 _) ⟨[(0, (AV.sl 1 (ns .u32 (digs m)))), (1, (AV.sl 1 (ns .u32 (digs n))))], []⟩
  refine awp_bound (i := 0) rfl fun hb => ?_
  replace hb := n_bnd hb
  refine awp_bound (i := 1) rfl fun hb2 => ?_
  replace hb2 := n_bnd hb2
  refine awp_seq fun K0 hK0 => ?_
  refine awp_region rfl ?_
  refine o_assign (AV.lit (.slice none 0 0)) Gd.none rfl ?_
  refine o_assign (AV.lit (.slice none 0 0)) Gd.none rfl ?_
  refine aops_end ?_
  refine hK0 _ ?_
  refine awp_seq fun K1 hK1 => ?_
  refine awp_region rfl ?_
  refine o_move (AV.sl 1 (ns .u32 (digs m))) Gd.none rfl ?_
  refine n_len (digs m) Gd.none Wr_tU77 rfl ?_
  refine n_make 2 ((digs m).length) Gd.none Wr_tE77 Wr_tO115 rfl rfl (by omega) rfl rfl ?_
  refine o_assign (AV.row 2) Gd.none rfl ?_
  refine aops_end ?_
  refine hK1 _ ?_
  refine awp_seq fun K2 hK2 => ?_
  refine awp_region rfl ?_
  refine o_assign (AV.lit (.slice none 0 0)) Gd.none rfl ?_
  refine aops_end ?_
  refine hK2 _ ?_
  refine awp_seq fun K3 hK3 => ?_
  refine awp_seq fun K4 hK4 => ?_
  refine awp_region rfl ?_
  refine o_move (AV.sl 1 (ns .u32 (digs m))) Gd.none rfl ?_
  refine n_len (digs m) Gd.none Wr_tU77 rfl ?_
  refine o_sub (a := ((((digs m).length : Nat) : Int))) (c := (((1 : Nat) : Int))) Gd.none rfl rfl (by exact wrap64 (by omega) (by omega)) ?_
  refine o_assign (AV.lit (.int .i64 (((((digs m).length : Nat) : Int)) - (((1 : Nat) : Int))))) Gd.none rfl ?_
  refine aops_end ?_
  refine hK4 _ ?_
  refine awp_block ?_
  refine awp_wk (Wk.slot (i := 7) (y := (AV.slc 1 (ns .u32 (digs 0)) ((digs 0).length))) (AV.le_nilc' (by decide) (by simp [digs_zero, ns]) (by simp [digs_zero]))) ?_
  refine awp_loopR (fun κ σ => ∃ (j : Nat), ∃ (o : List Nat), ∃ (r : Nat), (j ≤ (digs m).length) ∧ (o.length = (digs m).length) ∧ (Dig o) ∧ (∀ k, k < j → o.getD k 0 = 0) ∧ (r < n) ∧ (val ((digs m).drop j) = n * val (o.drop j) + r) ∧ (j) = κ ∧ σ = ⟨[(0, (AV.sl 1 (ns .u32 (digs m)))), (1, (AV.sl 1 (ns .u32 (digs n)))), (6, (AV.row 3)), (8, (AV.lit (.int .i64 ((j : Int) - 1)))), (7, (AV.slc 1 (ns .u32 (digs (r))) ((digs (r)).length)))], [(3, (AO.row 115 1 (ns .u32 (o))))]⟩) ⟨_, _, ⟨(digs m).length, List.replicate (digs m).length 0, 0, (Nat.le_refl _), (by simp), (Dig.repl _), (fun k hk => by rw [List.getD_eq_getElem?_getD, List.getElem?_replicate]; split <;> rfl), hn0, (by rw [val_drop_all (Nat.le_refl _), val_drop_all (by simp)]; simp), rfl, rfl⟩, ?wk0⟩ ?rd0
  case wk0 =>
    exact Wk.trans (Wk.sub (σ' := ⟨[(0, (AV.sl 1 (ns .u32 (digs m)))), (1, (AV.sl 1 (ns .u32 (digs n)))), (6, (AV.row 2)), (8, (AV.lit (.int .i64 (((((digs m).length : Nat) : Int)) - (((1 : Nat) : Int)))))), (7, (AV.slc 1 (ns .u32 (digs 0)) ((digs 0).length)))], [(2, (AO.row 115 1 (ns .u32 (List.replicate ((digs m).length) 0))))]⟩) (And.intro rfl (And.intro rfl (And.intro rfl (And.intro rfl (And.intro rfl (trivial)))))) (And.intro rfl (trivial))) (Wk.trans (Wk.ren (id := 2) (id' := 3) rfl) (Wk.sub (And.intro (by exact rfl) (And.intro (by exact rfl) (And.intro (by first | rfl | (simp)) (And.intro (by first | rfl | exact int_eq (by omega) | exact int_nm (by omega)) (And.intro (by first | rfl | (simp)) (trivial)))))) (And.intro (by first | rfl | exact row_ns (by simp) | exact congrArg (fun x => some (AO.blk (.stringIter _ x))) (by omega)) (trivial))))
  rintro κ _ ⟨j, o, r, hj, hl, hd, hz, hr, hv, rfl, rfl⟩
  have hA := Dig.getD (digs_dig m) (j - 1)
  have hrl := digs_len_le (Nat.le_of_lt hr)
  have hXt := quo_top hA hr
  have hXl := digs_len_le (Nat.le_of_lt hXt)
  have hXm := digs_mul_len n 1000000000
  have h10 : (digs 1000000000).length ≤ 3 := digs_len_small (by decide)
  refine awp_seq fun K5 hK5 => ?_
  refine awp_seq fun K6 hK6 => ?_
  refine awp_region rfl ?_
  refine o_move (AV.lit (.int .i64 ((j : Int) - 1))) Gd.none rfl ?_
  refine o_geq (a := ((j : Int) - 1)) (c := (((0 : Nat) : Int))) Gd.none rfl rfl ?_
  refine aops_end ?_
  refine hK6 _ ?_
  refine awp_condQ (q := (((0 : Nat) : Int)) ≤ ((j : Int) - 1)) rfl (fun h1 => ?_) (fun h1 => ?_)
  · refine awp_wk (Wk.slot (i := 8) (y := (nm .i64 (j - 1))) (AV.le_eq (by exact nm_int (by omega)))) ?_
    refine awp_skip ?_
    refine hK5 _ ?_
    refine awp_seq fun K7 hK7 => ?_
    refine awp_block ?_
    refine awp_seq fun K8 hK8 => ?_
    refine awp_region rfl ?_
    refine o_move (AV.slc 1 (ns .u32 (digs (r))) ((digs (r)).length)) Gd.none rfl ?_
    refine o_move (AV.sl 1 (ns .u32 (digs m))) Gd.none rfl ?_
    refine o_move (nm .i64 (j - 1)) Gd.none rfl ?_
    refine n_index (digs m) (j - 1) Gd.none Wr_tE77 rfl rfl (by omega) ?_
    refine n_loadI (digs m) (j - 1) Gd.none Wr_tS115 rfl (by omega) ?_
    refine o_buildSlice 101 (ns .u32 ([(digs m).getD (j - 1) 0])) [(0, [(nm .u32 ((digs m).getD (j - 1) 0))])] Gd.none Wr_tE77 rfl Wr_tO115 rfl rfl rfl rfl rfl rfl rfl ?_
    refine o_callG [(101, 1, (ns .u32 ([(digs m).getD (j - 1) 0])))] [(AV.slc 1 (ns .u32 (digs (r))) ((digs (r)).length)), (nm .i64 (0)), (AV.sl 1 (ns .u32 ([(digs m).getD (j - 1) 0])))] _ (AV.sl 1 (ns .u32 (((digs m).getD (j - 1) 0) :: digs (r)))) [(3, (AO.row 115 1 (ns .u32 (o))))] Gd.none Wr_tC96 rfl (And.intro ⟨_, rfl⟩ (trivial)) rfl rfl (LeL.cons (AV.le_refl _) (LeL.cons (AV.le_refl _) (LeL.cons (AV.le_refl _) (LeL.nil)))) (c_insert (digs (r)) ((digs m).getD (j - 1) 0) (by omega)) rfl ?_
    refine o_call [(AV.lit (.bool false)), (AV.sl 1 (ns .u32 (((digs m).getD (j - 1) 0) :: digs (r))))] (intC ((sg (false) (val (((digs m).getD (j - 1) 0) :: digs (r)))))) Gd.none Wr_tC81 rfl (c_wTrimX (false) (((digs m).getD (j - 1) 0) :: digs (r)) (by first | assumption | exact dgn_dig _ _ | exact digs_dig _ | exact Dig.snoc (by assumption) (by assumption) | exact Dig.cons (by omega) (digs_dig _))) ?_
    refine o_fieldS (AV.slc 1 (ns .u32 (digs ((sg (false) (val (((digs m).getD (j - 1) 0) :: digs (r))))).natAbs)) ((digs ((sg (false) (val (((digs m).getD (j - 1) 0) :: digs (r))))).natAbs).length)) Gd.none Wr_tF79_1 Wr_tS77 rfl rfl ?_
    refine n_as (v' := (AV.slc 1 (ns .u32 (digs (((digs m).getD (j - 1) 0 + 1000000000 * r)))) ((digs (((digs m).getD (j - 1) 0 + 1000000000 * r))).length))) (by exact nc_sg (by simp only [val, val_digs])) ?_
    refine o_assign (AV.slc 1 (ns .u32 (digs (((digs m).getD (j - 1) 0 + 1000000000 * r)))) ((digs (((digs m).getD (j - 1) 0 + 1000000000 * r))).length)) Gd.none rfl ?_
    refine aops_end ?_
    refine hK8 _ ?_
    refine awp_seq fun K9 hK9 => ?_
    refine awp_seq fun K10 hK10 => ?_
    refine awp_region rfl ?_
    refine o_move (AV.slc 1 (ns .u32 (digs (((digs m).getD (j - 1) 0 + 1000000000 * r)))) ((digs (((digs m).getD (j - 1) 0 + 1000000000 * r))).length)) Gd.none rfl ?_
    refine o_move (AV.sl 1 (ns .u32 (digs n))) Gd.none rfl ?_
    refine o_callG [] [(AV.slc 1 (ns .u32 (digs (((digs m).getD (j - 1) 0 + 1000000000 * r)))) ((digs (((digs m).getD (j - 1) 0 + 1000000000 * r))).length)), (AV.sl 1 (ns .u32 (digs n)))] _ (AV.lit (.int .i64 (cmpN ((((digs m).getD (j - 1) 0 + 1000000000 * r))) (n)))) [(3, (AO.row 115 1 (ns .u32 (o))))] Gd.none Wr_tC87 rfl (trivial) rfl rfl (LeL.cons (AV.le_slc) (LeL.cons (AV.le_refl _) (LeL.nil))) (c_wSize ((((digs m).getD (j - 1) 0 + 1000000000 * r))) (n)) rfl ?_
    refine o_lss (a := (cmpN ((((digs m).getD (j - 1) 0 + 1000000000 * r))) (n))) (c := (((0 : Nat) : Int))) Gd.none rfl rfl ?_
    refine aops_end ?_
    refine hK10 _ ?_
    refine awp_condQ (q := (cmpN ((((digs m).getD (j - 1) 0 + 1000000000 * r))) (n)) < (((0 : Nat) : Int))) rfl (fun h2 => ?_) (fun h2 => ?_)
    · have hXn := cmpN_neg h2
      refine awp_exit ?_
      refine hK7 _ ?_
      refine awp_region rfl ?_
      refine o_move (nm .i64 (j - 1)) Gd.none rfl ?_
      refine o_sub (a := (((j - 1 : Nat) : Int))) (c := (((1 : Nat) : Int))) Gd.none rfl rfl (by exact wrap64 (by omega) (by omega)) ?_
      refine o_assign (AV.lit (.int .i64 ((((j - 1 : Nat) : Int)) - (((1 : Nat) : Int))))) Gd.none rfl ?_
      refine aops_end ?_
      refine ⟨_, _, ?lt, ⟨j - 1, o, ((digs m).getD (j - 1) 0 + 1000000000 * r), (by omega), hl, hd, (fun k hk => hz k (by omega)), hXn, (quo_skip (by omega) hl (by rw [Nat.sub_add_cancel (by omega)]; exact hv) (hz _ (by omega)) hXn), rfl, rfl⟩, ?wk⟩
      case lt => omega
      case wk => exact Wk.sub (And.intro (by exact rfl) (And.intro (by exact rfl) (And.intro (by exact rfl) (And.intro (by first | rfl | exact int_eq (by omega) | exact int_nm (by omega)) (And.intro (by first | rfl | (simp)) (trivial)))))) (And.intro (by first | rfl | exact row_ns (by simp) | exact congrArg (fun x => some (AO.blk (.stringIter _ x))) (by omega)) (trivial))
    · have hXn := cmpN_nneg h2
      refine awp_skip ?_
      refine hK9 _ ?_
      refine awp_seq fun K11 hK11 => ?_
      refine awp_region rfl ?_
      refine o_assign (nm .u64 (0)) Gd.none rfl ?_
      refine o_assign (nm .u64 (1000000000)) Gd.none rfl ?_
      refine aops_end ?_
      refine hK11 _ ?_
      refine awp_seq fun K12 hK12 => ?_
      refine awp_block ?_
      refine awp_loopR (fun κ σ => ∃ (l : Nat), ∃ (h : Nat), (l < h) ∧ (h ≤ 1000000000) ∧ (n * l ≤ ((digs m).getD (j - 1) 0 + 1000000000 * r)) ∧ (((digs m).getD (j - 1) 0 + 1000000000 * r) < n * h) ∧ (h - l) = κ ∧ σ = ⟨[(0, (AV.sl 1 (ns .u32 (digs m)))), (1, (AV.sl 1 (ns .u32 (digs n)))), (6, (AV.row 3)), (8, (nm .i64 (j - 1))), (7, (AV.slc 1 (ns .u32 (digs (((digs m).getD (j - 1) 0 + 1000000000 * r)))) ((digs (((digs m).getD (j - 1) 0 + 1000000000 * r))).length))), (9, (nm .u64 (l))), (10, (nm .u64 (h)))], [(3, (AO.row 115 1 (ns .u32 (o))))]⟩) ⟨_, _, ⟨0, 1000000000, (by decide), (Nat.le_refl _), (by rw [Nat.mul_zero]; exact Nat.zero_le _), hXt, rfl, rfl⟩, ?wk1⟩ ?rd1
      case wk1 =>
        exact Wk.sub (And.intro (by exact rfl) (And.intro (by exact rfl) (And.intro (by exact rfl) (And.intro (by exact rfl) (And.intro (by exact rfl) (And.intro (by first | rfl | exact congrArg (nm _) (by omega) | exact nm_int (by omega) | exact nm_int (by simp [IntKind.wrap, IntKind.bits, IntKind.signed]; omega)) (And.intro (by first | rfl | exact congrArg (nm _) (by omega) | exact nm_int (by omega) | exact nm_int (by simp [IntKind.wrap, IntKind.bits, IntKind.signed]; omega)) (trivial)))))))) (And.intro (by first | rfl | exact row_ns (by simp) | exact congrArg (fun x => some (AO.blk (.stringIter _ x))) (by omega)) (trivial))
      rintro κ _ ⟨l, h, hlh, hh, hlo, hhi, rfl, rfl⟩
      have hml := digs_mul_len n ((l + h) / 2)
      have hmd := digs_len_small (n := (l + h) / 2) (by omega)
      have hnl := digs_len_le hlo
      refine awp_seq fun K13 hK13 => ?_
      refine awp_seq fun K14 hK14 => ?_
      refine awp_region rfl ?_
      refine o_move (nm .u64 (h)) Gd.none rfl ?_
      refine o_move (nm .u64 (l)) Gd.none rfl ?_
      refine n_sub (h) (l) Gd.none rfl rfl (by omega) (by simp only [topOf]; omega) ?_
      refine n_gtr ((h) - (l)) (1) Gd.none rfl rfl ?_
      refine aops_end ?_
      refine hK14 _ ?_
      refine awp_condQ (q := (1) < ((h) - (l))) rfl (fun h3 => ?_) (fun h3 => ?_)
      · refine awp_skip ?_
        refine hK13 _ ?_
        refine awp_block ?_
        refine awp_seq fun K15 hK15 => ?_
        refine awp_region rfl ?_
        refine o_move (nm .u64 (l)) Gd.none rfl ?_
        refine o_move (nm .u64 (h)) Gd.none rfl ?_
        refine n_add (l) (h) Gd.none rfl rfl (by simp only [topOf]; omega) ?_
        refine n_quo ((l) + (h)) (2) Gd.none rfl rfl (by omega) (by simp only [topOf]; omega) ?_
        refine o_assign (nm .u64 (((l) + (h)) / (2))) Gd.none rfl ?_
        refine aops_end ?_
        refine hK15 _ ?_
        refine awp_seq fun K16 hK16 => ?_
        refine awp_region rfl ?_
        refine o_move (AV.sl 1 (ns .u32 (digs n))) Gd.none rfl ?_
        refine o_move (nm .u64 (((l) + (h)) / (2))) Gd.none rfl ?_
        refine o_call [(AV.sl 1 (ns .u32 (digs n))), (nm .u64 (((l) + (h)) / (2)))] (AV.sl 1 (ns .u32 (digs (n * (((l) + (h)) / (2)))))) Gd.none Wr_tC97 rfl (c_wTimes (n) (((l) + (h)) / (2)) (by omega) (by omega)) ?_
        refine o_move (AV.slc 1 (ns .u32 (digs (((digs m).getD (j - 1) 0 + 1000000000 * r)))) ((digs (((digs m).getD (j - 1) 0 + 1000000000 * r))).length)) Gd.none rfl ?_
        refine o_callG [] [(AV.sl 1 (ns .u32 (digs (n * (((l) + (h)) / (2)))))), (AV.slc 1 (ns .u32 (digs (((digs m).getD (j - 1) 0 + 1000000000 * r)))) ((digs (((digs m).getD (j - 1) 0 + 1000000000 * r))).length))] _ (AV.lit (.int .i64 (cmpN ((n * (((l) + (h)) / (2)))) ((((digs m).getD (j - 1) 0 + 1000000000 * r)))))) [(3, (AO.row 115 1 (ns .u32 (o))))] Gd.none Wr_tC87 rfl (trivial) rfl rfl (LeL.cons (AV.le_refl _) (LeL.cons (AV.le_slc) (LeL.nil))) (c_wSize ((n * (((l) + (h)) / (2)))) ((((digs m).getD (j - 1) 0 + 1000000000 * r)))) rfl ?_
        refine o_leq (a := (cmpN ((n * (((l) + (h)) / (2)))) ((((digs m).getD (j - 1) 0 + 1000000000 * r))))) (c := (((0 : Nat) : Int))) Gd.none rfl rfl ?_
        refine aops_end ?_
        refine hK16 _ ?_
        refine awp_condQ (q := (cmpN ((n * (((l) + (h)) / (2)))) ((((digs m).getD (j - 1) 0 + 1000000000 * r)))) ≤ (((0 : Nat) : Int))) rfl (fun h4 => ?_) (fun h4 => ?_)
        · refine awp_region rfl ?_
          refine o_move (nm .u64 (((l) + (h)) / (2))) Gd.none rfl ?_
          refine o_assign (nm .u64 (((l) + (h)) / (2))) Gd.none rfl ?_
          refine aops_end ?_
          refine ⟨_, _, ?lt, ⟨(l + h) / 2, h, (by omega), hh, (cmpN_le h4), hhi, rfl, rfl⟩, ?wk⟩
          case lt => omega
          case wk => exact Wk.sub (And.intro (by exact rfl) (And.intro (by exact rfl) (And.intro (by exact rfl) (And.intro (by exact rfl) (And.intro (by exact rfl) (And.intro (by first | rfl | exact congrArg (nm _) (by omega) | exact nm_int (by omega) | exact nm_int (by simp [IntKind.wrap, IntKind.bits, IntKind.signed]; omega)) (And.intro (by exact rfl) (trivial)))))))) (And.intro (by first | rfl | exact row_ns (by simp) | exact congrArg (fun x => some (AO.blk (.stringIter _ x))) (by omega)) (trivial))
        · refine awp_region rfl ?_
          refine o_move (nm .u64 (((l) + (h)) / (2))) Gd.none rfl ?_
          refine o_assign (nm .u64 (((l) + (h)) / (2))) Gd.none rfl ?_
          refine aops_end ?_
          refine ⟨_, _, ?lt, ⟨l, (l + h) / 2, (by omega), (by omega), hlo, (cmpN_nle h4), rfl, rfl⟩, ?wk⟩
          case lt => omega
          case wk => exact Wk.sub (And.intro (by exact rfl) (And.intro (by exact rfl) (And.intro (by exact rfl) (And.intro (by exact rfl) (And.intro (by exact rfl) (And.intro (by exact rfl) (And.intro (by first | rfl | exact congrArg (nm _) (by omega) | exact nm_int (by omega) | exact nm_int (by simp [IntKind.wrap, IntKind.bits, IntKind.signed]; omega)) (trivial)))))))) (And.intro (by first | rfl | exact row_ns (by simp) | exact congrArg (fun x => some (AO.blk (.stringIter _ x))) (by omega)) (trivial))
      · have hh1 : h = l + 1 := by omega
        have hend := hhi
        rw [hh1] at hend
        refine awp_exit ?_
        refine hK12 _ ?_
        refine awp_seq fun K17 hK17 => ?_
        refine awp_region rfl ?_
        refine o_move (AV.row 3) Gd.none rfl ?_
        refine o_move (nm .i64 (j - 1)) Gd.none rfl ?_
        refine o_move (nm .u64 (l)) Gd.none rfl ?_
        refine n_conv (l) Gd.none rfl Wr_tI110 Wr_tI115 (by simp only [topOf]; omega) ?_
        refine n_indexRow (o) (j - 1) Gd.none Wr_tE77 rfl rfl rfl (by omega) ?_
        refine n_storeRow (o) (j - 1) (l) [(3, (AO.row 115 1 (ns .u32 ((o).set (j - 1) (l)))))] Gd.none Wr_tZ115 rfl rfl rfl (by omega) rfl ?_
        refine aops_end ?_
        refine hK17 _ ?_
        refine awp_region rfl ?_
        refine o_move (AV.slc 1 (ns .u32 (digs (((digs m).getD (j - 1) 0 + 1000000000 * r)))) ((digs (((digs m).getD (j - 1) 0 + 1000000000 * r))).length)) Gd.none rfl ?_
        refine o_move (AV.sl 1 (ns .u32 (digs n))) Gd.none rfl ?_
        refine o_move (nm .u64 (l)) Gd.none rfl ?_
        refine o_call [(AV.sl 1 (ns .u32 (digs n))), (nm .u64 (l))] (AV.sl 1 (ns .u32 (digs (n * (l))))) Gd.none Wr_tC97 rfl (c_wTimes (n) (l) (by omega) (by omega)) ?_
        refine o_callG [] [(AV.slc 1 (ns .u32 (digs (((digs m).getD (j - 1) 0 + 1000000000 * r)))) ((digs (((digs m).getD (j - 1) 0 + 1000000000 * r))).length)), (AV.sl 1 (ns .u32 (digs (n * (l)))))] _ (AV.sl 1 (ns .u32 (dgn (digs ((((digs m).getD (j - 1) 0 + 1000000000 * r)))).length ((((digs m).getD (j - 1) 0 + 1000000000 * r)) - (n * (l)))))) [(3, (AO.row 115 1 (ns .u32 ((o).set (j - 1) (l)))))] Gd.none Wr_tC88 rfl (trivial) rfl rfl (LeL.cons (AV.le_slc) (LeL.cons (AV.le_refl _) (LeL.nil))) (c_wLess ((((digs m).getD (j - 1) 0 + 1000000000 * r))) ((n * (l))) (by omega) (by omega) (by omega)) rfl ?_
        refine o_call [(AV.lit (.bool false)), (AV.sl 1 (ns .u32 (dgn (digs ((((digs m).getD (j - 1) 0 + 1000000000 * r)))).length ((((digs m).getD (j - 1) 0 + 1000000000 * r)) - (n * (l))))))] (intC ((sg (false) (val (dgn (digs ((((digs m).getD (j - 1) 0 + 1000000000 * r)))).length ((((digs m).getD (j - 1) 0 + 1000000000 * r)) - (n * (l)))))))) Gd.none Wr_tC81 rfl (c_wTrimX (false) (dgn (digs ((((digs m).getD (j - 1) 0 + 1000000000 * r)))).length ((((digs m).getD (j - 1) 0 + 1000000000 * r)) - (n * (l)))) (by first | assumption | exact dgn_dig _ _ | exact digs_dig _ | exact Dig.snoc (by assumption) (by assumption) | exact Dig.cons (by omega) (digs_dig _))) ?_
        refine o_fieldS (AV.slc 1 (ns .u32 (digs ((sg (false) (val (dgn (digs ((((digs m).getD (j - 1) 0 + 1000000000 * r)))).length ((((digs m).getD (j - 1) 0 + 1000000000 * r)) - (n * (l))))))).natAbs)) ((digs ((sg (false) (val (dgn (digs ((((digs m).getD (j - 1) 0 + 1000000000 * r)))).length ((((digs m).getD (j - 1) 0 + 1000000000 * r)) - (n * (l))))))).natAbs).length)) Gd.none Wr_tF79_1 Wr_tS77 rfl rfl ?_
        refine n_as (v' := (AV.slc 1 (ns .u32 (digs (((digs m).getD (j - 1) 0 + 1000000000 * r) - n * l))) ((digs (((digs m).getD (j - 1) 0 + 1000000000 * r) - n * l)).length))) (by exact nc_sg (val_minus _ _)) ?_
        refine o_assign (AV.slc 1 (ns .u32 (digs (((digs m).getD (j - 1) 0 + 1000000000 * r) - n * l))) ((digs (((digs m).getD (j - 1) 0 + 1000000000 * r) - n * l)).length)) Gd.none rfl ?_
        refine aops_end ?_
        refine hK7 _ ?_
        refine awp_region rfl ?_
        refine o_move (nm .i64 (j - 1)) Gd.none rfl ?_
        refine o_sub (a := (((j - 1 : Nat) : Int))) (c := (((1 : Nat) : Int))) Gd.none rfl rfl (by exact wrap64 (by omega) (by omega)) ?_
        refine o_assign (AV.lit (.int .i64 ((((j - 1 : Nat) : Int)) - (((1 : Nat) : Int))))) Gd.none rfl ?_
        refine aops_end ?_
        refine ⟨_, _, ?lt, ⟨j - 1, o.set (j - 1) l, ((digs m).getD (j - 1) 0 + 1000000000 * r) - n * l, (by omega), (by simp only [List.length_set]; exact hl), (hd.set (by omega)), (fun k hk => by rw [getD_set_off (by omega)]; exact hz k (by omega)), (quo_rest hlo hend), (quo_put (by omega) hl (by rw [Nat.sub_add_cancel (by omega)]; exact hv) hlo hend), rfl, rfl⟩, ?wk⟩
        case lt => omega
        case wk => exact Wk.sub (And.intro (by exact rfl) (And.intro (by exact rfl) (And.intro (by exact rfl) (And.intro (by first | rfl | exact int_eq (by omega) | exact int_nm (by omega)) (And.intro (by first | rfl | (simp)) (trivial)))))) (And.intro (by first | rfl | exact row_ns (by simp) | exact congrArg (fun x => some (AO.blk (.stringIter _ x))) (by omega)) (trivial))
  · have hj0 : j = 0 := by omega
    have hv0 := hv
    rw [hj0] at hv0
    have hE := div_end hr hv0
    refine awp_exit ?_
    refine hK3 _ ?_
    refine awp_seq fun K18 hK18 => ?_
    refine awp_region rfl ?_
    refine o_move (AV.row 3) Gd.none rfl ?_
    refine o_move (AV.slc 1 (ns .u32 (digs (r))) ((digs (r)).length)) Gd.none rfl ?_
    refine o_assign (AV.row 3) Gd.none rfl ?_
    refine o_assign (AV.slc 1 (ns .u32 (digs (r))) ((digs (r)).length)) Gd.none rfl ?_
    refine aops_end ?_
    refine hK18 _ ?_
    refine awp_wk (σ' := ⟨[(4, (AV.row 3)), (5, (AV.slc 1 (ns .u32 (digs (r))) ((digs (r)).length)))], [(3, (AO.row 115 1 (ns .u32 (o))))]⟩) (Wk.sub (And.intro rfl (And.intro rfl (trivial))) (And.intro rfl (trivial))) ?_
    refine awp_wk (σ' := ⟨[(4, (AV.sl 1 (ns .u32 (o)))), (5, (AV.slc 1 (ns .u32 (digs (r))) ((digs (r)).length)))], []⟩) (Wk.freeze (id := 3) (e := 115) (sz := 1) (cs := (ns .u32 (o))) rfl) ?_
    refine awp_ret ?_
    refine post_ret ⟨[(AV.sl 1 (ns .u32 (o))), (AV.sl 1 (ns .u32 (digs (r))))], And.intro (AV.le_refl _) (And.intro (AV.le_slc) (trivial)), rfl, ?_⟩
    exact tup_eq2 (ns_congr (dgn_eq hd hl hE.1).symm) (ns_congr (by rw [← hE.2]))

end Go.Proofs.YtbilndahjkimkaaDoor

set_option linter.unusedVariables false
set_option linter.unusedSimpArgs false
namespace Go.Proofs.YtbilndahjkimkaaDoor
open Go Go.Ab Go.Mth
theorem Ws_tO79 : tyZero cx.P 79 = some [(Go.Value.bool false), (Go.Value.slice none 0 0)] := by kernel_rfl
theorem Ws_tF79_1 : tyField cx.P 79 1 = some (1, 77) := by kernel_rfl
theorem Ws_tS77 : tySc cx.P 77 = true := by kernel_rfl
theorem Ws_tC89 : callable cx.P 89 = true := by kernel_rfl
theorem Ws_tF79_0 : tyField cx.P 79 0 = some (0, 4) := by kernel_rfl
theorem Ws_tS4 : tySc cx.P 4 = true := by kernel_rfl
theorem Ws_tC81 : callable cx.P 81 = true := by kernel_rfl
theorem Ws_tZ79 : tySize cx.P 79 = some 2 := by kernel_rfl
theorem Ws_tA79 : tyAgg cx.P 79 = some 2 := by kernel_rfl
theorem Ws_tC68 : callable cx.P 68 = true := by kernel_rfl
theorem Ws_tC59 : callable cx.P 59 = true := by kernel_rfl
theorem Ws_tC90 : callable cx.P 90 = true := by kernel_rfl
theorem Ws_tC61 : callable cx.P 61 = true := by kernel_rfl
theorem c_wDivide (x y : Int) (hy : 0 < y) (hx : (digs x.natAbs).length ≤ 800000000) (hyl : (digs y.natAbs).length ≤ 800000000) : ECalls cx 62 [(intW (x)), (intW (y))] (.tup [intW (x / y), intW (x % y)]) := by
  refine ecalls_of_awp Tryd.func62 (c := _) rfl (Nat.le_of_ble_eq_true rfl) ?_
  show awp cx 40 _ (postF cx Tryd.f62 _) ⟨[(0, (intW (x))), (1, (intW (y)))], []⟩
  have hlq := fun b => len_qN b x y
  have hlr := fun b => len_rN b x y
  have hq1 : (digs ((sg (true) (val (dgn (digs ((x).natAbs)).length ((x).natAbs / (y).natAbs)))).natAbs)).length ≤ (digs x.natAbs).length := hlq true
  have hr1 : (digs ((sg (true) (val (digs ((x).natAbs % (y).natAbs)))).natAbs)).length ≤ (digs x.natAbs).length := hlr true
  have ho := len_one
  refine awp_seq fun K0 hK0 => ?_
  refine awp_region rfl ?_
  refine o_box 2 [(bp (x < 0)), (AV.sl 1 (ns .u32 (digs (x).natAbs)))] Gd.none rfl rfl ?_
  refine o_box 3 [(bp (y < 0)), (AV.sl 1 (ns .u32 (digs (y).natAbs)))] Gd.none rfl rfl ?_
  refine o_alloc 4 [(AV.lit (.bool false)), (AV.lit (.slice none 0 0))] Gd.none Ws_tO79 rfl rfl rfl ?_
  refine o_alloc 5 [(AV.lit (.bool false)), (AV.lit (.slice none 0 0))] Gd.none Ws_tO79 rfl rfl rfl ?_
  refine aops_end ?_
  refine hK0 _ ?_
  refine awp_seq fun K1 hK1 => ?_
  refine awp_region rfl ?_
  refine o_fieldRef 1 Gd.none Ws_tF79_1 rfl rfl ?_
  refine o_loadS (AV.sl 1 (ns .u32 (digs (x).natAbs))) Gd.none Ws_tS77 rfl rfl rfl ?_
  refine o_fieldRef 1 Gd.none Ws_tF79_1 rfl rfl ?_
  refine o_loadS (AV.sl 1 (ns .u32 (digs (y).natAbs))) Gd.none Ws_tS77 rfl rfl rfl ?_
  refine o_call [(AV.sl 1 (ns .u32 (digs (x).natAbs))), (AV.sl 1 (ns .u32 (digs (y).natAbs)))] (AV.tup [(AV.sl 1 (ns .u32 (dgn (digs ((x).natAbs)).length ((x).natAbs / (y).natAbs)))), (AV.sl 1 (ns .u32 (digs ((x).natAbs % (y).natAbs))))]) Gd.none Ws_tC89 rfl (c_wQuot ((x).natAbs) ((y).natAbs) (by omega) (by omega) (by omega)) ?_
  refine o_move (AV.tup [(AV.sl 1 (ns .u32 (dgn (digs ((x).natAbs)).length ((x).natAbs / (y).natAbs)))), (AV.sl 1 (ns .u32 (digs ((x).natAbs % (y).natAbs))))]) Gd.none rfl ?_
  refine o_extract (AV.sl 1 (ns .u32 (dgn (digs ((x).natAbs)).length ((x).natAbs / (y).natAbs)))) Gd.none rfl rfl ?_
  refine o_extract (AV.sl 1 (ns .u32 (digs ((x).natAbs % (y).natAbs)))) Gd.none rfl rfl ?_
  refine o_assign (AV.sl 1 (ns .u32 (dgn (digs ((x).natAbs)).length ((x).natAbs / (y).natAbs)))) Gd.none rfl ?_
  refine o_assign (AV.sl 1 (ns .u32 (digs ((x).natAbs % (y).natAbs)))) Gd.none rfl ?_
  refine aops_end ?_
  refine hK1 _ ?_
  refine awp_seq fun K2 hK2 => ?_
  refine awp_seq fun K3 hK3 => ?_
  refine awp_region rfl ?_
  refine o_fieldRef 0 Gd.none Ws_tF79_0 rfl rfl ?_
  refine o_loadS (bp (x < 0)) Gd.none Ws_tS4 rfl rfl rfl ?_
  refine o_notP (q := x < 0) Gd.none rfl ?_
  refine aops_end ?_
  refine hK3 _ ?_
  refine awp_condQ (q := ¬ (x < 0)) rfl (fun h1 => ?_) (fun h1 => ?_)
  · refine awp_seq fun K4 hK4 => ?_
    refine awp_region rfl ?_
    refine o_move (AV.sl 1 (ns .u32 (dgn (digs ((x).natAbs)).length ((x).natAbs / (y).natAbs)))) Gd.none rfl ?_
    refine o_call [(AV.lit (.bool false)), (AV.sl 1 (ns .u32 (dgn (digs ((x).natAbs)).length ((x).natAbs / (y).natAbs))))] (intW ((sg (false) (val (dgn (digs ((x).natAbs)).length ((x).natAbs / (y).natAbs)))))) Gd.none Ws_tC81 rfl (c_wTrim (false) (dgn (digs ((x).natAbs)).length ((x).natAbs / (y).natAbs)) (by first | assumption | exact dgn_dig _ _ | exact digs_dig _ | exact Dig.snoc (by assumption) (by assumption) | exact Dig.cons (by omega) (digs_dig _))) ?_
    refine o_move (AV.sl 1 (ns .u32 (digs ((x).natAbs % (y).natAbs)))) Gd.none rfl ?_
    refine o_call [(AV.lit (.bool false)), (AV.sl 1 (ns .u32 (digs ((x).natAbs % (y).natAbs))))] (intW ((sg (false) (val (digs ((x).natAbs % (y).natAbs)))))) Gd.none Ws_tC81 rfl (c_wTrim (false) (digs ((x).natAbs % (y).natAbs)) (by first | assumption | exact dgn_dig _ _ | exact digs_dig _ | exact Dig.snoc (by assumption) (by assumption) | exact Dig.cons (by omega) (digs_dig _))) ?_
    refine o_store [(5, (AO.var 79 [(AV.lit (.bool false)), (AV.lit (.slice none 0 0))])), (4, (AO.var 79 [(bp ((sg (false) (val (dgn (digs ((x).natAbs)).length ((x).natAbs / (y).natAbs)))) < 0)), (AV.sl 1 (ns .u32 (digs ((sg (false) (val (dgn (digs ((x).natAbs)).length ((x).natAbs / (y).natAbs))))).natAbs)))])), (3, (AO.var 79 [(bp (y < 0)), (AV.sl 1 (ns .u32 (digs (y).natAbs)))])), (2, (AO.var 79 [(bp (x < 0)), (AV.sl 1 (ns .u32 (digs (x).natAbs)))]))] Gd.none Ws_tZ79 rfl rfl rfl rfl rfl rfl ?_
    refine o_store [(5, (AO.var 79 [(bp ((sg (false) (val (digs ((x).natAbs % (y).natAbs)))) < 0)), (AV.sl 1 (ns .u32 (digs ((sg (false) (val (digs ((x).natAbs % (y).natAbs))))).natAbs)))])), (4, (AO.var 79 [(bp ((sg (false) (val (dgn (digs ((x).natAbs)).length ((x).natAbs / (y).natAbs)))) < 0)), (AV.sl 1 (ns .u32 (digs ((sg (false) (val (dgn (digs ((x).natAbs)).length ((x).natAbs / (y).natAbs))))).natAbs)))])), (3, (AO.var 79 [(bp (y < 0)), (AV.sl 1 (ns .u32 (digs (y).natAbs)))])), (2, (AO.var 79 [(bp (x < 0)), (AV.sl 1 (ns .u32 (digs (x).natAbs)))]))] Gd.none Ws_tZ79 rfl rfl rfl rfl rfl rfl ?_
    refine aops_end ?_
    refine hK4 _ ?_
    refine awp_ret ?_
    refine post_ret ⟨[(AV.agg [(bp ((sg (false) (val (dgn (digs ((x).natAbs)).length ((x).natAbs / (y).natAbs)))) < 0)), (AV.sl 1 (ns .u32 (digs ((sg (false) (val (dgn (digs ((x).natAbs)).length ((x).natAbs / (y).natAbs))))).natAbs)))]), (AV.agg [(bp ((sg (false) (val (digs ((x).natAbs % (y).natAbs)))) < 0)), (AV.sl 1 (ns .u32 (digs ((sg (false) (val (digs ((x).natAbs % (y).natAbs))))).natAbs)))])], And.intro ⟨4, (AO.var 79 [(bp ((sg (false) (val (dgn (digs ((x).natAbs)).length ((x).natAbs / (y).natAbs)))) < 0)), (AV.sl 1 (ns .u32 (digs ((sg (false) (val (dgn (digs ((x).natAbs)).length ((x).natAbs / (y).natAbs))))).natAbs)))]), rfl, rfl, rfl, Or.inl ⟨Ws_tA79, AV.le_refl _⟩⟩ (And.intro ⟨5, (AO.var 79 [(bp ((sg (false) (val (digs ((x).natAbs % (y).natAbs)))) < 0)), (AV.sl 1 (ns .u32 (digs ((sg (false) (val (digs ((x).natAbs % (y).natAbs))))).natAbs)))]), rfl, rfl, rfl, Or.inl ⟨Ws_tA79, AV.le_refl _⟩⟩ (trivial)), rfl, ?_⟩
    have e := div1 h1 hy
    exact tup_eq2 (congrArg intW e.1) (congrArg intW e.2)
  · refine awp_skip ?_
    refine hK2 _ ?_
    refine awp_seq fun K5 hK5 => ?_
    refine awp_region rfl ?_
    refine o_move (AV.sl 1 (ns .u32 (dgn (digs ((x).natAbs)).length ((x).natAbs / (y).natAbs)))) Gd.none rfl ?_
    refine o_call [(AV.lit (.bool true)), (AV.sl 1 (ns .u32 (dgn (digs ((x).natAbs)).length ((x).natAbs / (y).natAbs))))] (intW ((sg (true) (val (dgn (digs ((x).natAbs)).length ((x).natAbs / (y).natAbs)))))) Gd.none Ws_tC81 rfl (c_wTrim (true) (dgn (digs ((x).natAbs)).length ((x).natAbs / (y).natAbs)) (by first | assumption | exact dgn_dig _ _ | exact digs_dig _ | exact Dig.snoc (by assumption) (by assumption) | exact Dig.cons (by omega) (digs_dig _))) ?_
    refine o_move (AV.sl 1 (ns .u32 (digs ((x).natAbs % (y).natAbs)))) Gd.none rfl ?_
    refine o_call [(AV.lit (.bool true)), (AV.sl 1 (ns .u32 (digs ((x).natAbs % (y).natAbs))))] (intW ((sg (true) (val (digs ((x).natAbs % (y).natAbs)))))) Gd.none Ws_tC81 rfl (c_wTrim (true) (digs ((x).natAbs % (y).natAbs)) (by first | assumption | exact dgn_dig _ _ | exact digs_dig _ | exact Dig.snoc (by assumption) (by assumption) | exact Dig.cons (by omega) (digs_dig _))) ?_
    refine o_alloc 6 [(AV.lit (.bool false)), (AV.lit (.slice none 0 0))] Gd.none Ws_tO79 rfl rfl rfl ?_
    refine o_alloc 7 [(AV.lit (.bool false)), (AV.lit (.slice none 0 0))] Gd.none Ws_tO79 rfl rfl rfl ?_
    refine o_store [(7, (AO.var 79 [(AV.lit (.bool false)), (AV.lit (.slice none 0 0))])), (6, (AO.var 79 [(bp ((sg (true) (val (dgn (digs ((x).natAbs)).length ((x).natAbs / (y).natAbs)))) < 0)), (AV.sl 1 (ns .u32 (digs ((sg (true) (val (dgn (digs ((x).natAbs)).length ((x).natAbs / (y).natAbs))))).natAbs)))])), (5, (AO.var 79 [(AV.lit (.bool false)), (AV.lit (.slice none 0 0))])), (4, (AO.var 79 [(AV.lit (.bool false)), (AV.lit (.slice none 0 0))])), (3, (AO.var 79 [(bp (y < 0)), (AV.sl 1 (ns .u32 (digs (y).natAbs)))])), (2, (AO.var 79 [(bp (x < 0)), (AV.sl 1 (ns .u32 (digs (x).natAbs)))]))] Gd.none Ws_tZ79 rfl rfl rfl rfl rfl rfl ?_
    refine o_store [(7, (AO.var 79 [(bp ((sg (true) (val (digs ((x).natAbs % (y).natAbs)))) < 0)), (AV.sl 1 (ns .u32 (digs ((sg (true) (val (digs ((x).natAbs % (y).natAbs))))).natAbs)))])), (6, (AO.var 79 [(bp ((sg (true) (val (dgn (digs ((x).natAbs)).length ((x).natAbs / (y).natAbs)))) < 0)), (AV.sl 1 (ns .u32 (digs ((sg (true) (val (dgn (digs ((x).natAbs)).length ((x).natAbs / (y).natAbs))))).natAbs)))])), (5, (AO.var 79 [(AV.lit (.bool false)), (AV.lit (.slice none 0 0))])), (4, (AO.var 79 [(AV.lit (.bool false)), (AV.lit (.slice none 0 0))])), (3, (AO.var 79 [(bp (y < 0)), (AV.sl 1 (ns .u32 (digs (y).natAbs)))])), (2, (AO.var 79 [(bp (x < 0)), (AV.sl 1 (ns .u32 (digs (x).natAbs)))]))] Gd.none Ws_tZ79 rfl rfl rfl rfl rfl rfl ?_
    refine aops_end ?_
    refine hK5 _ ?_
    refine awp_seq fun K6 hK6 => ?_
    refine awp_seq fun K7 hK7 => ?_
    refine awp_region rfl ?_
    refine o_loadA [(bp ((sg (true) (val (digs ((x).natAbs % (y).natAbs)))) < 0)), (AV.sl 1 (ns .u32 (digs ((sg (true) (val (digs ((x).natAbs % (y).natAbs))))).natAbs)))] Gd.none Ws_tA79 rfl rfl rfl rfl rfl ?_
    refine o_call [(AV.agg [(bp ((sg (true) (val (digs ((x).natAbs % (y).natAbs)))) < 0)), (AV.sl 1 (ns .u32 (digs ((sg (true) (val (digs ((x).natAbs % (y).natAbs))))).natAbs)))])] (AV.lit (.int .i64 (sgn ((sg (true) (val (digs ((x).natAbs % (y).natAbs)))))))) Gd.none Ws_tC68 rfl (c_wSign ((sg (true) (val (digs ((x).natAbs % (y).natAbs)))))) ?_
    refine o_lss (a := (sgn ((sg (true) (val (digs ((x).natAbs % (y).natAbs))))))) (c := (((0 : Nat) : Int))) Gd.none rfl rfl ?_
    refine aops_end ?_
    refine hK7 _ ?_
    refine awp_condQ (q := (sgn ((sg (true) (val (digs ((x).natAbs % (y).natAbs)))))) < (((0 : Nat) : Int))) rfl (fun h2 => ?_) (fun h2 => ?_)
    · refine awp_seq fun K8 hK8 => ?_
      refine awp_regionD rfl ?_
      refine o_loadA [(bp ((sg (true) (val (dgn (digs ((x).natAbs)).length ((x).natAbs / (y).natAbs)))) < 0)), (AV.sl 1 (ns .u32 (digs ((sg (true) (val (dgn (digs ((x).natAbs)).length ((x).natAbs / (y).natAbs))))).natAbs)))] Gd.none Ws_tA79 rfl rfl rfl rfl rfl ?_
      refine o_call [(nm .i64 (1))] (intW ((1 : Int))) Gd.none Ws_tC59 rfl (c_wOf ((1 : Int)) (by first | decide | omega) (by first | decide | omega)) ?_
      refine o_call [(AV.agg [(bp ((sg (true) (val (dgn (digs ((x).natAbs)).length ((x).natAbs / (y).natAbs)))) < 0)), (AV.sl 1 (ns .u32 (digs ((sg (true) (val (dgn (digs ((x).natAbs)).length ((x).natAbs / (y).natAbs))))).natAbs)))]), (intW ((1 : Int)))] (intW (((sg (true) (val (dgn (digs ((x).natAbs)).length ((x).natAbs / (y).natAbs)))) - (1 : Int)))) Gd.none Ws_tC90 rfl (c_wSub ((sg (true) (val (dgn (digs ((x).natAbs)).length ((x).natAbs / (y).natAbs))))) ((1 : Int)) (by first | assumption | omega | (simp only [Int.natAbs_neg]; omega)) (by first | assumption | omega | (simp only [Int.natAbs_neg]; omega))) ?_
      refine o_loadA [(bp ((sg (true) (val (digs ((x).natAbs % (y).natAbs)))) < 0)), (AV.sl 1 (ns .u32 (digs ((sg (true) (val (digs ((x).natAbs % (y).natAbs))))).natAbs)))] Gd.none Ws_tA79 rfl rfl rfl rfl rfl ?_
      refine o_loadA [(bp (y < 0)), (AV.sl 1 (ns .u32 (digs (y).natAbs)))] Gd.none Ws_tA79 rfl rfl rfl rfl rfl ?_
      refine o_call [(AV.agg [(bp ((sg (true) (val (digs ((x).natAbs % (y).natAbs)))) < 0)), (AV.sl 1 (ns .u32 (digs ((sg (true) (val (digs ((x).natAbs % (y).natAbs))))).natAbs)))]), (AV.agg [(bp (y < 0)), (AV.sl 1 (ns .u32 (digs (y).natAbs)))])] (intW (((sg (true) (val (digs ((x).natAbs % (y).natAbs)))) + y))) Gd.none Ws_tC61 rfl (c_wAdd ((sg (true) (val (digs ((x).natAbs % (y).natAbs))))) (y) (by first | assumption | omega | (simp only [Int.natAbs_neg]; omega)) (by first | assumption | omega | (simp only [Int.natAbs_neg]; omega))) ?_
      refine o_store [(7, (AO.var 79 [(bp ((sg (true) (val (digs ((x).natAbs % (y).natAbs)))) < 0)), (AV.sl 1 (ns .u32 (digs ((sg (true) (val (digs ((x).natAbs % (y).natAbs))))).natAbs)))])), (6, (AO.var 79 [(bp ((sg (true) (val (dgn (digs ((x).natAbs)).length ((x).natAbs / (y).natAbs)))) < 0)), (AV.sl 1 (ns .u32 (digs ((sg (true) (val (dgn (digs ((x).natAbs)).length ((x).natAbs / (y).natAbs))))).natAbs)))])), (5, (AO.var 79 [(AV.lit (.bool false)), (AV.lit (.slice none 0 0))])), (4, (AO.var 79 [(bp (((sg (true) (val (dgn (digs ((x).natAbs)).length ((x).natAbs / (y).natAbs)))) - (1 : Int)) < 0)), (AV.sl 1 (ns .u32 (digs (((sg (true) (val (dgn (digs ((x).natAbs)).length ((x).natAbs / (y).natAbs)))) - (1 : Int))).natAbs)))])), (3, (AO.var 79 [(bp (y < 0)), (AV.sl 1 (ns .u32 (digs (y).natAbs)))])), (2, (AO.var 79 [(bp (x < 0)), (AV.sl 1 (ns .u32 (digs (x).natAbs)))]))] Gd.none Ws_tZ79 rfl rfl rfl rfl rfl rfl ?_
      refine o_store [(7, (AO.var 79 [(bp ((sg (true) (val (digs ((x).natAbs % (y).natAbs)))) < 0)), (AV.sl 1 (ns .u32 (digs ((sg (true) (val (digs ((x).natAbs % (y).natAbs))))).natAbs)))])), (6, (AO.var 79 [(bp ((sg (true) (val (dgn (digs ((x).natAbs)).length ((x).natAbs / (y).natAbs)))) < 0)), (AV.sl 1 (ns .u32 (digs ((sg (true) (val (dgn (digs ((x).natAbs)).length ((x).natAbs / (y).natAbs))))).natAbs)))])), (5, (AO.var 79 [(bp (((sg (true) (val (digs ((x).natAbs % (y).natAbs)))) + y) < 0)), (AV.sl 1 (ns .u32 (digs (((sg (true) (val (digs ((x).natAbs % (y).natAbs)))) + y)).natAbs)))])), (4, (AO.var 79 [(bp (((sg (true) (val (dgn (digs ((x).natAbs)).length ((x).natAbs / (y).natAbs)))) - (1 : Int)) < 0)), (AV.sl 1 (ns .u32 (digs (((sg (true) (val (dgn (digs ((x).natAbs)).length ((x).natAbs / (y).natAbs)))) - (1 : Int))).natAbs)))])), (3, (AO.var 79 [(bp (y < 0)), (AV.sl 1 (ns .u32 (digs (y).natAbs)))])), (2, (AO.var 79 [(bp (x < 0)), (AV.sl 1 (ns .u32 (digs (x).natAbs)))]))] Gd.none Ws_tZ79 rfl rfl rfl rfl rfl rfl ?_
      refine aops_end ⟨by kernel_rfl, ?_⟩
      refine hK8 _ ?_
      refine awp_ret ?_
      refine post_ret ⟨[(AV.agg [(bp (((sg (true) (val (dgn (digs ((x).natAbs)).length ((x).natAbs / (y).natAbs)))) - (1 : Int)) < 0)), (AV.sl 1 (ns .u32 (digs (((sg (true) (val (dgn (digs ((x).natAbs)).length ((x).natAbs / (y).natAbs)))) - (1 : Int))).natAbs)))]), (AV.agg [(bp (((sg (true) (val (digs ((x).natAbs % (y).natAbs)))) + y) < 0)), (AV.sl 1 (ns .u32 (digs (((sg (true) (val (digs ((x).natAbs % (y).natAbs)))) + y)).natAbs)))])], And.intro ⟨4, (AO.var 79 [(bp (((sg (true) (val (dgn (digs ((x).natAbs)).length ((x).natAbs / (y).natAbs)))) - (1 : Int)) < 0)), (AV.sl 1 (ns .u32 (digs (((sg (true) (val (dgn (digs ((x).natAbs)).length ((x).natAbs / (y).natAbs)))) - (1 : Int))).natAbs)))]), rfl, rfl, rfl, Or.inl ⟨Ws_tA79, AV.le_refl _⟩⟩ (And.intro ⟨5, (AO.var 79 [(bp (((sg (true) (val (digs ((x).natAbs % (y).natAbs)))) + y) < 0)), (AV.sl 1 (ns .u32 (digs (((sg (true) (val (digs ((x).natAbs % (y).natAbs)))) + y)).natAbs)))]), rfl, rfl, rfl, Or.inl ⟨Ws_tA79, AV.le_refl _⟩⟩ (trivial)), rfl, ?_⟩
      have e := div2 (Decidable.not_not.1 h1) hy h2
      exact tup_eq2 (congrArg intW e.1) (congrArg intW e.2)
    · refine awp_skip ?_
      refine hK6 _ ?_
      refine awp_seq fun K9 hK9 => ?_
      refine awp_regionD rfl ?_
      refine o_loadA [(bp ((sg (true) (val (dgn (digs ((x).natAbs)).length ((x).natAbs / (y).natAbs)))) < 0)), (AV.sl 1 (ns .u32 (digs ((sg (true) (val (dgn (digs ((x).natAbs)).length ((x).natAbs / (y).natAbs))))).natAbs)))] Gd.none Ws_tA79 rfl rfl rfl rfl rfl ?_
      refine o_loadA [(bp ((sg (true) (val (digs ((x).natAbs % (y).natAbs)))) < 0)), (AV.sl 1 (ns .u32 (digs ((sg (true) (val (digs ((x).natAbs % (y).natAbs))))).natAbs)))] Gd.none Ws_tA79 rfl rfl rfl rfl rfl ?_
      refine o_store [(7, (AO.var 79 [(bp ((sg (true) (val (digs ((x).natAbs % (y).natAbs)))) < 0)), (AV.sl 1 (ns .u32 (digs ((sg (true) (val (digs ((x).natAbs % (y).natAbs))))).natAbs)))])), (6, (AO.var 79 [(bp ((sg (true) (val (dgn (digs ((x).natAbs)).length ((x).natAbs / (y).natAbs)))) < 0)), (AV.sl 1 (ns .u32 (digs ((sg (true) (val (dgn (digs ((x).natAbs)).length ((x).natAbs / (y).natAbs))))).natAbs)))])), (5, (AO.var 79 [(AV.lit (.bool false)), (AV.lit (.slice none 0 0))])), (4, (AO.var 79 [(bp ((sg (true) (val (dgn (digs ((x).natAbs)).length ((x).natAbs / (y).natAbs)))) < 0)), (AV.sl 1 (ns .u32 (digs ((sg (true) (val (dgn (digs ((x).natAbs)).length ((x).natAbs / (y).natAbs))))).natAbs)))])), (3, (AO.var 79 [(bp (y < 0)), (AV.sl 1 (ns .u32 (digs (y).natAbs)))])), (2, (AO.var 79 [(bp (x < 0)), (AV.sl 1 (ns .u32 (digs (x).natAbs)))]))] Gd.none Ws_tZ79 rfl rfl rfl rfl rfl rfl ?_
      refine o_store [(7, (AO.var 79 [(bp ((sg (true) (val (digs ((x).natAbs % (y).natAbs)))) < 0)), (AV.sl 1 (ns .u32 (digs ((sg (true) (val (digs ((x).natAbs % (y).natAbs))))).natAbs)))])), (6, (AO.var 79 [(bp ((sg (true) (val (dgn (digs ((x).natAbs)).length ((x).natAbs / (y).natAbs)))) < 0)), (AV.sl 1 (ns .u32 (digs ((sg (true) (val (dgn (digs ((x).natAbs)).length ((x).natAbs / (y).natAbs))))).natAbs)))])), (5, (AO.var 79 [(bp ((sg (true) (val (digs ((x).natAbs % (y).natAbs)))) < 0)), (AV.sl 1 (ns .u32 (digs ((sg (true) (val (digs ((x).natAbs % (y).natAbs))))).natAbs)))])), (4, (AO.var 79 [(bp ((sg (true) (val (dgn (digs ((x).natAbs)).length ((x).natAbs / (y).natAbs)))) < 0)), (AV.sl 1 (ns .u32 (digs ((sg (true) (val (dgn (digs ((x).natAbs)).length ((x).natAbs / (y).natAbs))))).natAbs)))])), (3, (AO.var 79 [(bp (y < 0)), (AV.sl 1 (ns .u32 (digs (y).natAbs)))])), (2, (AO.var 79 [(bp (x < 0)), (AV.sl 1 (ns .u32 (digs (x).natAbs)))]))] Gd.none Ws_tZ79 rfl rfl rfl rfl rfl rfl ?_
      refine aops_end ⟨by kernel_rfl, ?_⟩
      refine hK9 _ ?_
      refine awp_ret ?_
      refine post_ret ⟨[(AV.agg [(bp ((sg (true) (val (dgn (digs ((x).natAbs)).length ((x).natAbs / (y).natAbs)))) < 0)), (AV.sl 1 (ns .u32 (digs ((sg (true) (val (dgn (digs ((x).natAbs)).length ((x).natAbs / (y).natAbs))))).natAbs)))]), (AV.agg [(bp ((sg (true) (val (digs ((x).natAbs % (y).natAbs)))) < 0)), (AV.sl 1 (ns .u32 (digs ((sg (true) (val (digs ((x).natAbs % (y).natAbs))))).natAbs)))])], And.intro ⟨4, (AO.var 79 [(bp ((sg (true) (val (dgn (digs ((x).natAbs)).length ((x).natAbs / (y).natAbs)))) < 0)), (AV.sl 1 (ns .u32 (digs ((sg (true) (val (dgn (digs ((x).natAbs)).length ((x).natAbs / (y).natAbs))))).natAbs)))]), rfl, rfl, rfl, Or.inl ⟨Ws_tA79, AV.le_refl _⟩⟩ (And.intro ⟨5, (AO.var 79 [(bp ((sg (true) (val (digs ((x).natAbs % (y).natAbs)))) < 0)), (AV.sl 1 (ns .u32 (digs ((sg (true) (val (digs ((x).natAbs % (y).natAbs))))).natAbs)))]), rfl, rfl, rfl, Or.inl ⟨Ws_tA79, AV.le_refl _⟩⟩ (trivial)), rfl, ?_⟩
      have e := div3 (Decidable.not_not.1 h1) hy h2
      exact tup_eq2 (congrArg intW e.1) (congrArg intW e.2)

end Go.Proofs.YtbilndahjkimkaaDoor

set_option linter.unusedVariables false
set_option linter.unusedSimpArgs false
namespace Go.Proofs.YtbilndahjkimkaaDoor
open Go Go.Ab Go.Mth
theorem Xa_tU22 : cx.P.underlying 22 = some (.slice 3) := by kernel_rfl
theorem Xa_tE22 : tyElem cx.P 22 = some (3, 1, 8) := by kernel_rfl
theorem Xa_tS3 : tySc cx.P 3 = true := by kernel_rfl
theorem Xa_tF24_0 : tyField cx.P 24 0 = some (0, 3) := by kernel_rfl
theorem Xa_tO89 : tyZero cx.P 89 = some [(Go.Value.bool false), (Go.Value.slice none 0 0), (Go.Value.bool false), (Go.Value.slice none 0 0), (Go.Value.bool false), (Go.Value.slice none 0 0)] := by kernel_rfl
theorem Xa_tC59 : callable cx.P 59 = true := by kernel_rfl
theorem Xa_tP89 : tyPlaces cx.P 89 = some (fun i => (#[(0, 2), (2, 2), (4, 2)] : Array (Nat × Nat))[i]?) := by kernel_rfl
theorem Xa_tZ89 : tySize cx.P 89 = some 6 := by kernel_rfl
theorem Xa_tC84 : callable cx.P 84 = true := by kernel_rfl
theorem Xa_tF24_1 : tyField cx.P 24 1 = some (1, 22) := by kernel_rfl
theorem Xa_tS22 : tySc cx.P 22 = true := by kernel_rfl
theorem Xa_tO79 : tyZero cx.P 79 = some [(Go.Value.bool false), (Go.Value.slice none 0 0)] := by kernel_rfl
theorem Xa_tZ79 : tySize cx.P 79 = some 2 := by kernel_rfl
theorem Xa_tF89_0 : tyField cx.P 89 0 = some (0, 79) := by kernel_rfl
theorem Xa_tA79 : tyAgg cx.P 79 = some 2 := by kernel_rfl
theorem Xa_tC60 : callable cx.P 60 = true := by kernel_rfl
theorem Xa_tF89_1 : tyField cx.P 89 1 = some (2, 79) := by kernel_rfl
theorem Xa_tF89_2 : tyField cx.P 89 2 = some (4, 79) := by kernel_rfl
theorem Xa_tF24_2 : tyField cx.P 24 2 = some (2, 22) := by kernel_rfl
theorem Xa_tC61 : callable cx.P 61 = true := by kernel_rfl
theorem Xa_tA89 : tyAgg cx.P 89 = some 6 := by kernel_rfl
theorem Xa_tO41 : tyZero cx.P 41 = some [(Go.Value.string {data := #[]}), (Go.Value.string {data := #[]}), (Go.Value.string {data := #[]})] := by kernel_rfl
theorem Xa_tC64 : callable cx.P 64 = true := by kernel_rfl
theorem Xa_tP41 : tyPlaces cx.P 41 = some (fun i => (#[(0, 1), (1, 1), (2, 1)] : Array (Nat × Nat))[i]?) := by kernel_rfl
theorem Xa_tZ41 : tySize cx.P 41 = some 3 := by kernel_rfl
theorem Xa_tA41 : tyAgg cx.P 41 = some 3 := by kernel_rfl
theorem Xa_tA24 : tyAgg cx.P 24 = some 3 := by kernel_rfl
theorem Xa_tC46 : callable cx.P 46 = true := by kernel_rfl
theorem Xa_tC55 : callable cx.P 55 = true := by kernel_rfl
theorem Xa_tC56 : callable cx.P 56 = true := by kernel_rfl
theorem Xa_tC57 : callable cx.P 57 = true := by kernel_rfl
theorem c_oIs (m : MapM) (w : List Int) : ECalls cx 55 [(mapV m), (AV.sl 1 (is .i64 (w)))] (bp (OkW m w)) := by
  refine ecalls_of_awp Tryd.func55 (c := _) rfl (Nat.le_of_ble_eq_true rfl) ?_
  show awp cx 25 _ (postF cx Tryd.f55 _) ⟨[(0, (mapV m)), (1, (AV.sl 1 (is .i64 (w))))], []⟩
  refine awp_bound (i := 1) rfl fun hwl => ?_
  replace hwl := is_bnd hwl
  refine awp_seq fun K0 hK0 => ?_
  refine awp_region rfl ?_
  refine o_box 2 [(AV.lit (.int .i64 (m.mod))), (AV.sl 1 (is .i64 (m.mul))), (AV.sl 1 (is .i64 (m.add)))] Gd.none rfl rfl ?_
  refine o_assign (AV.lit (.bool false)) Gd.none rfl ?_
  refine aops_end ?_
  refine hK0 _ ?_
  refine awp_seq fun K1 hK1 => ?_
  refine awp_seq fun K2 hK2 => ?_
  refine awp_region rfl ?_
  refine o_move (AV.sl 1 (is .i64 (w))) Gd.none rfl ?_
  refine i_len (w) Gd.none Xa_tU22 rfl ?_
  refine o_move (nm .i64 (0)) Gd.none rfl ?_
  refine aops_end ?_
  refine hK2 _ ?_
  refine awp_block ?_
  refine awp_loopR (fun κ σ => ∃ (i : Nat), (i ≤ w.length) ∧ (∀ k, k < i → 0 ≤ w.getD k 0 ∧ w.getD k 0 < m.mod) ∧ (w.length - i) = κ ∧ σ = ⟨[(1, (AV.sl 1 (is .i64 (w)))), (2, (AV.ref 2 (0))), (7, (AV.sl 1 (is .i64 (w)))), (8, (nm .i64 ((w).length))), (9, (nm .i64 (i)))], [(2, (AO.var 24 [(AV.lit (.int .i64 (m.mod))), (AV.sl 1 (is .i64 (m.mul))), (AV.sl 1 (is .i64 (m.add)))]))]⟩) ⟨_, _, ⟨0, (by omega), (fun k hk => by omega), rfl, rfl⟩, ?wk0⟩ ?rd0
  case wk0 =>
    exact Wk.sub (And.intro (by exact rfl) (And.intro (by exact rfl) (And.intro (by exact rfl) (And.intro (by exact rfl) (And.intro (by first | rfl | exact congrArg (nm _) (by omega) | exact nm_int (by omega) | exact nm_int (by simp [IntKind.wrap, IntKind.bits, IntKind.signed]; omega)) (trivial)))))) (And.intro (by first | rfl | exact row_ns (by simp) | exact congrArg (fun x => some (AO.blk (.stringIter _ x))) (by omega)) (trivial))
  rintro κ _ ⟨i, hi, hf, rfl, rfl⟩
  refine awp_seq fun K3 hK3 => ?_
  refine awp_region rfl ?_
  refine n_lss (i) ((w).length) Gd.none rfl rfl ?_
  refine aops_end ?_
  refine hK3 _ ?_
  refine awp_seq fun K4 hK4 => ?_
  refine awp_condQ (q := (i) < ((w).length)) rfl (fun h1 => ?_) (fun h1 => ?_)
  · refine awp_skip ?_
    refine hK4 _ ?_
    refine awp_seq fun K5 hK5 => ?_
    refine awp_block ?_
    refine awp_seq fun K6 hK6 => ?_
    refine awp_region rfl ?_
    refine i_index (w) (i) Gd.none Xa_tE22 rfl rfl (by omega) ?_
    refine i_loadI (w) (i) Gd.none Xa_tS3 rfl (by omega) ?_
    refine o_assign (AV.lit (.int .i64 ((w).getD (i) 0))) Gd.none rfl ?_
    refine aops_end ?_
    refine hK6 _ ?_
    refine awp_seq fun K7 hK7 => ?_
    refine awp_region rfl ?_
    refine o_move (AV.lit (.int .i64 ((w).getD (i) 0))) Gd.none rfl ?_
    refine o_lss (a := ((w).getD (i) 0)) (c := (((0 : Nat) : Int))) Gd.none rfl rfl ?_
    refine o_move (bp (((w).getD (i) 0) < (((0 : Nat) : Int)))) Gd.none rfl ?_
    refine o_splitP (q := ((w).getD (i) 0) < (((0 : Nat) : Int))) 15 rfl (fun h2 => ?_) (fun h2 => ?_)
    · refine o_skip (b := decide (((w).getD (i) 0) < (((0 : Nat) : Int)))) rfl rfl (decide_eq_true h2) ?_
      refine o_skip (b := decide (((w).getD (i) 0) < (((0 : Nat) : Int)))) rfl rfl (decide_eq_true h2) ?_
      refine o_skip (b := decide (((w).getD (i) 0) < (((0 : Nat) : Int)))) rfl rfl (decide_eq_true h2) ?_
      refine o_skip (b := decide (((w).getD (i) 0) < (((0 : Nat) : Int)))) rfl rfl (decide_eq_true h2) ?_
      refine o_pickT (b := decide (((w).getD (i) 0) < (((0 : Nat) : Int)))) (AV.lit (.bool true)) Gd.none rfl (decide_eq_true h2) rfl ?_
      refine aops_end ?_
      refine hK7 _ ?_
      refine awp_condB (b := true) rfl (fun _ => ?_) (fun hh => absurd (hh.symm.trans rfl) (by decide))
      refine awp_seq fun K8 hK8 => ?_
      refine awp_region rfl ?_
      refine o_assign (AV.lit (.bool false)) Gd.none rfl ?_
      refine aops_end ?_
      refine hK8 _ ?_
      refine awp_ret ?_
      refine post_ret ⟨[(AV.lit (.bool false))], And.intro (AV.le_refl _) (trivial), rfl, ?_⟩
      exact (bl_bp (b := false) ⟨fun h => (by cases h), fun h => absurd h (fun hh => absurd (isW_get hh.1 h1).1 (by omega))⟩).symm
    · refine o_move (AV.lit (.int .i64 ((w).getD (i) 0))) (Gd.yes rfl rfl (decide_eq_false h2)) rfl ?_
      refine o_fieldRef 0 (Gd.yes rfl rfl (decide_eq_false h2)) Xa_tF24_0 rfl rfl ?_
      refine o_loadS (AV.lit (.int .i64 (m.mod))) (Gd.yes rfl rfl (decide_eq_false h2)) Xa_tS3 rfl rfl rfl ?_
      refine o_geq (a := ((w).getD (i) 0)) (c := (m.mod)) (Gd.yes rfl rfl (decide_eq_false h2)) rfl rfl ?_
      refine o_pickF (b := decide (((w).getD (i) 0) < (((0 : Nat) : Int)))) (bp ((m.mod) ≤ ((w).getD (i) 0))) Gd.none rfl (decide_eq_false h2) rfl ?_
      refine aops_end ?_
      refine hK7 _ ?_
      refine awp_condQ (q := (m.mod) ≤ ((w).getD (i) 0)) rfl (fun h3 => ?_) (fun h3 => ?_)
      · refine awp_seq fun K9 hK9 => ?_
        refine awp_region rfl ?_
        refine o_assign (AV.lit (.bool false)) Gd.none rfl ?_
        refine aops_end ?_
        refine hK9 _ ?_
        refine awp_ret ?_
        refine post_ret ⟨[(AV.lit (.bool false))], And.intro (AV.le_refl _) (trivial), rfl, ?_⟩
        exact (bl_bp (b := false) ⟨fun h => (by cases h), fun h => absurd h (fun hh => absurd (isW_get hh.1 h1).2 (by omega))⟩).symm
      · refine awp_skip ?_
        refine hK5 _ ?_
        refine awp_region rfl ?_
        refine n_add (i) (1) Gd.none rfl rfl (by simp only [topOf]; omega) ?_
        refine o_move (nm .i64 ((i) + (1))) Gd.none rfl ?_
        refine aops_end ?_
        refine ⟨_, _, ?lt, ⟨i + 1, (by omega), (fun k hk => by rcases Nat.lt_or_ge k i with e | e; exact hf k e; rw [show k = i by omega]; omega), rfl, rfl⟩, ?wk⟩
        case lt => omega
        case wk => exact Wk.sub (And.intro (by exact rfl) (And.intro (by exact rfl) (And.intro (by exact rfl) (And.intro (by exact rfl) (And.intro (by first | rfl | exact congrArg (nm _) (by omega) | exact nm_int (by omega) | exact nm_int (by simp [IntKind.wrap, IntKind.bits, IntKind.signed]; omega)) (trivial)))))) (And.intro (by first | rfl | exact row_ns (by simp) | exact congrArg (fun x => some (AO.blk (.stringIter _ x))) (by omega)) (trivial))
  · refine awp_exit ?_
    refine hK1 _ ?_
    refine awp_seq fun K10 hK10 => ?_
    refine awp_region rfl ?_
    refine o_move (AV.sl 1 (is .i64 (w))) Gd.none rfl ?_
    refine i_len (w) Gd.none Xa_tU22 rfl ?_
    refine n_leq ((w).length) (200) Gd.none rfl rfl ?_
    refine o_assign (bp (((w).length) ≤ (200))) Gd.none rfl ?_
    refine aops_end ?_
    refine hK10 _ ?_
    refine awp_ret ?_
    refine post_ret ⟨[(bp (((w).length) ≤ (200)))], And.intro (AV.le_refl _) (trivial), rfl, ?_⟩
    exact bp_congr ⟨fun h => h.2, fun h => ⟨isW_of fun k hk => hf k (by omega), h⟩⟩

theorem c_oOf (m : MapM) (w : List Int) (hM : OkM m) (hw : IsW m w) (hl : w.length ≤ 200) : ECalls cx 56 [(mapV m), (AV.sl 1 (is .i64 (w)))] (linW (lineZ m w)) := by
  refine ecalls_of_awp Tryd.func56 (c := _) rfl (Nat.le_of_ble_eq_true rfl) ?_
  show awp cx 25 _ (postF cx Tryd.f56 _) ⟨[(0, (mapV m)), (1, (AV.sl 1 (is .i64 (w))))], []⟩
  have hM2 := hM
  obtain ⟨o1, o2, o3, o4, o5⟩ := hM2
  refine awp_seq fun K0 hK0 => ?_
  refine awp_region rfl ?_
  refine o_box 2 [(AV.lit (.int .i64 (m.mod))), (AV.sl 1 (is .i64 (m.mul))), (AV.sl 1 (is .i64 (m.add)))] Gd.none rfl rfl ?_
  refine o_alloc 3 [(AV.lit (.bool false)), (AV.lit (.slice none 0 0)), (AV.lit (.bool false)), (AV.lit (.slice none 0 0)), (AV.lit (.bool false)), (AV.lit (.slice none 0 0))] Gd.none Xa_tO89 rfl rfl rfl ?_
  refine aops_end ?_
  refine hK0 _ ?_
  refine awp_seq fun K1 hK1 => ?_
  refine awp_region rfl ?_
  refine o_call [(nm .i64 (1))] (intW ((1 : Int))) Gd.none Xa_tC59 rfl (c_wOf ((1 : Int)) (by first | decide | omega) (by first | decide | omega)) ?_
  refine o_call [(nm .i64 (0))] (intW ((0 : Int))) Gd.none Xa_tC59 rfl (c_wOf ((0 : Int)) (by first | decide | omega) (by first | decide | omega)) ?_
  refine o_call [(nm .i64 (1))] (intW ((1 : Int))) Gd.none Xa_tC59 rfl (c_wOf ((1 : Int)) (by first | decide | omega) (by first | decide | omega)) ?_
  refine o_build [(bp ((1 : Int) < 0)), (AV.sl 1 (ns .u32 (digs ((1 : Int)).natAbs))), (bp ((0 : Int) < 0)), (AV.sl 1 (ns .u32 (digs ((0 : Int)).natAbs))), (bp ((1 : Int) < 0)), (AV.sl 1 (ns .u32 (digs ((1 : Int)).natAbs)))] [(0, [(bp ((1 : Int) < 0)), (AV.sl 1 (ns .u32 (digs ((1 : Int)).natAbs)))]), (1, [(bp ((0 : Int) < 0)), (AV.sl 1 (ns .u32 (digs ((0 : Int)).natAbs)))]), (2, [(bp ((1 : Int) < 0)), (AV.sl 1 (ns .u32 (digs ((1 : Int)).natAbs)))])] Gd.none Xa_tP89 Xa_tO89 rfl rfl rfl ?_
  refine o_alloc 4 [(AV.lit (.bool false)), (AV.lit (.slice none 0 0)), (AV.lit (.bool false)), (AV.lit (.slice none 0 0)), (AV.lit (.bool false)), (AV.lit (.slice none 0 0))] Gd.none Xa_tO89 rfl rfl rfl ?_
  refine o_store [(4, (AO.var 89 [(bp ((1 : Int) < 0)), (AV.sl 1 (ns .u32 (digs ((1 : Int)).natAbs))), (bp ((0 : Int) < 0)), (AV.sl 1 (ns .u32 (digs ((0 : Int)).natAbs))), (bp ((1 : Int) < 0)), (AV.sl 1 (ns .u32 (digs ((1 : Int)).natAbs)))])), (3, (AO.var 89 [(AV.lit (.bool false)), (AV.lit (.slice none 0 0)), (AV.lit (.bool false)), (AV.lit (.slice none 0 0)), (AV.lit (.bool false)), (AV.lit (.slice none 0 0))])), (2, (AO.var 24 [(AV.lit (.int .i64 (m.mod))), (AV.sl 1 (is .i64 (m.mul))), (AV.sl 1 (is .i64 (m.add)))]))] Gd.none Xa_tZ89 rfl rfl rfl rfl rfl rfl ?_
  refine aops_end ?_
  refine hK1 _ ?_
  refine awp_seq fun K2 hK2 => ?_
  refine awp_region rfl ?_
  refine o_makeFunc [(AV.ref 2 (0)), (AV.ref 4 (0))] Gd.none rfl ?_
  refine o_assign (AV.clo 84 [(AV.ref 2 (0)), (AV.ref 4 (0))]) Gd.none rfl ?_
  refine aops_end ?_
  refine hK2 _ ?_
  refine awp_seq fun K3 hK3 => ?_
  refine awp_seq fun K4 hK4 => ?_
  refine awp_region rfl ?_
  refine o_move (AV.sl 1 (is .i64 (w))) Gd.none rfl ?_
  refine i_len (w) Gd.none Xa_tU22 rfl ?_
  refine o_move (nm .i64 (0)) Gd.none rfl ?_
  refine aops_end ?_
  refine hK4 _ ?_
  refine awp_block ?_
  refine awp_loopR (fun κ σ => ∃ (i : Nat), ∃ (l : LinZ), (i ≤ w.length) ∧ (l = lineZ m (w.take i)) ∧ (w.length - i) = κ ∧ σ = ⟨[(2, (AV.ref 2 (0))), (4, (AV.ref 3 (0))), (5, (AV.ref 4 (0))), (6, (AV.clo 84 [(AV.ref 2 (0)), (AV.ref 4 (0))])), (14, (AV.sl 1 (is .i64 (w)))), (15, (nm .i64 ((w).length))), (16, (nm .i64 (i)))], [(2, (AO.var 24 [(AV.lit (.int .i64 (m.mod))), (AV.sl 1 (is .i64 (m.mul))), (AV.sl 1 (is .i64 (m.add)))])), (3, (AO.var 89 [(AV.lit (.bool false)), (AV.lit (.slice none 0 0)), (AV.lit (.bool false)), (AV.lit (.slice none 0 0)), (AV.lit (.bool false)), (AV.lit (.slice none 0 0))])), (4, (AO.var 89 [(bp (((l).mul) < 0)), (AV.sl 1 (ns .u32 (digs ((l).mul).natAbs))), (bp (((l).add) < 0)), (AV.sl 1 (ns .u32 (digs ((l).add).natAbs))), (bp (((l).div) < 0)), (AV.sl 1 (ns .u32 (digs ((l).div).natAbs)))]))]⟩) ⟨_, _, ⟨0, oneZ, (by omega), rfl, rfl, rfl⟩, ?wk0⟩ ?rd0
  case wk0 =>
    exact Wk.sub (And.intro (by exact rfl) (And.intro (by exact rfl) (And.intro (by exact rfl) (And.intro (by exact rfl) (And.intro (by exact rfl) (And.intro (by exact rfl) (And.intro (by first | rfl | exact congrArg (nm _) (by omega) | exact nm_int (by omega) | exact nm_int (by simp [IntKind.wrap, IntKind.bits, IntKind.signed]; omega)) (trivial)))))))) (And.intro (by first | rfl | exact row_ns (by simp) | exact congrArg (fun x => some (AO.blk (.stringIter _ x))) (by omega)) (And.intro (by first | rfl | exact row_ns (by simp) | exact congrArg (fun x => some (AO.blk (.stringIter _ x))) (by omega)) (And.intro (by first | rfl | exact row_ns (by simp) | exact congrArg (fun x => some (AO.blk (.stringIter _ x))) (by omega)) (trivial))))
  rintro κ _ ⟨i, l, hi, hl2, rfl, rfl⟩
  refine awp_seq fun K5 hK5 => ?_
  refine awp_region rfl ?_
  refine n_lss (i) ((w).length) Gd.none rfl rfl ?_
  refine aops_end ?_
  refine hK5 _ ?_
  refine awp_seq fun K6 hK6 => ?_
  refine awp_condQ (q := (i) < ((w).length)) rfl (fun h1 => ?_) (fun h1 => ?_)
  · have hwi := isW_get hw h1
    refine awp_skip ?_
    refine hK6 _ ?_
    refine awp_seq fun K7 hK7 => ?_
    refine awp_block ?_
    refine awp_seq fun K8 hK8 => ?_
    refine awp_region rfl ?_
    refine i_index (w) (i) Gd.none Xa_tE22 rfl rfl (by omega) ?_
    refine i_loadI (w) (i) Gd.none Xa_tS3 rfl (by omega) ?_
    refine n_as (v' := (nm .i64 (((w).getD (i) 0).toNat))) (nm_int (by omega)) ?_
    refine o_assign (nm .i64 (((w).getD (i) 0).toNat)) Gd.none rfl ?_
    refine aops_end ?_
    refine hK8 _ ?_
    refine awp_wk (σ' := ⟨[(2, (AV.ref 2 (0))), (4, (AV.ref 3 (0))), (5, (AV.ref 4 (0))), (6, (AV.clo 84 [(AV.ref 2 (0)), (AV.ref 4 (0))])), (14, (AV.sl 1 (is .i64 (w)))), (15, (nm .i64 ((w).length))), (16, (nm .i64 (i))), (17, (bp ((i) < ((w).length)))), (18, (AV.ip ((is .i64 (w)).drop (i)))), (19, (nm .i64 (((w).getD (i) 0).toNat))), (8, (nm .i64 (((w).getD (i) 0).toNat)))], [(2, (AO.var 24 [(AV.lit (.int .i64 (m.mod))), (AV.sl 1 (is .i64 (m.mul))), (AV.sl 1 (is .i64 (m.add)))])), (3, (AO.var 89 [(AV.lit (.bool false)), (AV.lit (.slice none 0 0)), (AV.lit (.bool false)), (AV.lit (.slice none 0 0)), (AV.lit (.bool false)), (AV.lit (.slice none 0 0))])), (4, (AO.var 89 [(bp (((l).mul) < 0)), (AV.sl 1 (ns .u32 (digs ((l).mul).natAbs))), (bp (((l).add) < 0)), (AV.sl 1 (ns .u32 (digs ((l).add).natAbs))), (bp (((l).div) < 0)), (AV.sl 1 (ns .u32 (digs ((l).div).natAbs)))]))]⟩) (Wk.sub (And.intro rfl (And.intro rfl (And.intro rfl (And.intro rfl (And.intro rfl (And.intro rfl (And.intro rfl (And.intro rfl (And.intro rfl (And.intro rfl (And.intro rfl (trivial)))))))))))) (And.intro rfl (And.intro rfl (And.intro rfl (trivial))))) ?_
    refine awp_regionSK 2 22 _ 84 [(AV.ref 2 (0)), (AV.ref 4 (0))] _ _ _ _ _ [(nm .i64 (((w).getD (i) 0).toNat)), (AV.ref 2 (0)), (AV.ref 4 (0))] (linW (thenZ m l ((w).getD (i) 0))) [(2, (AO.var 24 [(AV.lit (.int .i64 (m.mod))), (AV.sl 1 (is .i64 (m.mul))), (AV.sl 1 (is .i64 (m.add)))])), (3, (AO.var 89 [(AV.lit (.bool false)), (AV.lit (.slice none 0 0)), (AV.lit (.bool false)), (AV.lit (.slice none 0 0)), (AV.lit (.bool false)), (AV.lit (.slice none 0 0))])), (4, (AO.var 89 [(bp (((l).mul) < 0)), (AV.sl 1 (ns .u32 (digs ((l).mul).natAbs))), (bp (((l).add) < 0)), (AV.sl 1 (ns .u32 (digs ((l).add).natAbs))), (bp (((l).div) < 0)), (AV.sl 1 (ns .u32 (digs ((l).div).natAbs)))]))] rfl rfl Xa_tC84 ?_
    refine o_move (AV.clo 84 [(AV.ref 2 (0)), (AV.ref 4 (0))]) Gd.none rfl ?_
    refine o_move (nm .i64 (((w).getD (i) 0).toNat)) Gd.none rfl ?_
    refine aops_end ⟨rfl, rfl, ?sc1, ?_⟩
    case sc1 =>
      refine scalls_of_awpB 9010 Tryd.func84 (c := _) rfl (Nat.le_of_ble_eq_true rfl) rfl rfl rfl (fun us1 => ?_)
      show awp cx 37 _ (postS cx Tryd.f84 (linW (thenZ m l ((w).getD (i) 0))) [(2, (AO.var 24 [(AV.lit (.int .i64 (m.mod))), (AV.sl 1 (is .i64 (m.mul))), (AV.sl 1 (is .i64 (m.add)))])), (3, (AO.var 89 [(AV.lit (.bool false)), (AV.lit (.slice none 0 0)), (AV.lit (.bool false)), (AV.lit (.slice none 0 0)), (AV.lit (.bool false)), (AV.lit (.slice none 0 0))])), (4, (AO.var 89 [(bp (((l).mul) < 0)), (AV.sl 1 (ns .u32 (digs ((l).mul).natAbs))), (bp (((l).add) < 0)), (AV.sl 1 (ns .u32 (digs ((l).add).natAbs))), (bp (((l).div) < 0)), (AV.sl 1 (ns .u32 (digs ((l).div).natAbs)))]))] 9010 [(nm .i64 (((w).getD (i) 0).toNat)), (AV.clo 84 [(AV.ref 2 (0)), (AV.ref 4 (0))]), (AV.ref 2 (0)), (AV.ref 3 (0)), (AV.ref 4 (0)), (AV.clo 84 [(AV.ref 2 (0)), (AV.ref 4 (0))]), (AV.sl 1 (is .i64 (w))), (nm .i64 ((w).length)), (nm .i64 (i)), (bp ((i) < ((w).length))), (AV.ip ((is .i64 (w)).drop (i))), (nm .i64 (((w).getD (i) 0).toNat)), (nm .i64 (((w).getD (i) 0).toNat))] us1) ⟨[(0, (nm .i64 (((w).getD (i) 0).toNat))), (1, (AV.ref 2 (0))), (2, (AV.ref 4 (0)))], [(9010, (AO.pin [(nm .i64 (((w).getD (i) 0).toNat)), (AV.clo 84 [(AV.ref 2 (0)), (AV.ref 4 (0))]), (AV.ref 2 (0)), (AV.ref 3 (0)), (AV.ref 4 (0)), (AV.clo 84 [(AV.ref 2 (0)), (AV.ref 4 (0))]), (AV.sl 1 (is .i64 (w))), (nm .i64 ((w).length)), (nm .i64 (i)), (bp ((i) < ((w).length))), (AV.ip ((is .i64 (w)).drop (i))), (nm .i64 (((w).getD (i) 0).toNat)), (nm .i64 (((w).getD (i) 0).toNat))] us1)), (2, (AO.var 24 [(AV.lit (.int .i64 (m.mod))), (AV.sl 1 (is .i64 (m.mul))), (AV.sl 1 (is .i64 (m.add)))])), (3, (AO.var 89 [(AV.lit (.bool false)), (AV.lit (.slice none 0 0)), (AV.lit (.bool false)), (AV.lit (.slice none 0 0)), (AV.lit (.bool false)), (AV.lit (.slice none 0 0))])), (4, (AO.var 89 [(bp (((l).mul) < 0)), (AV.sl 1 (ns .u32 (digs ((l).mul).natAbs))), (bp (((l).add) < 0)), (AV.sl 1 (ns .u32 (digs ((l).add).natAbs))), (bp (((l).div) < 0)), (AV.sl 1 (ns .u32 (digs ((l).div).natAbs)))]))]⟩
      have hor := o5 (((w).getD (i) 0).toNat) (by omega)
      obtain ⟨L1, L2, L3⟩ := line_len hM (w.take i) (isW_take hw i)
      have L4 : (w.take i).length ≤ 200 := by rw [List.length_take]; omega
      rw [← hl2] at L1 L2 L3
      have hq1 := small_len (z := ((m.mul).getD (((w).getD (i) 0).toNat) 0)) (by omega)
      have ha1 := small_len (z := ((m.add).getD (((w).getD (i) 0).toNat) 0)) (by omega)
      have hd1 := small_len (z := m.mod) (by omega)
      have hm1 := len_mulZ l.mul ((m.mul).getD (((w).getD (i) 0).toNat) 0)
      have hm2 := len_mulZ l.add ((m.mul).getD (((w).getD (i) 0).toNat) 0)
      have hm3 := len_mulZ l.div ((m.add).getD (((w).getD (i) 0).toNat) 0)
      refine awp_seq fun K9 hK9 => ?_
      refine awp_region rfl ?_
      refine o_alloc 101 [(AV.lit (.bool false)), (AV.lit (.slice none 0 0)), (AV.lit (.bool false)), (AV.lit (.slice none 0 0)), (AV.lit (.bool false)), (AV.lit (.slice none 0 0))] Gd.none Xa_tO89 rfl rfl rfl ?_
      refine aops_end ?_
      refine hK9 _ ?_
      refine awp_seq fun K10 hK10 => ?_
      refine awp_region rfl ?_
      refine o_fieldRef 1 Gd.none Xa_tF24_1 rfl rfl ?_
      refine o_loadS (AV.sl 1 (is .i64 (m.mul))) Gd.none Xa_tS22 rfl rfl rfl ?_
      refine o_move (nm .i64 (((w).getD (i) 0).toNat)) Gd.none rfl ?_
      refine i_index (m.mul) (((w).getD (i) 0).toNat) Gd.none Xa_tE22 rfl rfl (by omega) ?_
      refine i_loadI (m.mul) (((w).getD (i) 0).toNat) Gd.none Xa_tS3 rfl (by omega) ?_
      refine o_call [(AV.lit (.int .i64 ((m.mul).getD (((w).getD (i) 0).toNat) 0)))] (intW ((m.mul).getD (((w).getD (i) 0).toNat) 0)) Gd.none Xa_tC59 rfl (c_wOf ((m.mul).getD (((w).getD (i) 0).toNat) 0) (by first | decide | omega) (by first | decide | omega)) ?_
      refine o_alloc 102 [(AV.lit (.bool false)), (AV.lit (.slice none 0 0))] Gd.none Xa_tO79 rfl rfl rfl ?_
      refine o_store [(102, (AO.var 79 [(bp ((m.mul).getD (((w).getD (i) 0).toNat) 0 < 0)), (AV.sl 1 (ns .u32 (digs ((m.mul).getD (((w).getD (i) 0).toNat) 0).natAbs)))])), (101, (AO.var 89 [(AV.lit (.bool false)), (AV.lit (.slice none 0 0)), (AV.lit (.bool false)), (AV.lit (.slice none 0 0)), (AV.lit (.bool false)), (AV.lit (.slice none 0 0))])), (9010, (AO.pin [(nm .i64 (((w).getD (i) 0).toNat)), (AV.clo 84 [(AV.ref 2 (0)), (AV.ref 4 (0))]), (AV.ref 2 (0)), (AV.ref 3 (0)), (AV.ref 4 (0)), (AV.clo 84 [(AV.ref 2 (0)), (AV.ref 4 (0))]), (AV.sl 1 (is .i64 (w))), (nm .i64 ((w).length)), (nm .i64 (i)), (bp ((i) < ((w).length))), (AV.ip ((is .i64 (w)).drop (i))), (nm .i64 (((w).getD (i) 0).toNat)), (nm .i64 (((w).getD (i) 0).toNat))] us1)), (2, (AO.var 24 [(AV.lit (.int .i64 (m.mod))), (AV.sl 1 (is .i64 (m.mul))), (AV.sl 1 (is .i64 (m.add)))])), (3, (AO.var 89 [(AV.lit (.bool false)), (AV.lit (.slice none 0 0)), (AV.lit (.bool false)), (AV.lit (.slice none 0 0)), (AV.lit (.bool false)), (AV.lit (.slice none 0 0))])), (4, (AO.var 89 [(bp (((l).mul) < 0)), (AV.sl 1 (ns .u32 (digs ((l).mul).natAbs))), (bp (((l).add) < 0)), (AV.sl 1 (ns .u32 (digs ((l).add).natAbs))), (bp (((l).div) < 0)), (AV.sl 1 (ns .u32 (digs ((l).div).natAbs)))]))] Gd.none Xa_tZ79 rfl rfl rfl rfl rfl rfl ?_
      refine aops_end ?_
      refine hK10 _ ?_
      refine awp_seq fun K11 hK11 => ?_
      refine awp_regionD rfl ?_
      refine o_fieldRef 0 Gd.none Xa_tF89_0 rfl rfl ?_
      refine o_loadA [(bp (((l).mul) < 0)), (AV.sl 1 (ns .u32 (digs ((l).mul).natAbs)))] Gd.none Xa_tA79 rfl rfl rfl rfl rfl ?_
      refine o_loadA [(bp ((m.mul).getD (((w).getD (i) 0).toNat) 0 < 0)), (AV.sl 1 (ns .u32 (digs ((m.mul).getD (((w).getD (i) 0).toNat) 0).natAbs)))] Gd.none Xa_tA79 rfl rfl rfl rfl rfl ?_
      refine o_call [(AV.agg [(bp (((l).mul) < 0)), (AV.sl 1 (ns .u32 (digs ((l).mul).natAbs)))]), (AV.agg [(bp ((m.mul).getD (((w).getD (i) 0).toNat) 0 < 0)), (AV.sl 1 (ns .u32 (digs ((m.mul).getD (((w).getD (i) 0).toNat) 0).natAbs)))])] (intW ((((l).mul) * (m.mul).getD (((w).getD (i) 0).toNat) 0))) Gd.none Xa_tC60 rfl (c_wMul (((l).mul)) ((m.mul).getD (((w).getD (i) 0).toNat) 0) (by first | assumption | omega | (simp only [Int.natAbs_neg]; omega)) (by first | assumption | omega | (simp only [Int.natAbs_neg]; omega))) ?_
      refine o_fieldRef 2 Gd.none Xa_tF89_1 rfl rfl ?_
      refine o_loadA [(bp (((l).add) < 0)), (AV.sl 1 (ns .u32 (digs ((l).add).natAbs)))] Gd.none Xa_tA79 rfl rfl rfl rfl rfl ?_
      refine o_loadA [(bp ((m.mul).getD (((w).getD (i) 0).toNat) 0 < 0)), (AV.sl 1 (ns .u32 (digs ((m.mul).getD (((w).getD (i) 0).toNat) 0).natAbs)))] Gd.none Xa_tA79 rfl rfl rfl rfl rfl ?_
      refine o_call [(AV.agg [(bp (((l).add) < 0)), (AV.sl 1 (ns .u32 (digs ((l).add).natAbs)))]), (AV.agg [(bp ((m.mul).getD (((w).getD (i) 0).toNat) 0 < 0)), (AV.sl 1 (ns .u32 (digs ((m.mul).getD (((w).getD (i) 0).toNat) 0).natAbs)))])] (intW ((((l).add) * (m.mul).getD (((w).getD (i) 0).toNat) 0))) Gd.none Xa_tC60 rfl (c_wMul (((l).add)) ((m.mul).getD (((w).getD (i) 0).toNat) 0) (by first | assumption | omega | (simp only [Int.natAbs_neg]; omega)) (by first | assumption | omega | (simp only [Int.natAbs_neg]; omega))) ?_
      refine o_fieldRef 4 Gd.none Xa_tF89_2 rfl rfl ?_
      refine o_loadA [(bp (((l).div) < 0)), (AV.sl 1 (ns .u32 (digs ((l).div).natAbs)))] Gd.none Xa_tA79 rfl rfl rfl rfl rfl ?_
      refine o_fieldRef 2 Gd.none Xa_tF24_2 rfl rfl ?_
      refine o_loadS (AV.sl 1 (is .i64 (m.add))) Gd.none Xa_tS22 rfl rfl rfl ?_
      refine o_move (nm .i64 (((w).getD (i) 0).toNat)) Gd.none rfl ?_
      refine i_index (m.add) (((w).getD (i) 0).toNat) Gd.none Xa_tE22 rfl rfl (by omega) ?_
      refine i_loadI (m.add) (((w).getD (i) 0).toNat) Gd.none Xa_tS3 rfl (by omega) ?_
      refine o_call [(AV.lit (.int .i64 ((m.add).getD (((w).getD (i) 0).toNat) 0)))] (intW ((m.add).getD (((w).getD (i) 0).toNat) 0)) Gd.none Xa_tC59 rfl (c_wOf ((m.add).getD (((w).getD (i) 0).toNat) 0) (by first | decide | omega) (by first | decide | omega)) ?_
      refine o_call [(AV.agg [(bp (((l).div) < 0)), (AV.sl 1 (ns .u32 (digs ((l).div).natAbs)))]), (intW ((m.add).getD (((w).getD (i) 0).toNat) 0))] (intW ((((l).div) * (m.add).getD (((w).getD (i) 0).toNat) 0))) Gd.none Xa_tC60 rfl (c_wMul (((l).div)) ((m.add).getD (((w).getD (i) 0).toNat) 0) (by first | assumption | omega | (simp only [Int.natAbs_neg]; omega)) (by first | assumption | omega | (simp only [Int.natAbs_neg]; omega))) ?_
      refine o_call [(intW ((((l).add) * (m.mul).getD (((w).getD (i) 0).toNat) 0))), (intW ((((l).div) * (m.add).getD (((w).getD (i) 0).toNat) 0)))] (intW (((((l).add) * (m.mul).getD (((w).getD (i) 0).toNat) 0) + (((l).div) * (m.add).getD (((w).getD (i) 0).toNat) 0)))) Gd.none Xa_tC61 rfl (c_wAdd ((((l).add) * (m.mul).getD (((w).getD (i) 0).toNat) 0)) ((((l).div) * (m.add).getD (((w).getD (i) 0).toNat) 0)) (by first | assumption | omega | (simp only [Int.natAbs_neg]; omega)) (by first | assumption | omega | (simp only [Int.natAbs_neg]; omega))) ?_
      refine o_fieldRef 4 Gd.none Xa_tF89_2 rfl rfl ?_
      refine o_loadA [(bp (((l).div) < 0)), (AV.sl 1 (ns .u32 (digs ((l).div).natAbs)))] Gd.none Xa_tA79 rfl rfl rfl rfl rfl ?_
      refine o_fieldRef 0 Gd.none Xa_tF24_0 rfl rfl ?_
      refine o_loadS (AV.lit (.int .i64 (m.mod))) Gd.none Xa_tS3 rfl rfl rfl ?_
      refine o_call [(AV.lit (.int .i64 (m.mod)))] (intW ((m.mod))) Gd.none Xa_tC59 rfl (c_wOf (m.mod) (by first | decide | omega) (by first | decide | omega)) ?_
      refine o_call [(AV.agg [(bp (((l).div) < 0)), (AV.sl 1 (ns .u32 (digs ((l).div).natAbs)))]), (intW ((m.mod)))] (intW ((((l).div) * (m.mod)))) Gd.none Xa_tC60 rfl (c_wMul (((l).div)) ((m.mod)) (by first | assumption | omega | (simp only [Int.natAbs_neg]; omega)) (by first | assumption | omega | (simp only [Int.natAbs_neg]; omega))) ?_
      refine o_build [(bp ((((l).mul) * (m.mul).getD (((w).getD (i) 0).toNat) 0) < 0)), (AV.sl 1 (ns .u32 (digs ((((l).mul) * (m.mul).getD (((w).getD (i) 0).toNat) 0)).natAbs))), (bp (((((l).add) * (m.mul).getD (((w).getD (i) 0).toNat) 0) + (((l).div) * (m.add).getD (((w).getD (i) 0).toNat) 0)) < 0)), (AV.sl 1 (ns .u32 (digs (((((l).add) * (m.mul).getD (((w).getD (i) 0).toNat) 0) + (((l).div) * (m.add).getD (((w).getD (i) 0).toNat) 0))).natAbs))), (bp ((((l).div) * (m.mod)) < 0)), (AV.sl 1 (ns .u32 (digs ((((l).div) * (m.mod))).natAbs)))] [(0, [(bp ((((l).mul) * (m.mul).getD (((w).getD (i) 0).toNat) 0) < 0)), (AV.sl 1 (ns .u32 (digs ((((l).mul) * (m.mul).getD (((w).getD (i) 0).toNat) 0)).natAbs)))]), (1, [(bp (((((l).add) * (m.mul).getD (((w).getD (i) 0).toNat) 0) + (((l).div) * (m.add).getD (((w).getD (i) 0).toNat) 0)) < 0)), (AV.sl 1 (ns .u32 (digs (((((l).add) * (m.mul).getD (((w).getD (i) 0).toNat) 0) + (((l).div) * (m.add).getD (((w).getD (i) 0).toNat) 0))).natAbs)))]), (2, [(bp ((((l).div) * (m.mod)) < 0)), (AV.sl 1 (ns .u32 (digs ((((l).div) * (m.mod))).natAbs)))])] Gd.none Xa_tP89 Xa_tO89 rfl rfl rfl ?_
      refine o_store [(102, (AO.var 79 [(bp ((m.mul).getD (((w).getD (i) 0).toNat) 0 < 0)), (AV.sl 1 (ns .u32 (digs ((m.mul).getD (((w).getD (i) 0).toNat) 0).natAbs)))])), (101, (AO.var 89 [(bp ((((l).mul) * (m.mul).getD (((w).getD (i) 0).toNat) 0) < 0)), (AV.sl 1 (ns .u32 (digs ((((l).mul) * (m.mul).getD (((w).getD (i) 0).toNat) 0)).natAbs))), (bp (((((l).add) * (m.mul).getD (((w).getD (i) 0).toNat) 0) + (((l).div) * (m.add).getD (((w).getD (i) 0).toNat) 0)) < 0)), (AV.sl 1 (ns .u32 (digs (((((l).add) * (m.mul).getD (((w).getD (i) 0).toNat) 0) + (((l).div) * (m.add).getD (((w).getD (i) 0).toNat) 0))).natAbs))), (bp ((((l).div) * (m.mod)) < 0)), (AV.sl 1 (ns .u32 (digs ((((l).div) * (m.mod))).natAbs)))])), (9010, (AO.pin [(nm .i64 (((w).getD (i) 0).toNat)), (AV.clo 84 [(AV.ref 2 (0)), (AV.ref 4 (0))]), (AV.ref 2 (0)), (AV.ref 3 (0)), (AV.ref 4 (0)), (AV.clo 84 [(AV.ref 2 (0)), (AV.ref 4 (0))]), (AV.sl 1 (is .i64 (w))), (nm .i64 ((w).length)), (nm .i64 (i)), (bp ((i) < ((w).length))), (AV.ip ((is .i64 (w)).drop (i))), (nm .i64 (((w).getD (i) 0).toNat)), (nm .i64 (((w).getD (i) 0).toNat))] us1)), (2, (AO.var 24 [(AV.lit (.int .i64 (m.mod))), (AV.sl 1 (is .i64 (m.mul))), (AV.sl 1 (is .i64 (m.add)))])), (3, (AO.var 89 [(AV.lit (.bool false)), (AV.lit (.slice none 0 0)), (AV.lit (.bool false)), (AV.lit (.slice none 0 0)), (AV.lit (.bool false)), (AV.lit (.slice none 0 0))])), (4, (AO.var 89 [(bp (((l).mul) < 0)), (AV.sl 1 (ns .u32 (digs ((l).mul).natAbs))), (bp (((l).add) < 0)), (AV.sl 1 (ns .u32 (digs ((l).add).natAbs))), (bp (((l).div) < 0)), (AV.sl 1 (ns .u32 (digs ((l).div).natAbs)))]))] Gd.none Xa_tZ89 rfl rfl rfl rfl rfl rfl ?_
      refine aops_end ⟨by kernel_rfl, ?_⟩
      refine hK11 _ ?_
      refine awp_wk (σ' := ⟨[(4, (AV.ref 101 (0)))], [(9010, (AO.pin [(nm .i64 (((w).getD (i) 0).toNat)), (AV.clo 84 [(AV.ref 2 (0)), (AV.ref 4 (0))]), (AV.ref 2 (0)), (AV.ref 3 (0)), (AV.ref 4 (0)), (AV.clo 84 [(AV.ref 2 (0)), (AV.ref 4 (0))]), (AV.sl 1 (is .i64 (w))), (nm .i64 ((w).length)), (nm .i64 (i)), (bp ((i) < ((w).length))), (AV.ip ((is .i64 (w)).drop (i))), (nm .i64 (((w).getD (i) 0).toNat)), (nm .i64 (((w).getD (i) 0).toNat))] us1)), (2, (AO.var 24 [(AV.lit (.int .i64 (m.mod))), (AV.sl 1 (is .i64 (m.mul))), (AV.sl 1 (is .i64 (m.add)))])), (3, (AO.var 89 [(AV.lit (.bool false)), (AV.lit (.slice none 0 0)), (AV.lit (.bool false)), (AV.lit (.slice none 0 0)), (AV.lit (.bool false)), (AV.lit (.slice none 0 0))])), (4, (AO.var 89 [(bp (((l).mul) < 0)), (AV.sl 1 (ns .u32 (digs ((l).mul).natAbs))), (bp (((l).add) < 0)), (AV.sl 1 (ns .u32 (digs ((l).add).natAbs))), (bp (((l).div) < 0)), (AV.sl 1 (ns .u32 (digs ((l).div).natAbs)))])), (101, (AO.var 89 [(bp ((((l).mul) * (m.mul).getD (((w).getD (i) 0).toNat) 0) < 0)), (AV.sl 1 (ns .u32 (digs ((((l).mul) * (m.mul).getD (((w).getD (i) 0).toNat) 0)).natAbs))), (bp (((((l).add) * (m.mul).getD (((w).getD (i) 0).toNat) 0) + (((l).div) * (m.add).getD (((w).getD (i) 0).toNat) 0)) < 0)), (AV.sl 1 (ns .u32 (digs (((((l).add) * (m.mul).getD (((w).getD (i) 0).toNat) 0) + (((l).div) * (m.add).getD (((w).getD (i) 0).toNat) 0))).natAbs))), (bp ((((l).div) * (m.mod)) < 0)), (AV.sl 1 (ns .u32 (digs ((((l).div) * (m.mod))).natAbs)))]))]⟩) (Wk.sub (And.intro rfl (trivial)) (And.intro rfl (And.intro rfl (And.intro rfl (And.intro rfl (And.intro rfl (trivial))))))) ?_
      refine awp_ret ?_
      refine postS_ret (extra := [(101, (AO.var 89 [(bp ((((l).mul) * (m.mul).getD (((w).getD (i) 0).toNat) 0) < 0)), (AV.sl 1 (ns .u32 (digs ((((l).mul) * (m.mul).getD (((w).getD (i) 0).toNat) 0)).natAbs))), (bp (((((l).add) * (m.mul).getD (((w).getD (i) 0).toNat) 0) + (((l).div) * (m.add).getD (((w).getD (i) 0).toNat) 0)) < 0)), (AV.sl 1 (ns .u32 (digs (((((l).add) * (m.mul).getD (((w).getD (i) 0).toNat) 0) + (((l).div) * (m.add).getD (((w).getD (i) 0).toNat) 0))).natAbs))), (bp ((((l).div) * (m.mod)) < 0)), (AV.sl 1 (ns .u32 (digs ((((l).div) * (m.mod))).natAbs)))]))]) ⟨[(AV.agg [(bp ((((l).mul) * (m.mul).getD (((w).getD (i) 0).toNat) 0) < 0)), (AV.sl 1 (ns .u32 (digs ((((l).mul) * (m.mul).getD (((w).getD (i) 0).toNat) 0)).natAbs))), (bp (((((l).add) * (m.mul).getD (((w).getD (i) 0).toNat) 0) + (((l).div) * (m.add).getD (((w).getD (i) 0).toNat) 0)) < 0)), (AV.sl 1 (ns .u32 (digs (((((l).add) * (m.mul).getD (((w).getD (i) 0).toNat) 0) + (((l).div) * (m.add).getD (((w).getD (i) 0).toNat) 0))).natAbs))), (bp ((((l).div) * (m.mod)) < 0)), (AV.sl 1 (ns .u32 (digs ((((l).div) * (m.mod))).natAbs)))])], And.intro ⟨101, (AO.var 89 [(bp ((((l).mul) * (m.mul).getD (((w).getD (i) 0).toNat) 0) < 0)), (AV.sl 1 (ns .u32 (digs ((((l).mul) * (m.mul).getD (((w).getD (i) 0).toNat) 0)).natAbs))), (bp (((((l).add) * (m.mul).getD (((w).getD (i) 0).toNat) 0) + (((l).div) * (m.add).getD (((w).getD (i) 0).toNat) 0)) < 0)), (AV.sl 1 (ns .u32 (digs (((((l).add) * (m.mul).getD (((w).getD (i) 0).toNat) 0) + (((l).div) * (m.add).getD (((w).getD (i) 0).toNat) 0))).natAbs))), (bp ((((l).div) * (m.mod)) < 0)), (AV.sl 1 (ns .u32 (digs ((((l).div) * (m.mod))).natAbs)))]), rfl, rfl, rfl, Or.inl ⟨Xa_tA89, AV.le_refl _⟩⟩ (trivial), ?_⟩ rfl
      exact linK_eq (Int.mul_comm _ _) (congr (congrArg HAdd.hAdd (Int.mul_comm _ _)) (Int.mul_comm _ _)) rfl
    refine o_store [(2, (AO.var 24 [(AV.lit (.int .i64 (m.mod))), (AV.sl 1 (is .i64 (m.mul))), (AV.sl 1 (is .i64 (m.add)))])), (3, (AO.var 89 [(AV.lit (.bool false)), (AV.lit (.slice none 0 0)), (AV.lit (.bool false)), (AV.lit (.slice none 0 0)), (AV.lit (.bool false)), (AV.lit (.slice none 0 0))])), (4, (AO.var 89 [(bp (((thenZ m l ((w).getD (i) 0)).mul) < 0)), (AV.sl 1 (ns .u32 (digs ((thenZ m l ((w).getD (i) 0)).mul).natAbs))), (bp (((thenZ m l ((w).getD (i) 0)).add) < 0)), (AV.sl 1 (ns .u32 (digs ((thenZ m l ((w).getD (i) 0)).add).natAbs))), (bp (((thenZ m l ((w).getD (i) 0)).div) < 0)), (AV.sl 1 (ns .u32 (digs ((thenZ m l ((w).getD (i) 0)).div).natAbs)))]))] Gd.none Xa_tZ89 rfl rfl rfl rfl rfl rfl ?_
    refine aops_end ?_
    refine hK7 _ ?_
    refine awp_region rfl ?_
    refine n_add (i) (1) Gd.none rfl rfl (by simp only [topOf]; omega) ?_
    refine o_move (nm .i64 ((i) + (1))) Gd.none rfl ?_
    refine aops_end ?_
    refine ⟨_, _, ?lt, ⟨i + 1, (thenZ m l ((w).getD (i) 0)), (by omega), (by rw [hl2]; exact lineZ_next h1), rfl, rfl⟩, ?wk⟩
    case lt => omega
    case wk => exact Wk.sub (And.intro (by exact rfl) (And.intro (by exact rfl) (And.intro (by exact rfl) (And.intro (by exact rfl) (And.intro (by exact rfl) (And.intro (by exact rfl) (And.intro (by first | rfl | exact congrArg (nm _) (by omega) | exact nm_int (by omega) | exact nm_int (by simp [IntKind.wrap, IntKind.bits, IntKind.signed]; omega)) (trivial)))))))) (And.intro (by first | rfl | exact row_ns (by simp) | exact congrArg (fun x => some (AO.blk (.stringIter _ x))) (by omega)) (And.intro (by first | rfl | exact row_ns (by simp) | exact congrArg (fun x => some (AO.blk (.stringIter _ x))) (by omega)) (And.intro (by first | rfl | exact row_ns (by simp) | exact congrArg (fun x => some (AO.blk (.stringIter _ x))) (by omega)) (trivial))))
  · refine awp_exit ?_
    refine hK3 _ ?_
    refine awp_seq fun K12 hK12 => ?_
    refine awp_region rfl ?_
    refine o_loadA [(bp (((l).mul) < 0)), (AV.sl 1 (ns .u32 (digs ((l).mul).natAbs))), (bp (((l).add) < 0)), (AV.sl 1 (ns .u32 (digs ((l).add).natAbs))), (bp (((l).div) < 0)), (AV.sl 1 (ns .u32 (digs ((l).div).natAbs)))] Gd.none Xa_tA89 rfl rfl rfl rfl rfl ?_
    refine o_store [(2, (AO.var 24 [(AV.lit (.int .i64 (m.mod))), (AV.sl 1 (is .i64 (m.mul))), (AV.sl 1 (is .i64 (m.add)))])), (3, (AO.var 89 [(bp (((l).mul) < 0)), (AV.sl 1 (ns .u32 (digs ((l).mul).natAbs))), (bp (((l).add) < 0)), (AV.sl 1 (ns .u32 (digs ((l).add).natAbs))), (bp (((l).div) < 0)), (AV.sl 1 (ns .u32 (digs ((l).div).natAbs)))])), (4, (AO.var 89 [(bp (((l).mul) < 0)), (AV.sl 1 (ns .u32 (digs ((l).mul).natAbs))), (bp (((l).add) < 0)), (AV.sl 1 (ns .u32 (digs ((l).add).natAbs))), (bp (((l).div) < 0)), (AV.sl 1 (ns .u32 (digs ((l).div).natAbs)))]))] Gd.none Xa_tZ89 rfl rfl rfl rfl rfl rfl ?_
    refine aops_end ?_
    refine hK12 _ ?_
    refine awp_ret ?_
    refine post_ret ⟨[(AV.agg [(bp (((l).mul) < 0)), (AV.sl 1 (ns .u32 (digs ((l).mul).natAbs))), (bp (((l).add) < 0)), (AV.sl 1 (ns .u32 (digs ((l).add).natAbs))), (bp (((l).div) < 0)), (AV.sl 1 (ns .u32 (digs ((l).div).natAbs)))])], And.intro ⟨3, (AO.var 89 [(bp (((l).mul) < 0)), (AV.sl 1 (ns .u32 (digs ((l).mul).natAbs))), (bp (((l).add) < 0)), (AV.sl 1 (ns .u32 (digs ((l).add).natAbs))), (bp (((l).div) < 0)), (AV.sl 1 (ns .u32 (digs ((l).div).natAbs)))]), rfl, rfl, rfl, Or.inl ⟨Xa_tA89, AV.le_refl _⟩⟩ (trivial), rfl, ?_⟩
    exact congrArg linW (by rw [hl2, List.take_of_length_le (by omega)])

theorem c_oTold (l : LinZ) (h1 : (digs l.mul.natAbs).length ≤ 1000000) (h2 : (digs l.add.natAbs).length ≤ 1000000) (h3 : (digs l.div.natAbs).length ≤ 1000000) : ECalls cx 57 [(linW (l))] (lineV (lineT l)) := by
  refine ecalls_of_awp Tryd.func57 (c := _) rfl (Nat.le_of_ble_eq_true rfl) ?_
  show awp cx 13 _ (postF cx Tryd.f57 _) ⟨[(0, (linW (l)))], []⟩
  refine awp_seq fun K0 hK0 => ?_
  refine awp_region rfl ?_
  refine o_box 2 [(bp (((l).mul) < 0)), (AV.sl 1 (ns .u32 (digs ((l).mul).natAbs))), (bp (((l).add) < 0)), (AV.sl 1 (ns .u32 (digs ((l).add).natAbs))), (bp (((l).div) < 0)), (AV.sl 1 (ns .u32 (digs ((l).div).natAbs)))] Gd.none rfl rfl ?_
  refine o_alloc 3 [(AV.lit (.string (({data := #[]} : ByteArray)))), (AV.lit (.string (({data := #[]} : ByteArray)))), (AV.lit (.string (({data := #[]} : ByteArray))))] Gd.none Xa_tO41 rfl rfl rfl ?_
  refine aops_end ?_
  refine hK0 _ ?_
  refine awp_seq fun K1 hK1 => ?_
  refine awp_regionD rfl ?_
  refine o_fieldRef 0 Gd.none Xa_tF89_0 rfl rfl ?_
  refine o_loadA [(bp (((l).mul) < 0)), (AV.sl 1 (ns .u32 (digs ((l).mul).natAbs)))] Gd.none Xa_tA79 rfl rfl rfl rfl rfl ?_
  refine o_call [(AV.agg [(bp (((l).mul) < 0)), (AV.sl 1 (ns .u32 (digs ((l).mul).natAbs)))])] (AV.lit (.string (txt (((l).mul))))) Gd.none Xa_tC64 rfl (c_wText (((l).mul)) (by first | assumption | omega | (simp only [Int.natAbs_neg]; omega))) ?_
  refine o_fieldRef 2 Gd.none Xa_tF89_1 rfl rfl ?_
  refine o_loadA [(bp (((l).add) < 0)), (AV.sl 1 (ns .u32 (digs ((l).add).natAbs)))] Gd.none Xa_tA79 rfl rfl rfl rfl rfl ?_
  refine o_call [(AV.agg [(bp (((l).add) < 0)), (AV.sl 1 (ns .u32 (digs ((l).add).natAbs)))])] (AV.lit (.string (txt (((l).add))))) Gd.none Xa_tC64 rfl (c_wText (((l).add)) (by first | assumption | omega | (simp only [Int.natAbs_neg]; omega))) ?_
  refine o_fieldRef 4 Gd.none Xa_tF89_2 rfl rfl ?_
  refine o_loadA [(bp (((l).div) < 0)), (AV.sl 1 (ns .u32 (digs ((l).div).natAbs)))] Gd.none Xa_tA79 rfl rfl rfl rfl rfl ?_
  refine o_call [(AV.agg [(bp (((l).div) < 0)), (AV.sl 1 (ns .u32 (digs ((l).div).natAbs)))])] (AV.lit (.string (txt (((l).div))))) Gd.none Xa_tC64 rfl (c_wText (((l).div)) (by first | assumption | omega | (simp only [Int.natAbs_neg]; omega))) ?_
  refine o_build [(AV.lit (.string (txt (((l).mul))))), (AV.lit (.string (txt (((l).add))))), (AV.lit (.string (txt (((l).div)))))] [(0, [(AV.lit (.string (txt (((l).mul)))))]), (1, [(AV.lit (.string (txt (((l).add)))))]), (2, [(AV.lit (.string (txt (((l).div)))))])] Gd.none Xa_tP41 Xa_tO41 rfl rfl rfl ?_
  refine o_store [(3, (AO.var 41 [(AV.lit (.string (txt (((l).mul))))), (AV.lit (.string (txt (((l).add))))), (AV.lit (.string (txt (((l).div)))))])), (2, (AO.var 89 [(bp (((l).mul) < 0)), (AV.sl 1 (ns .u32 (digs ((l).mul).natAbs))), (bp (((l).add) < 0)), (AV.sl 1 (ns .u32 (digs ((l).add).natAbs))), (bp (((l).div) < 0)), (AV.sl 1 (ns .u32 (digs ((l).div).natAbs)))]))] Gd.none Xa_tZ41 rfl rfl rfl rfl rfl rfl ?_
  refine aops_end ⟨by kernel_rfl, ?_⟩
  refine hK1 _ ?_
  refine awp_ret ?_
  refine post_ret ⟨[(AV.agg [(AV.lit (.string (txt (((l).mul))))), (AV.lit (.string (txt (((l).add))))), (AV.lit (.string (txt (((l).div)))))])], And.intro ⟨3, (AO.var 41 [(AV.lit (.string (txt (((l).mul))))), (AV.lit (.string (txt (((l).add))))), (AV.lit (.string (txt (((l).div)))))]), rfl, rfl, rfl, Or.inl ⟨Xa_tA41, AV.le_refl _⟩⟩ (trivial), rfl, ?_⟩
  rfl

theorem c_oLine (m : MapM) (w : List Int) (hwl : w.length ≤ 17592186044416) : ECalls cx 20 [(mapV m), (AV.sl 1 (is .i64 (w)))] (.tup [lineV (lineS m w), nm .i64 (lineE m w)]) := by
  refine ecalls_of_awp Tryd.func20 (c := _) rfl (Nat.le_of_ble_eq_true rfl) ?_
  show awp cx 21 _ (postF cx Tryd.f20 _) ⟨[(0, (mapV m)), (1, (AV.sl 1 (is .i64 (w))))], []⟩
  refine awp_seq fun K0 hK0 => ?_
  refine awp_region rfl ?_
  refine o_box 2 [(AV.lit (.int .i64 (m.mod))), (AV.sl 1 (is .i64 (m.mul))), (AV.sl 1 (is .i64 (m.add)))] Gd.none rfl rfl ?_
  refine o_alloc 3 [(AV.lit (.string (({data := #[]} : ByteArray)))), (AV.lit (.string (({data := #[]} : ByteArray)))), (AV.lit (.string (({data := #[]} : ByteArray))))] Gd.none Xa_tO41 rfl rfl rfl ?_
  refine o_assign (nm .i64 (0)) Gd.none rfl ?_
  refine aops_end ?_
  refine hK0 _ ?_
  refine awp_seq fun K1 hK1 => ?_
  refine awp_block ?_
  refine awp_seq fun K2 hK2 => ?_
  refine awp_region rfl ?_
  refine o_loadA [(AV.lit (.int .i64 (m.mod))), (AV.sl 1 (is .i64 (m.mul))), (AV.sl 1 (is .i64 (m.add)))] Gd.none Xa_tA24 rfl rfl rfl rfl rfl ?_
  refine o_call [(AV.agg [(AV.lit (.int .i64 (m.mod))), (AV.sl 1 (is .i64 (m.mul))), (AV.sl 1 (is .i64 (m.add)))])] (AV.lit (.bool (okM m))) Gd.none Xa_tC46 rfl (c_sValid m) ?_
  refine o_not (b := okM m) Gd.none rfl ?_
  refine o_assign (AV.lit (.bool (!(okM m)))) Gd.none rfl ?_
  refine aops_end ?_
  refine hK2 _ ?_
  refine awp_condB (b := !(okM m)) rfl (fun h1 => ?_) (fun h1 => ?_)
  · have hm' : ¬ okM m = true := by simpa using h1
    refine awp_seq fun K3 hK3 => ?_
    refine awp_region rfl ?_
    refine o_build [(AV.lit (.string (({data := #[]} : ByteArray)))), (AV.lit (.string (({data := #[]} : ByteArray)))), (AV.lit (.string (({data := #[]} : ByteArray))))] [] Gd.none Xa_tP41 Xa_tO41 rfl rfl rfl ?_
    refine o_store [(3, (AO.var 41 [(AV.lit (.string (({data := #[]} : ByteArray)))), (AV.lit (.string (({data := #[]} : ByteArray)))), (AV.lit (.string (({data := #[]} : ByteArray))))])), (2, (AO.var 24 [(AV.lit (.int .i64 (m.mod))), (AV.sl 1 (is .i64 (m.mul))), (AV.sl 1 (is .i64 (m.add)))]))] Gd.none Xa_tZ41 rfl rfl rfl rfl rfl rfl ?_
    refine o_assign (nm .i64 (1)) Gd.none rfl ?_
    refine aops_end ?_
    refine hK3 _ ?_
    refine awp_ret ?_
    refine post_ret ⟨[(AV.agg [(AV.lit (.string (({data := #[]} : ByteArray)))), (AV.lit (.string (({data := #[]} : ByteArray)))), (AV.lit (.string (({data := #[]} : ByteArray))))]), (nm .i64 (1))], And.intro ⟨3, (AO.var 41 [(AV.lit (.string (({data := #[]} : ByteArray)))), (AV.lit (.string (({data := #[]} : ByteArray)))), (AV.lit (.string (({data := #[]} : ByteArray))))]), rfl, rfl, rfl, Or.inl ⟨Xa_tA41, AV.le_refl _⟩⟩ (And.intro (AV.le_refl _) (trivial)), rfl, ?_⟩
    exact tup_eq2 (congrArg lineV (line_1 hm').2) (congrArg (nm _) (line_1 hm').1)
  · have hm' : okM m = true := by simpa using h1
    have hM := okM_iff.1 hm'
    refine awp_seq fun K4 hK4 => ?_
    refine awp_region rfl ?_
    refine o_loadA [(AV.lit (.int .i64 (m.mod))), (AV.sl 1 (is .i64 (m.mul))), (AV.sl 1 (is .i64 (m.add)))] Gd.none Xa_tA24 rfl rfl rfl rfl rfl ?_
    refine o_move (AV.sl 1 (is .i64 (w))) Gd.none rfl ?_
    refine o_call [(AV.agg [(AV.lit (.int .i64 (m.mod))), (AV.sl 1 (is .i64 (m.mul))), (AV.sl 1 (is .i64 (m.add)))]), (AV.sl 1 (is .i64 (w)))] (bp (OkW m (w))) Gd.none Xa_tC55 rfl (c_oIs m (w)) ?_
    refine o_notP (q := OkW m (w)) Gd.none rfl ?_
    refine o_assign (bp (¬ (OkW m (w)))) Gd.none rfl ?_
    refine aops_end ?_
    refine hK4 _ ?_
    refine awp_condQ (q := ¬ (OkW m (w))) rfl (fun h2 => ?_) (fun h2 => ?_)
    · refine awp_seq fun K5 hK5 => ?_
      refine awp_region rfl ?_
      refine o_build [(AV.lit (.string (({data := #[]} : ByteArray)))), (AV.lit (.string (({data := #[]} : ByteArray)))), (AV.lit (.string (({data := #[]} : ByteArray))))] [] Gd.none Xa_tP41 Xa_tO41 rfl rfl rfl ?_
      refine o_store [(3, (AO.var 41 [(AV.lit (.string (({data := #[]} : ByteArray)))), (AV.lit (.string (({data := #[]} : ByteArray)))), (AV.lit (.string (({data := #[]} : ByteArray))))])), (2, (AO.var 24 [(AV.lit (.int .i64 (m.mod))), (AV.sl 1 (is .i64 (m.mul))), (AV.sl 1 (is .i64 (m.add)))]))] Gd.none Xa_tZ41 rfl rfl rfl rfl rfl rfl ?_
      refine o_assign (nm .i64 (2)) Gd.none rfl ?_
      refine aops_end ?_
      refine hK5 _ ?_
      refine awp_ret ?_
      refine post_ret ⟨[(AV.agg [(AV.lit (.string (({data := #[]} : ByteArray)))), (AV.lit (.string (({data := #[]} : ByteArray)))), (AV.lit (.string (({data := #[]} : ByteArray))))]), (nm .i64 (2))], And.intro ⟨3, (AO.var 41 [(AV.lit (.string (({data := #[]} : ByteArray)))), (AV.lit (.string (({data := #[]} : ByteArray)))), (AV.lit (.string (({data := #[]} : ByteArray))))]), rfl, rfl, rfl, Or.inl ⟨Xa_tA41, AV.le_refl _⟩⟩ (And.intro (AV.le_refl _) (trivial)), rfl, ?_⟩
      exact tup_eq2 (congrArg lineV (line_2 hm' h2).2) (congrArg (nm _) (line_2 hm' h2).1)
    · have hW : OkW m w := Decidable.not_not.1 h2
      obtain ⟨L1, L2, L3⟩ := line_len hM w hW.1
      have hWl := hW.2
      refine awp_skip ?_
      refine hK1 _ ?_
      refine awp_seq fun K6 hK6 => ?_
      refine awp_region rfl ?_
      refine o_loadA [(AV.lit (.int .i64 (m.mod))), (AV.sl 1 (is .i64 (m.mul))), (AV.sl 1 (is .i64 (m.add)))] Gd.none Xa_tA24 rfl rfl rfl rfl rfl ?_
      refine o_move (AV.sl 1 (is .i64 (w))) Gd.none rfl ?_
      refine o_call [(AV.agg [(AV.lit (.int .i64 (m.mod))), (AV.sl 1 (is .i64 (m.mul))), (AV.sl 1 (is .i64 (m.add)))]), (AV.sl 1 (is .i64 (w)))] (linW (lineZ m (w))) Gd.none Xa_tC56 rfl (c_oOf m (w) (by first | assumption | exact okM_iff.1 (by assumption)) (by first | assumption | exact (by assumption : OkW _ _).1 | exact isW_take (by assumption : OkW _ _).1 _) (by first | omega | exact (by assumption : OkW _ _).2)) ?_
      refine o_call [(linW (lineZ m (w)))] (AV.agg [(AV.lit (.string ((lineT (lineZ m (w))).mul))), (AV.lit (.string ((lineT (lineZ m (w))).add))), (AV.lit (.string ((lineT (lineZ m (w))).div)))]) Gd.none Xa_tC57 rfl (c_oTold (lineZ m (w)) (by omega) (by omega) (by omega)) ?_
      refine o_store [(3, (AO.var 41 [(AV.lit (.string ((lineT (lineZ m (w))).mul))), (AV.lit (.string ((lineT (lineZ m (w))).add))), (AV.lit (.string ((lineT (lineZ m (w))).div)))])), (2, (AO.var 24 [(AV.lit (.int .i64 (m.mod))), (AV.sl 1 (is .i64 (m.mul))), (AV.sl 1 (is .i64 (m.add)))]))] Gd.none Xa_tZ41 rfl rfl rfl rfl rfl rfl ?_
      refine o_assign (nm .i64 (0)) Gd.none rfl ?_
      refine aops_end ?_
      refine hK6 _ ?_
      refine awp_ret ?_
      refine post_ret ⟨[(AV.agg [(AV.lit (.string ((lineT (lineZ m (w))).mul))), (AV.lit (.string ((lineT (lineZ m (w))).add))), (AV.lit (.string ((lineT (lineZ m (w))).div)))]), (nm .i64 (0))], And.intro ⟨3, (AO.var 41 [(AV.lit (.string ((lineT (lineZ m (w))).mul))), (AV.lit (.string ((lineT (lineZ m (w))).add))), (AV.lit (.string ((lineT (lineZ m (w))).div)))]), rfl, rfl, rfl, Or.inl ⟨Xa_tA41, AV.le_refl _⟩⟩ (And.intro (AV.le_refl _) (trivial)), rfl, ?_⟩
      exact tup_eq2 (congrArg lineV (line_0 hm' hW).2) (congrArg (nm _) (line_0 hm' hW).1)

end Go.Proofs.YtbilndahjkimkaaDoor

set_option linter.unusedVariables false
set_option linter.unusedSimpArgs false
namespace Go.Proofs.YtbilndahjkimkaaDoor
open Go Go.Ab Go.Mth
theorem Xb_tA24 : tyAgg cx.P 24 = some 3 := by kernel_rfl
theorem Xb_tC46 : callable cx.P 46 = true := by kernel_rfl
theorem Xb_tC47 : callable cx.P 47 = true := by kernel_rfl
theorem Xb_tC48 : callable cx.P 48 = true := by kernel_rfl
theorem Xb_tO79 : tyZero cx.P 79 = some [(Go.Value.bool false), (Go.Value.slice none 0 0)] := by kernel_rfl
theorem Xb_tZ79 : tySize cx.P 79 = some 2 := by kernel_rfl
theorem Xb_tA79 : tyAgg cx.P 79 = some 2 := by kernel_rfl
theorem Xb_tC49 : callable cx.P 49 = true := by kernel_rfl
theorem Xb_tC50 : callable cx.P 50 = true := by kernel_rfl
theorem Xb_tE22 : tyElem cx.P 22 = some (3, 1, 8) := by kernel_rfl
theorem Xb_tO3 : tyZero cx.P 3 = some [(Go.Value.int IntKind.i64 0)] := by kernel_rfl
theorem Xb_tF41_0 : tyField cx.P 41 0 = some (0, 9) := by kernel_rfl
theorem Xb_tS9 : tySc cx.P 9 = true := by kernel_rfl
theorem Xb_tF41_1 : tyField cx.P 41 1 = some (1, 9) := by kernel_rfl
theorem Xb_tF41_2 : tyField cx.P 41 2 = some (2, 9) := by kernel_rfl
theorem Xb_tA41 : tyAgg cx.P 41 = some 3 := by kernel_rfl
theorem Xb_tP41 : tyPlaces cx.P 41 = some (fun i => (#[(0, 1), (1, 1), (2, 1)] : Array (Nat × Nat))[i]?) := by kernel_rfl
theorem Xb_tO41 : tyZero cx.P 41 = some [(Go.Value.string {data := #[]}), (Go.Value.string {data := #[]}), (Go.Value.string {data := #[]})] := by kernel_rfl
theorem Xb_tC68 : callable cx.P 68 = true := by kernel_rfl
theorem Xb_tC60 : callable cx.P 60 = true := by kernel_rfl
theorem Xb_tC61 : callable cx.P 61 = true := by kernel_rfl
theorem Xb_tC62 : callable cx.P 62 = true := by kernel_rfl
theorem Xb_tC64 : callable cx.P 64 = true := by kernel_rfl
theorem Xb_tC55 : callable cx.P 55 = true := by kernel_rfl
theorem Xb_tC58 : callable cx.P 58 = true := by kernel_rfl
theorem Xb_tC59 : callable cx.P 59 = true := by kernel_rfl
theorem Xb_tU22 : cx.P.underlying 22 = some (.slice 3) := by kernel_rfl
theorem Xb_tS3 : tySc cx.P 3 = true := by kernel_rfl
theorem Xb_tC56 : callable cx.P 56 = true := by kernel_rfl
theorem Xb_tO89 : tyZero cx.P 89 = some [(Go.Value.bool false), (Go.Value.slice none 0 0), (Go.Value.bool false), (Go.Value.slice none 0 0), (Go.Value.bool false), (Go.Value.slice none 0 0)] := by kernel_rfl
theorem Xb_tZ89 : tySize cx.P 89 = some 6 := by kernel_rfl
theorem Xb_tF89_0 : tyField cx.P 89 0 = some (0, 79) := by kernel_rfl
theorem Xb_tF89_1 : tyField cx.P 89 1 = some (2, 79) := by kernel_rfl
theorem Xb_tF89_2 : tyField cx.P 89 2 = some (4, 79) := by kernel_rfl
theorem Xb_tF24_0 : tyField cx.P 24 0 = some (0, 3) := by kernel_rfl
theorem Xb_tC63 : callable cx.P 63 = true := by kernel_rfl
theorem c_oWord (m : MapM) (a : ByteArray) (K : Int) (ha : a.size ≤ 9223372036854775807) : ECalls cx 12 [(mapV m), (AV.lit (.string (a))), (AV.lit (.int .i64 (K)))] (.tup [.sl 1 (is .i64 (wordL m a K)), nm .i64 (wordE m a K)]) := by
  refine ecalls_of_awp Tryd.func12 (c := _) rfl (Nat.le_of_ble_eq_true rfl) ?_
  show awp cx 49 _ (postF cx Tryd.f12 _) ⟨[(0, (mapV m)), (1, (AV.lit (.string (a)))), (2, (AV.lit (.int .i64 (K))))], []⟩
  refine awp_seq fun K0 hK0 => ?_
  refine awp_region rfl ?_
  refine o_box 2 [(AV.lit (.int .i64 (m.mod))), (AV.sl 1 (is .i64 (m.mul))), (AV.sl 1 (is .i64 (m.add)))] Gd.none rfl rfl ?_
  refine o_assign (AV.lit (.slice none 0 0)) Gd.none rfl ?_
  refine o_assign (nm .i64 (0)) Gd.none rfl ?_
  refine aops_end ?_
  refine hK0 _ ?_
  refine awp_seq fun K1 hK1 => ?_
  refine awp_block ?_
  refine awp_seq fun K2 hK2 => ?_
  refine awp_region rfl ?_
  refine o_loadA [(AV.lit (.int .i64 (m.mod))), (AV.sl 1 (is .i64 (m.mul))), (AV.sl 1 (is .i64 (m.add)))] Gd.none Xb_tA24 rfl rfl rfl rfl rfl ?_
  refine o_call [(AV.agg [(AV.lit (.int .i64 (m.mod))), (AV.sl 1 (is .i64 (m.mul))), (AV.sl 1 (is .i64 (m.add)))])] (AV.lit (.bool (okM m))) Gd.none Xb_tC46 rfl (c_sValid m) ?_
  refine o_not (b := okM m) Gd.none rfl ?_
  refine o_move (AV.lit (.bool (!(okM m)))) Gd.none rfl ?_
  refine o_split (b := !(okM m)) 16 rfl (fun h1 => ?_) (fun h1 => ?_)
  · have hm' : ¬ okM m = true := by simpa using h1
    refine o_skip (b := !(okM m)) rfl rfl h1 ?_
    refine o_skip (b := !(okM m)) rfl rfl h1 ?_
    refine o_skip (b := !(okM m)) rfl rfl h1 ?_
    refine o_pickT (b := !(okM m)) (AV.lit (.bool true)) Gd.none rfl h1 rfl ?_
    refine o_assign (AV.lit (.bool true)) Gd.none rfl ?_
    refine aops_end ?_
    refine hK2 _ ?_
    refine awp_condB (b := true) rfl (fun _ => ?_) (fun hh => absurd (hh.symm.trans rfl) (by decide))
    refine awp_seq fun K3 hK3 => ?_
    refine awp_region rfl ?_
    refine o_assign (AV.lit (.slice none 0 0)) Gd.none rfl ?_
    refine o_assign (nm .i64 (1)) Gd.none rfl ?_
    refine aops_end ?_
    refine hK3 _ ?_
    refine awp_ret ?_
    refine post_ret ⟨[(AV.sl 1 (is .i64 ([]))), (nm .i64 (1))], And.intro (AV.le_nil' (by decide) (by first | rfl | simp [digs_zero, ns, is])) (And.intro (AV.le_refl _) (trivial)), rfl, ?_⟩
    have e := wordE_1 (m := m) (a := a) (K := K) (fun e => hm' e.1)
    exact tup_eq2 (congrArg (fun l => AV.sl 1 (is .i64 l)) e.2) (congrArg (nm _) e.1)
  · have hm' : okM m = true := by simpa using h1
    refine o_move (AV.lit (.string (a))) (Gd.yes rfl rfl h1) rfl ?_
    refine o_call [(AV.lit (.string (a)))] (AV.lit (.bool (okS (a)))) (Gd.yes rfl rfl h1) Xb_tC47 rfl (c_nValid (a) (by first | assumption | decide | omega)) ?_
    refine o_not (b := okS (a)) (Gd.yes rfl rfl h1) rfl ?_
    refine o_pickF (b := !(okM m)) (AV.lit (.bool (!(okS (a))))) Gd.none rfl h1 rfl ?_
    refine o_assign (AV.lit (.bool (!(okS (a))))) Gd.none rfl ?_
    refine aops_end ?_
    refine hK2 _ ?_
    refine awp_condB (b := !(okS (a))) rfl (fun h2 => ?_) (fun h2 => ?_)
    · have ha' : ¬ okS a = true := by simpa using h2
      refine awp_seq fun K4 hK4 => ?_
      refine awp_region rfl ?_
      refine o_assign (AV.lit (.slice none 0 0)) Gd.none rfl ?_
      refine o_assign (nm .i64 (1)) Gd.none rfl ?_
      refine aops_end ?_
      refine hK4 _ ?_
      refine awp_ret ?_
      refine post_ret ⟨[(AV.sl 1 (is .i64 ([]))), (nm .i64 (1))], And.intro (AV.le_nil' (by decide) (by first | rfl | simp [digs_zero, ns, is])) (And.intro (AV.le_refl _) (trivial)), rfl, ?_⟩
      have e := wordE_1 (m := m) (a := a) (K := K) (fun e => ha' e.2)
      exact tup_eq2 (congrArg (fun l => AV.sl 1 (is .i64 l)) e.2) (congrArg (nm _) e.1)
    · have ha' : okS a = true := by simpa using h2
      have hM := okM_iff.1 hm'
      have hl0 := len_numS (okS_iff.1 ha')
      refine awp_seq fun K5 hK5 => ?_
      refine awp_region rfl ?_
      refine o_move (AV.lit (.int .i64 (K))) Gd.none rfl ?_
      refine o_lss (a := (K)) (c := (((0 : Nat) : Int))) Gd.none rfl rfl ?_
      refine o_move (bp ((K) < (((0 : Nat) : Int)))) Gd.none rfl ?_
      refine o_splitP (q := (K) < (((0 : Nat) : Int))) 24 rfl (fun h3 => ?_) (fun h3 => ?_)
      · refine o_skip (b := decide ((K) < (((0 : Nat) : Int)))) rfl rfl (decide_eq_true h3) ?_
        refine o_skip (b := decide ((K) < (((0 : Nat) : Int)))) rfl rfl (decide_eq_true h3) ?_
        refine o_pickT (b := decide ((K) < (((0 : Nat) : Int)))) (AV.lit (.bool true)) Gd.none rfl (decide_eq_true h3) rfl ?_
        refine o_assign (AV.lit (.bool true)) Gd.none rfl ?_
        refine aops_end ?_
        refine hK5 _ ?_
        refine awp_condB (b := true) rfl (fun _ => ?_) (fun hh => absurd (hh.symm.trans rfl) (by decide))
        refine awp_seq fun K6 hK6 => ?_
        refine awp_region rfl ?_
        refine o_assign (AV.lit (.slice none 0 0)) Gd.none rfl ?_
        refine o_assign (nm .i64 (2)) Gd.none rfl ?_
        refine aops_end ?_
        refine hK6 _ ?_
        refine awp_ret ?_
        refine post_ret ⟨[(AV.sl 1 (is .i64 ([]))), (nm .i64 (2))], And.intro (AV.le_nil' (by decide) (by first | rfl | simp [digs_zero, ns, is])) (And.intro (AV.le_refl _) (trivial)), rfl, ?_⟩
        have e := wordE_2 (m := m) (a := a) (K := K) ⟨hm', ha'⟩ (by omega)
        exact tup_eq2 (congrArg (fun l => AV.sl 1 (is .i64 l)) e.2) (congrArg (nm _) e.1)
      · refine o_move (AV.lit (.int .i64 (K))) (Gd.yes rfl rfl (decide_eq_false h3)) rfl ?_
        refine o_gtr (a := (K)) (c := (((200 : Nat) : Int))) (Gd.yes rfl rfl (decide_eq_false h3)) rfl rfl ?_
        refine o_pickF (b := decide ((K) < (((0 : Nat) : Int)))) (bp ((((200 : Nat) : Int)) < (K))) Gd.none rfl (decide_eq_false h3) rfl ?_
        refine o_assign (bp ((((200 : Nat) : Int)) < (K))) Gd.none rfl ?_
        refine aops_end ?_
        refine hK5 _ ?_
        refine awp_condQ (q := (((200 : Nat) : Int)) < (K)) rfl (fun h4 => ?_) (fun h4 => ?_)
        · refine awp_seq fun K7 hK7 => ?_
          refine awp_region rfl ?_
          refine o_assign (AV.lit (.slice none 0 0)) Gd.none rfl ?_
          refine o_assign (nm .i64 (2)) Gd.none rfl ?_
          refine aops_end ?_
          refine hK7 _ ?_
          refine awp_ret ?_
          refine post_ret ⟨[(AV.sl 1 (is .i64 ([]))), (nm .i64 (2))], And.intro (AV.le_nil' (by decide) (by first | rfl | simp [digs_zero, ns, is])) (And.intro (AV.le_refl _) (trivial)), rfl, ?_⟩
          have e := wordE_2 (m := m) (a := a) (K := K) ⟨hm', ha'⟩ (by omega)
          exact tup_eq2 (congrArg (fun l => AV.sl 1 (is .i64 l)) e.2) (congrArg (nm _) e.1)
        · refine awp_skip ?_
          refine hK1 _ ?_
          refine awp_seq fun K8 hK8 => ?_
          refine awp_region rfl ?_
          refine o_assign (AV.lit (.slice none 0 0)) Gd.none rfl ?_
          refine aops_end ?_
          refine hK8 _ ?_
          refine awp_seq fun K9 hK9 => ?_
          refine awp_region rfl ?_
          refine o_move (AV.lit (.string (a))) Gd.none rfl ?_
          refine o_call [(AV.lit (.string (a)))] (intW ((numS (a)))) Gd.none Xb_tC48 rfl (c_wParse (a) (by first | assumption | exact okS_iff.1 (by assumption))) ?_
          refine o_alloc 3 [(AV.lit (.bool false)), (AV.lit (.slice none 0 0))] Gd.none Xb_tO79 rfl rfl rfl ?_
          refine o_store [(3, (AO.var 79 [(bp ((numS (a)) < 0)), (AV.sl 1 (ns .u32 (digs ((numS (a))).natAbs)))])), (2, (AO.var 24 [(AV.lit (.int .i64 (m.mod))), (AV.sl 1 (is .i64 (m.mul))), (AV.sl 1 (is .i64 (m.add)))]))] Gd.none Xb_tZ79 rfl rfl rfl rfl rfl rfl ?_
          refine aops_end ?_
          refine hK9 _ ?_
          refine awp_seq fun K10 hK10 => ?_
          refine awp_seq fun K11 hK11 => ?_
          refine awp_region rfl ?_
          refine o_move (AV.lit (.int .i64 (K))) Gd.none rfl ?_
          refine o_move (nm .i64 (0)) Gd.none rfl ?_
          refine aops_end ?_
          refine hK11 _ ?_
          refine awp_block ?_
          refine awp_loopR (fun κ σ => ∃ (i : Nat), ((i : Int) ≤ K) ∧ (FitK m (numS a) i) ∧ ((digs (iterZ m i (numS a)).natAbs).length ≤ 1000) ∧ (K.toNat - i) = κ ∧ σ = ⟨[(3, (AV.ref 2 (0))), (8, (AV.row 50)), (9, (AV.ref 3 (0))), (30, (AV.lit (.int .i64 (K)))), (31, (nm .i64 (i)))], [(2, (AO.var 24 [(AV.lit (.int .i64 (m.mod))), (AV.sl 1 (is .i64 (m.mul))), (AV.sl 1 (is .i64 (m.add)))])), (3, (AO.var 79 [(bp ((iterZ m i (numS a)) < 0)), (AV.sl 1 (ns .u32 (digs ((iterZ m i (numS a))).natAbs)))])), (50, (AO.row 3 1 (is .i64 (wordZ m (numS a) i))))]⟩) ⟨_, _, ⟨0, (by omega), (fun j hj => by omega), (show (digs (numS a).natAbs).length ≤ 1000 by omega), rfl, rfl⟩, ?wk0⟩ ?rd0
          case wk0 =>
            exact Wk.trans (Wk.newNil (i := 8) (id := 504) (e := 3) (sz := 1) rfl rfl (by decide)) (Wk.trans (Wk.sub (σ' := ⟨[(3, (AV.ref 2 (0))), (8, (AV.row 504)), (9, (AV.ref 3 (0))), (30, (AV.lit (.int .i64 (K)))), (31, (nm .i64 (0)))], [(2, (AO.var 24 [(AV.lit (.int .i64 (m.mod))), (AV.sl 1 (is .i64 (m.mul))), (AV.sl 1 (is .i64 (m.add)))])), (504, (AO.row 3 1 (is .i64 ([])))), (3, (AO.var 79 [(bp ((numS (a)) < 0)), (AV.sl 1 (ns .u32 (digs ((numS (a))).natAbs)))]))]⟩) (And.intro rfl (And.intro rfl (And.intro rfl (And.intro rfl (And.intro rfl (trivial)))))) (And.intro rfl (And.intro rfl (And.intro rfl (trivial))))) (Wk.trans (Wk.ren (id := 504) (id' := 50) rfl) (Wk.sub (And.intro (by exact rfl) (And.intro (by first | rfl | (simp)) (And.intro (by exact rfl) (And.intro (by exact rfl) (And.intro (by first | rfl | exact congrArg (nm _) (by omega) | exact nm_int (by omega) | exact nm_int (by simp [IntKind.wrap, IntKind.bits, IntKind.signed]; omega)) (trivial)))))) (And.intro (by first | rfl | exact row_ns (by simp) | exact congrArg (fun x => some (AO.blk (.stringIter _ x))) (by omega)) (And.intro (by first | rfl | exact row_ns (by simp) | exact congrArg (fun x => some (AO.blk (.stringIter _ x))) (by omega)) (And.intro (by first | rfl | exact row_ns (by simp) | exact congrArg (fun x => some (AO.blk (.stringIter _ x))) (by omega)) (trivial)))))))
          rintro κ _ ⟨i, hi, hf, hlz, rfl, rfl⟩
          refine awp_seq fun K12 hK12 => ?_
          refine awp_region rfl ?_
          refine o_lss (a := (((i : Nat) : Int))) (c := (K)) Gd.none rfl rfl ?_
          refine aops_end ?_
          refine hK12 _ ?_
          refine awp_seq fun K13 hK13 => ?_
          refine awp_condQ (q := (((i : Nat) : Int)) < (K)) rfl (fun h5 => ?_) (fun h5 => ?_)
          · refine awp_skip ?_
            refine hK13 _ ?_
            refine awp_seq fun K14 hK14 => ?_
            refine awp_block ?_
            refine awp_seq fun K15 hK15 => ?_
            refine awp_seq fun K16 hK16 => ?_
            refine awp_region rfl ?_
            refine o_loadA [(bp ((iterZ m i (numS a)) < 0)), (AV.sl 1 (ns .u32 (digs ((iterZ m i (numS a))).natAbs)))] Gd.none Xb_tA79 rfl rfl rfl rfl rfl ?_
            refine o_call [(AV.agg [(bp ((iterZ m i (numS a)) < 0)), (AV.sl 1 (ns .u32 (digs ((iterZ m i (numS a))).natAbs)))])] (nm .i64 (ndig ((iterZ m i (numS a))).natAbs)) Gd.none Xb_tC49 rfl (c_wDigits ((iterZ m i (numS a))) (by first | assumption | omega | (simp only [Int.natAbs_neg]; omega))) ?_
            refine n_gtr (ndig ((iterZ m i (numS a))).natAbs) (2000) Gd.none rfl rfl ?_
            refine aops_end ?_
            refine hK16 _ ?_
            refine awp_condQ (q := (2000) < (ndig ((iterZ m i (numS a))).natAbs)) rfl (fun h6 => ?_) (fun h6 => ?_)
            · refine awp_seq fun K17 hK17 => ?_
              refine awp_region rfl ?_
              refine o_assign (AV.lit (.slice none 0 0)) Gd.none rfl ?_
              refine o_assign (nm .i64 (3)) Gd.none rfl ?_
              refine aops_end ?_
              refine hK17 _ ?_
              refine awp_ret ?_
              refine post_ret ⟨[(AV.sl 1 (is .i64 ([]))), (nm .i64 (3))], And.intro (AV.le_nil' (by decide) (by first | rfl | simp [digs_zero, ns, is])) (And.intro (AV.le_refl _) (trivial)), rfl, ?_⟩
              have e := wordE_3 (m := m) (a := a) (K := K) ⟨hm', ha'⟩ (by omega) (fun hF => by have := hF i (by omega); unfold Fit at this; omega)
              exact tup_eq2 (congrArg (fun l => AV.sl 1 (is .i64 l)) e.2) (congrArg (nm _) e.1)
            · have hfi : Fit (iterZ m i (numS a)) := by unfold Fit; omega
              have hli := fit_len hfi
              have hln := step_len (z := (iterZ m i (numS a))) hM hli (by omega)
              refine awp_skip ?_
              refine hK15 _ ?_
              refine awp_seq fun K18 hK18 => ?_
              refine awp_region rfl ?_
              refine o_loadA [(AV.lit (.int .i64 (m.mod))), (AV.sl 1 (is .i64 (m.mul))), (AV.sl 1 (is .i64 (m.add)))] Gd.none Xb_tA24 rfl rfl rfl rfl rfl ?_
              refine o_loadA [(bp ((iterZ m i (numS a)) < 0)), (AV.sl 1 (ns .u32 (digs ((iterZ m i (numS a))).natAbs)))] Gd.none Xb_tA79 rfl rfl rfl rfl rfl ?_
              refine o_call [(AV.agg [(AV.lit (.int .i64 (m.mod))), (AV.sl 1 (is .i64 (m.mul))), (AV.sl 1 (is .i64 (m.add)))]), (AV.agg [(bp ((iterZ m i (numS a)) < 0)), (AV.sl 1 (ns .u32 (digs ((iterZ m i (numS a))).natAbs)))])] (AV.tup [(intW ((stepZ m (iterZ m i (numS a))))), (AV.lit (.int .i64 ((iterZ m i (numS a)) % m.mod)))]) Gd.none Xb_tC50 rfl (c_sNext m ((iterZ m i (numS a))) (by first | assumption | exact okM_iff.1 (by assumption)) (by first | assumption | omega | (simp only [Int.natAbs_neg]; omega))) ?_
              refine o_move (AV.tup [(intW ((stepZ m (iterZ m i (numS a))))), (AV.lit (.int .i64 ((iterZ m i (numS a)) % m.mod)))]) Gd.none rfl ?_
              refine o_extract (intW ((stepZ m (iterZ m i (numS a))))) Gd.none rfl rfl ?_
              refine o_extract (AV.lit (.int .i64 ((iterZ m i (numS a)) % m.mod))) Gd.none rfl rfl ?_
              refine o_alloc 101 [(AV.lit (.bool false)), (AV.lit (.slice none 0 0))] Gd.none Xb_tO79 rfl rfl rfl ?_
              refine o_store [(101, (AO.var 79 [(bp ((stepZ m (iterZ m i (numS a))) < 0)), (AV.sl 1 (ns .u32 (digs ((stepZ m (iterZ m i (numS a)))).natAbs)))])), (2, (AO.var 24 [(AV.lit (.int .i64 (m.mod))), (AV.sl 1 (is .i64 (m.mul))), (AV.sl 1 (is .i64 (m.add)))])), (3, (AO.var 79 [(bp ((iterZ m i (numS a)) < 0)), (AV.sl 1 (ns .u32 (digs ((iterZ m i (numS a))).natAbs)))])), (50, (AO.row 3 1 (is .i64 (wordZ m (numS a) i))))] Gd.none Xb_tZ79 rfl rfl rfl rfl rfl rfl ?_
              refine o_assign (AV.lit (.int .i64 ((iterZ m i (numS a)) % m.mod))) Gd.none rfl ?_
              refine aops_end ?_
              refine hK18 _ ?_
              refine awp_seq fun K19 hK19 => ?_
              refine awp_region rfl ?_
              refine o_move (AV.row 50) Gd.none rfl ?_
              refine o_move (AV.lit (.int .i64 ((iterZ m i (numS a)) % m.mod))) Gd.none rfl ?_
              refine o_buildSlice 102 (is .i64 ([(iterZ m i (numS a)) % m.mod])) [(0, [(AV.lit (.int .i64 ((iterZ m i (numS a)) % m.mod)))])] Gd.none Xb_tE22 rfl Xb_tO3 rfl rfl rfl rfl rfl rfl rfl ?_
              refine i_append 103 (wordZ m (numS a) i) ([(iterZ m i (numS a)) % m.mod]) [(102, (AO.row 3 1 (is .i64 ([(iterZ m i (numS a)) % m.mod])))), (101, (AO.var 79 [(bp ((stepZ m (iterZ m i (numS a))) < 0)), (AV.sl 1 (ns .u32 (digs ((stepZ m (iterZ m i (numS a)))).natAbs)))])), (2, (AO.var 24 [(AV.lit (.int .i64 (m.mod))), (AV.sl 1 (is .i64 (m.mul))), (AV.sl 1 (is .i64 (m.add)))])), (3, (AO.var 79 [(bp ((iterZ m i (numS a)) < 0)), (AV.sl 1 (ns .u32 (digs ((iterZ m i (numS a))).natAbs)))]))] Gd.none Xb_tE22 Xb_tO3 rfl rfl rfl rfl rfl (by simp only [wordZ_len, List.length_cons, List.length_nil]; omega) (by decide) rfl rfl ?_
              refine o_assign (AV.row 103) Gd.none rfl ?_
              refine aops_end ?_
              refine hK19 _ ?_
              refine awp_region rfl ?_
              refine o_loadA [(bp ((stepZ m (iterZ m i (numS a))) < 0)), (AV.sl 1 (ns .u32 (digs ((stepZ m (iterZ m i (numS a)))).natAbs)))] Gd.none Xb_tA79 rfl rfl rfl rfl rfl ?_
              refine o_store [(103, (AO.row 3 1 (is .i64 ((wordZ m (numS a) i) ++ ([(iterZ m i (numS a)) % m.mod]))))), (102, (AO.row 3 1 (is .i64 ([(iterZ m i (numS a)) % m.mod])))), (101, (AO.var 79 [(bp ((stepZ m (iterZ m i (numS a))) < 0)), (AV.sl 1 (ns .u32 (digs ((stepZ m (iterZ m i (numS a)))).natAbs)))])), (2, (AO.var 24 [(AV.lit (.int .i64 (m.mod))), (AV.sl 1 (is .i64 (m.mul))), (AV.sl 1 (is .i64 (m.add)))])), (3, (AO.var 79 [(bp ((stepZ m (iterZ m i (numS a))) < 0)), (AV.sl 1 (ns .u32 (digs ((stepZ m (iterZ m i (numS a)))).natAbs)))]))] Gd.none Xb_tZ79 rfl rfl rfl rfl rfl rfl ?_
              refine aops_end ?_
              refine hK14 _ ?_
              refine awp_region rfl ?_
              refine n_add (i) (1) Gd.none rfl rfl (by simp only [topOf]; omega) ?_
              refine o_move (nm .i64 ((i) + (1))) Gd.none rfl ?_
              refine aops_end ?_
              refine ⟨_, _, ?lt, ⟨i + 1, (by omega), (fitK_snoc hf hfi), (show (digs (stepZ m (iterZ m i (numS a))).natAbs).length ≤ 1000 by omega), rfl, rfl⟩, ?wk⟩
              case lt => omega
              case wk => exact Wk.trans (Wk.sub (σ' := ⟨[(3, (AV.ref 2 (0))), (8, (AV.row 103)), (9, (AV.ref 3 (0))), (30, (AV.lit (.int .i64 (K)))), (31, (nm .i64 ((i) + (1))))], [(2, (AO.var 24 [(AV.lit (.int .i64 (m.mod))), (AV.sl 1 (is .i64 (m.mul))), (AV.sl 1 (is .i64 (m.add)))])), (103, (AO.row 3 1 (is .i64 ((wordZ m (numS a) i) ++ ([(iterZ m i (numS a)) % m.mod]))))), (3, (AO.var 79 [(bp ((stepZ m (iterZ m i (numS a))) < 0)), (AV.sl 1 (ns .u32 (digs ((stepZ m (iterZ m i (numS a)))).natAbs)))]))]⟩) (And.intro rfl (And.intro rfl (And.intro rfl (And.intro rfl (And.intro rfl (trivial)))))) (And.intro rfl (And.intro rfl (And.intro rfl (trivial))))) (Wk.trans (Wk.ren (id := 103) (id' := 50) rfl) (Wk.sub (And.intro (by exact rfl) (And.intro (by first | rfl | (simp)) (And.intro (by exact rfl) (And.intro (by exact rfl) (And.intro (by first | rfl | exact congrArg (nm _) (by omega) | exact nm_int (by omega) | exact nm_int (by simp [IntKind.wrap, IntKind.bits, IntKind.signed]; omega)) (trivial)))))) (And.intro (by first | rfl | exact row_ns (by simp) | exact congrArg (fun x => some (AO.blk (.stringIter _ x))) (by omega)) (And.intro (by first | rfl | exact row_ns (by simp) | exact congrArg (fun x => some (AO.blk (.stringIter _ x))) (by omega)) (And.intro (by first | rfl | exact row_ns (by simp) | exact congrArg (fun x => some (AO.blk (.stringIter _ x))) (by omega)) (trivial))))))
          · refine awp_exit ?_
            refine hK10 _ ?_
            refine awp_seq fun K20 hK20 => ?_
            refine awp_region rfl ?_
            refine o_move (AV.row 50) Gd.none rfl ?_
            refine o_assign (AV.row 50) Gd.none rfl ?_
            refine o_assign (nm .i64 (0)) Gd.none rfl ?_
            refine aops_end ?_
            refine hK20 _ ?_
            refine awp_wk (σ' := ⟨[(6, (AV.row 50)), (7, (nm .i64 (0)))], [(50, (AO.row 3 1 (is .i64 (wordZ m (numS a) i))))]⟩) (Wk.sub (And.intro rfl (And.intro rfl (trivial))) (And.intro rfl (trivial))) ?_
            refine awp_wk (σ' := ⟨[(6, (AV.sl 1 (is .i64 (wordZ m (numS a) i)))), (7, (nm .i64 (0)))], []⟩) (Wk.freeze (id := 50) (e := 3) (sz := 1) (cs := (is .i64 (wordZ m (numS a) i))) rfl) ?_
            refine awp_ret ?_
            refine post_ret ⟨[(AV.sl 1 (is .i64 (wordZ m (numS a) i))), (nm .i64 (0))], And.intro (AV.le_refl _) (And.intro (AV.le_refl _) (trivial)), rfl, ?_⟩
            have e := wordE_0 (m := m) (a := a) (K := K) ⟨hm', ha'⟩ (by omega) (by rw [show K.toNat = i by omega]; exact hf); rw [show K.toNat = i by omega] at e
            exact tup_eq2 (congrArg (fun l => AV.sl 1 (is .i64 l)) e.2) (congrArg (nm _) e.1)

theorem c_oApply (l : LineS) (a : ByteArray) (h1m : l.mul.size ≤ 9223372036854775807) (h2m : l.add.size ≤ 9223372036854775807) (h3m : l.div.size ≤ 9223372036854775807) (ha : a.size ≤ 9223372036854775807) : ECalls cx 28 [(AV.agg [(AV.lit (.string ((l).mul))), (AV.lit (.string ((l).add))), (AV.lit (.string ((l).div)))]), (AV.lit (.string (a)))] (.tup [.lit (.string (appS l a)), bp (AppB l a), nm .i64 (appE l a)]) := by
  refine ecalls_of_awp Tryd.func28 (c := _) rfl (Nat.le_of_ble_eq_true rfl) ?_
  show awp cx 66 _ (postF cx Tryd.f28 _) ⟨[(0, (AV.agg [(AV.lit (.string ((l).mul))), (AV.lit (.string ((l).add))), (AV.lit (.string ((l).div)))])), (1, (AV.lit (.string (a))))], []⟩
  refine awp_seq fun K0 hK0 => ?_
  refine awp_region rfl ?_
  refine o_box 2 [(AV.lit (.string ((l).mul))), (AV.lit (.string ((l).add))), (AV.lit (.string ((l).div)))] Gd.none rfl rfl ?_
  refine o_assign (AV.lit (.string (({data := #[]} : ByteArray)))) Gd.none rfl ?_
  refine o_assign (AV.lit (.bool false)) Gd.none rfl ?_
  refine o_assign (nm .i64 (0)) Gd.none rfl ?_
  refine aops_end ?_
  refine hK0 _ ?_
  refine awp_seq fun K1 hK1 => ?_
  refine awp_seq fun K2 hK2 => ?_
  refine awp_region rfl ?_
  refine o_fieldRef 0 Gd.none Xb_tF41_0 rfl rfl ?_
  refine o_loadS (AV.lit (.string ((l).mul))) Gd.none Xb_tS9 rfl rfl rfl ?_
  refine o_call [(AV.lit (.string ((l).mul)))] (AV.lit (.bool (okS ((l).mul)))) Gd.none Xb_tC47 rfl (c_nValid ((l).mul) (by first | assumption | decide | omega)) ?_
  refine o_not (b := okS ((l).mul)) Gd.none rfl ?_
  refine o_move (AV.lit (.bool (!(okS ((l).mul))))) Gd.none rfl ?_
  refine o_split (b := !(okS ((l).mul))) 15 rfl (fun h1 => ?_) (fun h1 => ?_)
  · have k1 : okS l.mul = false := by simpa using h1
    refine o_skip (b := !(okS ((l).mul))) rfl rfl h1 ?_
    refine o_skip (b := !(okS ((l).mul))) rfl rfl h1 ?_
    refine o_skip (b := !(okS ((l).mul))) rfl rfl h1 ?_
    refine o_skip (b := !(okS ((l).mul))) rfl rfl h1 ?_
    refine o_pickT (b := !(okS ((l).mul))) (AV.lit (.bool true)) Gd.none rfl h1 rfl ?_
    refine o_move (AV.lit (.bool true)) Gd.none rfl ?_
    refine o_skip (b := true) rfl rfl rfl ?_
    refine o_skip (b := true) rfl rfl rfl ?_
    refine o_skip (b := true) rfl rfl rfl ?_
    refine o_skip (b := true) rfl rfl rfl ?_
    refine o_pickT (b := true) (AV.lit (.bool true)) Gd.none rfl rfl rfl ?_
    refine o_move (AV.lit (.bool true)) Gd.none rfl ?_
    refine o_skip (b := true) rfl rfl rfl ?_
    refine o_skip (b := true) rfl rfl rfl ?_
    refine o_skip (b := true) rfl rfl rfl ?_
    refine o_pickT (b := true) (AV.lit (.bool true)) Gd.none rfl rfl rfl ?_
    refine aops_end ?_
    refine hK2 _ ?_
    refine awp_condB (b := true) rfl (fun _ => ?_) (fun hh => absurd (hh.symm.trans rfl) (by decide))
    refine awp_seq fun K3 hK3 => ?_
    refine awp_region rfl ?_
    refine o_assign (AV.lit (.string (({data := #[]} : ByteArray)))) Gd.none rfl ?_
    refine o_assign (AV.lit (.bool false)) Gd.none rfl ?_
    refine o_assign (nm .i64 (1)) Gd.none rfl ?_
    refine aops_end ?_
    refine hK3 _ ?_
    refine awp_ret ?_
    refine post_ret ⟨[(AV.lit (.string (({data := #[]} : ByteArray)))), (AV.lit (.bool false)), (nm .i64 (1))], And.intro (AV.le_refl _) (And.intro (AV.le_refl _) (And.intro (AV.le_refl _) (trivial))), rfl, ?_⟩
    have e := app_1 (l := l) (a := a) (fun e => by have := e.1; unfold okL at this; rw [k1] at this; simp at this)
    exact tup_eq3 (str_as e.2.2) (bp_no e.2.1) (congrArg (nm _) e.1)
  · have k1 : okS l.mul = true := by simpa using h1
    refine o_fieldRef 1 (Gd.yes rfl rfl h1) Xb_tF41_1 rfl rfl ?_
    refine o_loadS (AV.lit (.string ((l).add))) (Gd.yes rfl rfl h1) Xb_tS9 rfl rfl rfl ?_
    refine o_call [(AV.lit (.string ((l).add)))] (AV.lit (.bool (okS ((l).add)))) (Gd.yes rfl rfl h1) Xb_tC47 rfl (c_nValid ((l).add) (by first | assumption | decide | omega)) ?_
    refine o_not (b := okS ((l).add)) (Gd.yes rfl rfl h1) rfl ?_
    refine o_pickF (b := !(okS ((l).mul))) (AV.lit (.bool (!(okS ((l).add))))) Gd.none rfl h1 rfl ?_
    refine o_move (AV.lit (.bool (!(okS ((l).add))))) Gd.none rfl ?_
    refine o_split (b := !(okS ((l).add))) 21 rfl (fun h2 => ?_) (fun h2 => ?_)
    · have k2 : okS l.add = false := by simpa using h2
      refine o_skip (b := !(okS ((l).add))) rfl rfl h2 ?_
      refine o_skip (b := !(okS ((l).add))) rfl rfl h2 ?_
      refine o_skip (b := !(okS ((l).add))) rfl rfl h2 ?_
      refine o_skip (b := !(okS ((l).add))) rfl rfl h2 ?_
      refine o_pickT (b := !(okS ((l).add))) (AV.lit (.bool true)) Gd.none rfl h2 rfl ?_
      refine o_move (AV.lit (.bool true)) Gd.none rfl ?_
      refine o_skip (b := true) rfl rfl rfl ?_
      refine o_skip (b := true) rfl rfl rfl ?_
      refine o_skip (b := true) rfl rfl rfl ?_
      refine o_pickT (b := true) (AV.lit (.bool true)) Gd.none rfl rfl rfl ?_
      refine aops_end ?_
      refine hK2 _ ?_
      refine awp_condB (b := true) rfl (fun _ => ?_) (fun hh => absurd (hh.symm.trans rfl) (by decide))
      refine awp_seq fun K4 hK4 => ?_
      refine awp_region rfl ?_
      refine o_assign (AV.lit (.string (({data := #[]} : ByteArray)))) Gd.none rfl ?_
      refine o_assign (AV.lit (.bool false)) Gd.none rfl ?_
      refine o_assign (nm .i64 (1)) Gd.none rfl ?_
      refine aops_end ?_
      refine hK4 _ ?_
      refine awp_ret ?_
      refine post_ret ⟨[(AV.lit (.string (({data := #[]} : ByteArray)))), (AV.lit (.bool false)), (nm .i64 (1))], And.intro (AV.le_refl _) (And.intro (AV.le_refl _) (And.intro (AV.le_refl _) (trivial))), rfl, ?_⟩
      have e := app_1 (l := l) (a := a) (fun e => by have := e.1; unfold okL at this; rw [k2] at this; simp at this)
      exact tup_eq3 (str_as e.2.2) (bp_no e.2.1) (congrArg (nm _) e.1)
    · have k2 : okS l.add = true := by simpa using h2
      refine o_fieldRef 2 (Gd.yes rfl rfl h2) Xb_tF41_2 rfl rfl ?_
      refine o_loadS (AV.lit (.string ((l).div))) (Gd.yes rfl rfl h2) Xb_tS9 rfl rfl rfl ?_
      refine o_call [(AV.lit (.string ((l).div)))] (AV.lit (.bool (okS ((l).div)))) (Gd.yes rfl rfl h2) Xb_tC47 rfl (c_nValid ((l).div) (by first | assumption | decide | omega)) ?_
      refine o_not (b := okS ((l).div)) (Gd.yes rfl rfl h2) rfl ?_
      refine o_pickF (b := !(okS ((l).add))) (AV.lit (.bool (!(okS ((l).div))))) Gd.none rfl h2 rfl ?_
      refine o_move (AV.lit (.bool (!(okS ((l).div))))) Gd.none rfl ?_
      refine o_split (b := !(okS ((l).div))) 27 rfl (fun h3 => ?_) (fun h3 => ?_)
      · have k3 : okS l.div = false := by simpa using h3
        refine o_skip (b := !(okS ((l).div))) rfl rfl h3 ?_
        refine o_skip (b := !(okS ((l).div))) rfl rfl h3 ?_
        refine o_skip (b := !(okS ((l).div))) rfl rfl h3 ?_
        refine o_pickT (b := !(okS ((l).div))) (AV.lit (.bool true)) Gd.none rfl h3 rfl ?_
        refine aops_end ?_
        refine hK2 _ ?_
        refine awp_condB (b := true) rfl (fun _ => ?_) (fun hh => absurd (hh.symm.trans rfl) (by decide))
        refine awp_seq fun K5 hK5 => ?_
        refine awp_region rfl ?_
        refine o_assign (AV.lit (.string (({data := #[]} : ByteArray)))) Gd.none rfl ?_
        refine o_assign (AV.lit (.bool false)) Gd.none rfl ?_
        refine o_assign (nm .i64 (1)) Gd.none rfl ?_
        refine aops_end ?_
        refine hK5 _ ?_
        refine awp_ret ?_
        refine post_ret ⟨[(AV.lit (.string (({data := #[]} : ByteArray)))), (AV.lit (.bool false)), (nm .i64 (1))], And.intro (AV.le_refl _) (And.intro (AV.le_refl _) (And.intro (AV.le_refl _) (trivial))), rfl, ?_⟩
        have e := app_1 (l := l) (a := a) (fun e => by have := e.1; unfold okL at this; rw [k3] at this; simp at this)
        exact tup_eq3 (str_as e.2.2) (bp_no e.2.1) (congrArg (nm _) e.1)
      · have k3 : okS l.div = true := by simpa using h3
        refine o_move (AV.lit (.string (a))) (Gd.yes rfl rfl h3) rfl ?_
        refine o_call [(AV.lit (.string (a)))] (AV.lit (.bool (okS (a)))) (Gd.yes rfl rfl h3) Xb_tC47 rfl (c_nValid (a) (by first | assumption | decide | omega)) ?_
        refine o_not (b := okS (a)) (Gd.yes rfl rfl h3) rfl ?_
        refine o_pickF (b := !(okS ((l).div))) (AV.lit (.bool (!(okS (a))))) Gd.none rfl h3 rfl ?_
        refine aops_end ?_
        refine hK2 _ ?_
        refine awp_condB (b := !(okS (a))) rfl (fun h4 => ?_) (fun h4 => ?_)
        · have k4 : okS a = false := by simpa using h4
          refine awp_seq fun K6 hK6 => ?_
          refine awp_region rfl ?_
          refine o_assign (AV.lit (.string (({data := #[]} : ByteArray)))) Gd.none rfl ?_
          refine o_assign (AV.lit (.bool false)) Gd.none rfl ?_
          refine o_assign (nm .i64 (1)) Gd.none rfl ?_
          refine aops_end ?_
          refine hK6 _ ?_
          refine awp_ret ?_
          refine post_ret ⟨[(AV.lit (.string (({data := #[]} : ByteArray)))), (AV.lit (.bool false)), (nm .i64 (1))], And.intro (AV.le_refl _) (And.intro (AV.le_refl _) (And.intro (AV.le_refl _) (trivial))), rfl, ?_⟩
          have e := app_1 (l := l) (a := a) (fun e => by rw [k4] at e; simp at e)
          exact tup_eq3 (str_as e.2.2) (bp_no e.2.1) (congrArg (nm _) e.1)
        · have k4 : okS a = true := by simpa using h4
          have ho : okL l = true ∧ okS a = true := ⟨by unfold okL; rw [k1, k2, k3]; rfl, k4⟩
          have s1 := len_numS (okS_iff.1 k1)
          have s2 := len_numS (okS_iff.1 k2)
          have s3 := len_numS (okS_iff.1 k3)
          have s4 := len_numS (okS_iff.1 k4)
          have hA := len_mulZ (numS l.mul) (numS a)
          have hB := len_addZ (numS l.mul * numS a) (numS l.add)
          refine awp_skip ?_
          refine hK1 _ ?_
          refine awp_seq fun K7 hK7 => ?_
          refine awp_seq fun K8 hK8 => ?_
          refine awp_region rfl ?_
          refine o_loadA [(AV.lit (.string ((l).mul))), (AV.lit (.string ((l).add))), (AV.lit (.string ((l).div)))] Gd.none Xb_tA41 rfl rfl rfl rfl rfl ?_
          refine o_build [(AV.lit (.string (({data := #[49]} : ByteArray)))), (AV.lit (.string (({data := #[48]} : ByteArray)))), (AV.lit (.string (({data := #[49]} : ByteArray))))] [(0, [(AV.lit (.string (({data := #[49]} : ByteArray))))]), (1, [(AV.lit (.string (({data := #[48]} : ByteArray))))]), (2, [(AV.lit (.string (({data := #[49]} : ByteArray))))])] Gd.none Xb_tP41 Xb_tO41 rfl rfl rfl ?_
          refine o_eqlA [.string ((l).mul), .string ((l).add), .string ((l).div)] [.string (({data := #[49]} : ByteArray)), .string (({data := #[48]} : ByteArray)), .string (({data := #[49]} : ByteArray))] (((l).mul) = (({data := #[49]} : ByteArray)) ∧ ((l).add) = (({data := #[48]} : ByteArray)) ∧ ((l).div) = (({data := #[49]} : ByteArray))) Gd.none rfl rfl (eq_api_Line _ _ _ _ _ _) ?_
          refine aops_end ?_
          refine hK8 _ ?_
          refine awp_condQ (q := ((l).mul) = (({data := #[49]} : ByteArray)) ∧ ((l).add) = (({data := #[48]} : ByteArray)) ∧ ((l).div) = (({data := #[49]} : ByteArray))) rfl (fun h5 => ?_) (fun h5 => ?_)
          · refine awp_seq fun K9 hK9 => ?_
            refine awp_region rfl ?_
            refine o_move (AV.lit (.string (a))) Gd.none rfl ?_
            refine o_assign (AV.lit (.string (a))) Gd.none rfl ?_
            refine o_assign (AV.lit (.bool true)) Gd.none rfl ?_
            refine o_assign (nm .i64 (0)) Gd.none rfl ?_
            refine aops_end ?_
            refine hK9 _ ?_
            refine awp_ret ?_
            refine post_ret ⟨[(AV.lit (.string (a))), (AV.lit (.bool true)), (nm .i64 (0))], And.intro (AV.le_refl _) (And.intro (AV.le_refl _) (And.intro (AV.le_refl _) (trivial))), rfl, ?_⟩
            have e := app_one ho h5.1 h5.2.1 h5.2.2
            exact tup_eq3 (str_as e.2.2) (bp_yes e.2.1) (congrArg (nm _) e.1)
          · refine awp_skip ?_
            refine hK7 _ ?_
            refine awp_seq fun K10 hK10 => ?_
            refine awp_region rfl ?_
            refine o_fieldRef 2 Gd.none Xb_tF41_2 rfl rfl ?_
            refine o_loadS (AV.lit (.string ((l).div))) Gd.none Xb_tS9 rfl rfl rfl ?_
            refine o_call [(AV.lit (.string ((l).div)))] (intW ((numS ((l).div)))) Gd.none Xb_tC48 rfl (c_wParse ((l).div) (by first | assumption | exact okS_iff.1 (by assumption))) ?_
            refine o_alloc 3 [(AV.lit (.bool false)), (AV.lit (.slice none 0 0))] Gd.none Xb_tO79 rfl rfl rfl ?_
            refine o_store [(3, (AO.var 79 [(bp ((numS ((l).div)) < 0)), (AV.sl 1 (ns .u32 (digs ((numS ((l).div))).natAbs)))])), (2, (AO.var 41 [(AV.lit (.string ((l).mul))), (AV.lit (.string ((l).add))), (AV.lit (.string ((l).div)))]))] Gd.none Xb_tZ79 rfl rfl rfl rfl rfl rfl ?_
            refine aops_end ?_
            refine hK10 _ ?_
            refine awp_seq fun K11 hK11 => ?_
            refine awp_seq fun K12 hK12 => ?_
            refine awp_region rfl ?_
            refine o_loadA [(bp ((numS ((l).div)) < 0)), (AV.sl 1 (ns .u32 (digs ((numS ((l).div))).natAbs)))] Gd.none Xb_tA79 rfl rfl rfl rfl rfl ?_
            refine o_call [(AV.agg [(bp ((numS ((l).div)) < 0)), (AV.sl 1 (ns .u32 (digs ((numS ((l).div))).natAbs)))])] (AV.lit (.int .i64 (sgn ((numS ((l).div)))))) Gd.none Xb_tC68 rfl (c_wSign ((numS ((l).div)))) ?_
            refine o_leq (a := (sgn ((numS ((l).div))))) (c := (((0 : Nat) : Int))) Gd.none rfl rfl ?_
            refine aops_end ?_
            refine hK12 _ ?_
            refine awp_condQ (q := (sgn ((numS ((l).div)))) ≤ (((0 : Nat) : Int))) rfl (fun h6 => ?_) (fun h6 => ?_)
            · have hd : ¬ 0 < numS l.div := by have := sgn_le.1 h6; omega
              refine awp_seq fun K13 hK13 => ?_
              refine awp_region rfl ?_
              refine o_assign (AV.lit (.string (({data := #[]} : ByteArray)))) Gd.none rfl ?_
              refine o_assign (AV.lit (.bool false)) Gd.none rfl ?_
              refine o_assign (nm .i64 (2)) Gd.none rfl ?_
              refine aops_end ?_
              refine hK13 _ ?_
              refine awp_ret ?_
              refine post_ret ⟨[(AV.lit (.string (({data := #[]} : ByteArray)))), (AV.lit (.bool false)), (nm .i64 (2))], And.intro (AV.le_refl _) (And.intro (AV.le_refl _) (And.intro (AV.le_refl _) (trivial))), rfl, ?_⟩
              have e := app_2 ho hd
              exact tup_eq3 (str_as e.2.2) (bp_no e.2.1) (congrArg (nm _) e.1)
            · have hd : 0 < numS l.div := by rcases Int.lt_or_le 0 (numS l.div) with e | e; exact e; exact absurd (sgn_le.2 e) h6
              have hE := len_ediv (numS l.mul * numS a + numS l.add) hd
              refine awp_skip ?_
              refine hK11 _ ?_
              refine awp_seq fun K14 hK14 => ?_
              refine awp_regionD rfl ?_
              refine o_fieldRef 0 Gd.none Xb_tF41_0 rfl rfl ?_
              refine o_loadS (AV.lit (.string ((l).mul))) Gd.none Xb_tS9 rfl rfl rfl ?_
              refine o_call [(AV.lit (.string ((l).mul)))] (intW ((numS ((l).mul)))) Gd.none Xb_tC48 rfl (c_wParse ((l).mul) (by first | assumption | exact okS_iff.1 (by assumption))) ?_
              refine o_move (AV.lit (.string (a))) Gd.none rfl ?_
              refine o_call [(AV.lit (.string (a)))] (intW ((numS (a)))) Gd.none Xb_tC48 rfl (c_wParse (a) (by first | assumption | exact okS_iff.1 (by assumption))) ?_
              refine o_call [(intW ((numS ((l).mul)))), (intW ((numS (a))))] (intW (((numS ((l).mul)) * (numS (a))))) Gd.none Xb_tC60 rfl (c_wMul ((numS ((l).mul))) ((numS (a))) (by first | assumption | omega | (simp only [Int.natAbs_neg]; omega)) (by first | assumption | omega | (simp only [Int.natAbs_neg]; omega))) ?_
              refine o_fieldRef 1 Gd.none Xb_tF41_1 rfl rfl ?_
              refine o_loadS (AV.lit (.string ((l).add))) Gd.none Xb_tS9 rfl rfl rfl ?_
              refine o_call [(AV.lit (.string ((l).add)))] (intW ((numS ((l).add)))) Gd.none Xb_tC48 rfl (c_wParse ((l).add) (by first | assumption | exact okS_iff.1 (by assumption))) ?_
              refine o_call [(intW (((numS ((l).mul)) * (numS (a))))), (intW ((numS ((l).add))))] (intW ((((numS ((l).mul)) * (numS (a))) + (numS ((l).add))))) Gd.none Xb_tC61 rfl (c_wAdd (((numS ((l).mul)) * (numS (a)))) ((numS ((l).add))) (by first | assumption | omega | (simp only [Int.natAbs_neg]; omega)) (by first | assumption | omega | (simp only [Int.natAbs_neg]; omega))) ?_
              refine o_alloc 4 [(AV.lit (.bool false)), (AV.lit (.slice none 0 0))] Gd.none Xb_tO79 rfl rfl rfl ?_
              refine o_store [(4, (AO.var 79 [(bp ((((numS ((l).mul)) * (numS (a))) + (numS ((l).add))) < 0)), (AV.sl 1 (ns .u32 (digs ((((numS ((l).mul)) * (numS (a))) + (numS ((l).add)))).natAbs)))])), (3, (AO.var 79 [(bp ((numS ((l).div)) < 0)), (AV.sl 1 (ns .u32 (digs ((numS ((l).div))).natAbs)))])), (2, (AO.var 41 [(AV.lit (.string ((l).mul))), (AV.lit (.string ((l).add))), (AV.lit (.string ((l).div)))]))] Gd.none Xb_tZ79 rfl rfl rfl rfl rfl rfl ?_
              refine aops_end ⟨by kernel_rfl, ?_⟩
              refine hK14 _ ?_
              refine awp_seq fun K15 hK15 => ?_
              refine awp_seq fun K16 hK16 => ?_
              refine awp_region rfl ?_
              refine o_loadA [(bp ((((numS ((l).mul)) * (numS (a))) + (numS ((l).add))) < 0)), (AV.sl 1 (ns .u32 (digs ((((numS ((l).mul)) * (numS (a))) + (numS ((l).add)))).natAbs)))] Gd.none Xb_tA79 rfl rfl rfl rfl rfl ?_
              refine o_call [(AV.agg [(bp ((((numS ((l).mul)) * (numS (a))) + (numS ((l).add))) < 0)), (AV.sl 1 (ns .u32 (digs ((((numS ((l).mul)) * (numS (a))) + (numS ((l).add)))).natAbs)))])] (nm .i64 (ndig ((((numS ((l).mul)) * (numS (a))) + (numS ((l).add)))).natAbs)) Gd.none Xb_tC49 rfl (c_wDigits ((((numS ((l).mul)) * (numS (a))) + (numS ((l).add)))) (by first | assumption | omega | (simp only [Int.natAbs_neg]; omega))) ?_
              refine n_gtr (ndig ((((numS ((l).mul)) * (numS (a))) + (numS ((l).add)))).natAbs) (2000) Gd.none rfl rfl ?_
              refine aops_end ?_
              refine hK16 _ ?_
              refine awp_condQ (q := (2000) < (ndig ((((numS ((l).mul)) * (numS (a))) + (numS ((l).add)))).natAbs)) rfl (fun h7 => ?_) (fun h7 => ?_)
              · have hf : ¬ Fit (appV l a) := by unfold Fit appV; omega
                refine awp_seq fun K17 hK17 => ?_
                refine awp_region rfl ?_
                refine o_assign (AV.lit (.string (({data := #[]} : ByteArray)))) Gd.none rfl ?_
                refine o_assign (AV.lit (.bool false)) Gd.none rfl ?_
                refine o_assign (nm .i64 (3)) Gd.none rfl ?_
                refine aops_end ?_
                refine hK17 _ ?_
                refine awp_ret ?_
                refine post_ret ⟨[(AV.lit (.string (({data := #[]} : ByteArray)))), (AV.lit (.bool false)), (nm .i64 (3))], And.intro (AV.le_refl _) (And.intro (AV.le_refl _) (And.intro (AV.le_refl _) (trivial))), rfl, ?_⟩
                have e := app_3 ho hd hf
                exact tup_eq3 (str_as e.2.2) (bp_no e.2.1) (congrArg (nm _) e.1)
              · have hf : Fit (appV l a) := by unfold Fit appV; omega
                refine awp_skip ?_
                refine hK15 _ ?_
                refine awp_seq fun K18 hK18 => ?_
                refine awp_region rfl ?_
                refine o_loadA [(bp ((((numS ((l).mul)) * (numS (a))) + (numS ((l).add))) < 0)), (AV.sl 1 (ns .u32 (digs ((((numS ((l).mul)) * (numS (a))) + (numS ((l).add)))).natAbs)))] Gd.none Xb_tA79 rfl rfl rfl rfl rfl ?_
                refine o_loadA [(bp ((numS ((l).div)) < 0)), (AV.sl 1 (ns .u32 (digs ((numS ((l).div))).natAbs)))] Gd.none Xb_tA79 rfl rfl rfl rfl rfl ?_
                refine o_call [(AV.agg [(bp ((((numS ((l).mul)) * (numS (a))) + (numS ((l).add))) < 0)), (AV.sl 1 (ns .u32 (digs ((((numS ((l).mul)) * (numS (a))) + (numS ((l).add)))).natAbs)))]), (AV.agg [(bp ((numS ((l).div)) < 0)), (AV.sl 1 (ns .u32 (digs ((numS ((l).div))).natAbs)))])] (AV.tup [(intW (((((numS ((l).mul)) * (numS (a))) + (numS ((l).add))) / (numS ((l).div))))), (intW (((((numS ((l).mul)) * (numS (a))) + (numS ((l).add))) % (numS ((l).div)))))]) Gd.none Xb_tC62 rfl (c_wDivide ((((numS ((l).mul)) * (numS (a))) + (numS ((l).add)))) ((numS ((l).div))) (by omega) (by omega) (by omega)) ?_
                refine o_move (AV.tup [(intW (((((numS ((l).mul)) * (numS (a))) + (numS ((l).add))) / (numS ((l).div))))), (intW (((((numS ((l).mul)) * (numS (a))) + (numS ((l).add))) % (numS ((l).div)))))]) Gd.none rfl ?_
                refine o_extract (intW (((((numS ((l).mul)) * (numS (a))) + (numS ((l).add))) / (numS ((l).div))))) Gd.none rfl rfl ?_
                refine o_extract (intW (((((numS ((l).mul)) * (numS (a))) + (numS ((l).add))) % (numS ((l).div))))) Gd.none rfl rfl ?_
                refine o_alloc 5 [(AV.lit (.bool false)), (AV.lit (.slice none 0 0))] Gd.none Xb_tO79 rfl rfl rfl ?_
                refine o_alloc 6 [(AV.lit (.bool false)), (AV.lit (.slice none 0 0))] Gd.none Xb_tO79 rfl rfl rfl ?_
                refine o_store [(6, (AO.var 79 [(AV.lit (.bool false)), (AV.lit (.slice none 0 0))])), (5, (AO.var 79 [(bp (((((numS ((l).mul)) * (numS (a))) + (numS ((l).add))) / (numS ((l).div))) < 0)), (AV.sl 1 (ns .u32 (digs (((((numS ((l).mul)) * (numS (a))) + (numS ((l).add))) / (numS ((l).div)))).natAbs)))])), (4, (AO.var 79 [(bp ((((numS ((l).mul)) * (numS (a))) + (numS ((l).add))) < 0)), (AV.sl 1 (ns .u32 (digs ((((numS ((l).mul)) * (numS (a))) + (numS ((l).add)))).natAbs)))])), (3, (AO.var 79 [(bp ((numS ((l).div)) < 0)), (AV.sl 1 (ns .u32 (digs ((numS ((l).div))).natAbs)))])), (2, (AO.var 41 [(AV.lit (.string ((l).mul))), (AV.lit (.string ((l).add))), (AV.lit (.string ((l).div)))]))] Gd.none Xb_tZ79 rfl rfl rfl rfl rfl rfl ?_
                refine o_store [(6, (AO.var 79 [(bp (((((numS ((l).mul)) * (numS (a))) + (numS ((l).add))) % (numS ((l).div))) < 0)), (AV.sl 1 (ns .u32 (digs (((((numS ((l).mul)) * (numS (a))) + (numS ((l).add))) % (numS ((l).div)))).natAbs)))])), (5, (AO.var 79 [(bp (((((numS ((l).mul)) * (numS (a))) + (numS ((l).add))) / (numS ((l).div))) < 0)), (AV.sl 1 (ns .u32 (digs (((((numS ((l).mul)) * (numS (a))) + (numS ((l).add))) / (numS ((l).div)))).natAbs)))])), (4, (AO.var 79 [(bp ((((numS ((l).mul)) * (numS (a))) + (numS ((l).add))) < 0)), (AV.sl 1 (ns .u32 (digs ((((numS ((l).mul)) * (numS (a))) + (numS ((l).add)))).natAbs)))])), (3, (AO.var 79 [(bp ((numS ((l).div)) < 0)), (AV.sl 1 (ns .u32 (digs ((numS ((l).div))).natAbs)))])), (2, (AO.var 41 [(AV.lit (.string ((l).mul))), (AV.lit (.string ((l).add))), (AV.lit (.string ((l).div)))]))] Gd.none Xb_tZ79 rfl rfl rfl rfl rfl rfl ?_
                refine aops_end ?_
                refine hK18 _ ?_
                refine awp_seq fun K19 hK19 => ?_
                refine awp_seq fun K20 hK20 => ?_
                refine awp_region rfl ?_
                refine o_loadA [(bp (((((numS ((l).mul)) * (numS (a))) + (numS ((l).add))) % (numS ((l).div))) < 0)), (AV.sl 1 (ns .u32 (digs (((((numS ((l).mul)) * (numS (a))) + (numS ((l).add))) % (numS ((l).div)))).natAbs)))] Gd.none Xb_tA79 rfl rfl rfl rfl rfl ?_
                refine o_call [(AV.agg [(bp (((((numS ((l).mul)) * (numS (a))) + (numS ((l).add))) % (numS ((l).div))) < 0)), (AV.sl 1 (ns .u32 (digs (((((numS ((l).mul)) * (numS (a))) + (numS ((l).add))) % (numS ((l).div)))).natAbs)))])] (AV.lit (.int .i64 (sgn (((((numS ((l).mul)) * (numS (a))) + (numS ((l).add))) % (numS ((l).div))))))) Gd.none Xb_tC68 rfl (c_wSign (((((numS ((l).mul)) * (numS (a))) + (numS ((l).add))) % (numS ((l).div))))) ?_
                refine o_neq (a := (sgn (((((numS ((l).mul)) * (numS (a))) + (numS ((l).add))) % (numS ((l).div)))))) (c := (((0 : Nat) : Int))) Gd.none rfl rfl ?_
                refine aops_end ?_
                refine hK20 _ ?_
                refine awp_condQ (q := (sgn (((((numS ((l).mul)) * (numS (a))) + (numS ((l).add))) % (numS ((l).div))))) ≠ (((0 : Nat) : Int))) rfl (fun h8 => ?_) (fun h8 => ?_)
                · have hr : ¬ appV l a % numS l.div = 0 := fun e => h8 (sgn_z0.2 e)
                  refine awp_seq fun K21 hK21 => ?_
                  refine awp_region rfl ?_
                  refine o_assign (AV.lit (.string (({data := #[]} : ByteArray)))) Gd.none rfl ?_
                  refine o_assign (AV.lit (.bool false)) Gd.none rfl ?_
                  refine o_assign (nm .i64 (0)) Gd.none rfl ?_
                  refine aops_end ?_
                  refine hK21 _ ?_
                  refine awp_ret ?_
                  refine post_ret ⟨[(AV.lit (.string (({data := #[]} : ByteArray)))), (AV.lit (.bool false)), (nm .i64 (0))], And.intro (AV.le_refl _) (And.intro (AV.le_refl _) (And.intro (AV.le_refl _) (trivial))), rfl, ?_⟩
                  have e := app_no ho hd hf hr
                  exact tup_eq3 (str_as e.2.2) (bp_no e.2.1) (congrArg (nm _) e.1)
                · have hr : appV l a % numS l.div = 0 := sgn_z0.1 (Decidable.not_not.1 h8)
                  refine awp_skip ?_
                  refine hK19 _ ?_
                  refine awp_seq fun K22 hK22 => ?_
                  refine awp_region rfl ?_
                  refine o_loadA [(bp (((((numS ((l).mul)) * (numS (a))) + (numS ((l).add))) / (numS ((l).div))) < 0)), (AV.sl 1 (ns .u32 (digs (((((numS ((l).mul)) * (numS (a))) + (numS ((l).add))) / (numS ((l).div)))).natAbs)))] Gd.none Xb_tA79 rfl rfl rfl rfl rfl ?_
                  refine o_call [(AV.agg [(bp (((((numS ((l).mul)) * (numS (a))) + (numS ((l).add))) / (numS ((l).div))) < 0)), (AV.sl 1 (ns .u32 (digs (((((numS ((l).mul)) * (numS (a))) + (numS ((l).add))) / (numS ((l).div)))).natAbs)))])] (AV.lit (.string (txt (((((numS ((l).mul)) * (numS (a))) + (numS ((l).add))) / (numS ((l).div))))))) Gd.none Xb_tC64 rfl (c_wText (((((numS ((l).mul)) * (numS (a))) + (numS ((l).add))) / (numS ((l).div)))) (by first | assumption | omega | (simp only [Int.natAbs_neg]; omega))) ?_
                  refine o_assign (AV.lit (.string (txt (((((numS ((l).mul)) * (numS (a))) + (numS ((l).add))) / (numS ((l).div))))))) Gd.none rfl ?_
                  refine o_assign (AV.lit (.bool true)) Gd.none rfl ?_
                  refine o_assign (nm .i64 (0)) Gd.none rfl ?_
                  refine aops_end ?_
                  refine hK22 _ ?_
                  refine awp_ret ?_
                  refine post_ret ⟨[(AV.lit (.string (txt (((((numS ((l).mul)) * (numS (a))) + (numS ((l).add))) / (numS ((l).div))))))), (AV.lit (.bool true)), (nm .i64 (0))], And.intro (AV.le_refl _) (And.intro (AV.le_refl _) (And.intro (AV.le_refl _) (trivial))), rfl, ?_⟩
                  have e := app_yes ho hd hf hr
                  exact tup_eq3 (str_as e.2.2) (bp_yes e.2.1) (congrArg (nm _) e.1)

theorem c_oRest (m : MapM) (w : List Int) (hwl : w.length ≤ 17592186044416) : ECalls cx 21 [(mapV m), (AV.sl 1 (is .i64 (w)))] (.tup [.lit (.string (restS m w)), .lit (.string (restD m w)), nm .i64 (restE m w)]) := by
  refine ecalls_of_awp Tryd.func21 (c := _) rfl (Nat.le_of_ble_eq_true rfl) ?_
  show awp cx 84 _ (postF cx Tryd.f21 _) ⟨[(0, (mapV m)), (1, (AV.sl 1 (is .i64 (w))))], []⟩
  refine awp_seq fun K0 hK0 => ?_
  refine awp_region rfl ?_
  refine o_box 2 [(AV.lit (.int .i64 (m.mod))), (AV.sl 1 (is .i64 (m.mul))), (AV.sl 1 (is .i64 (m.add)))] Gd.none rfl rfl ?_
  refine o_assign (AV.lit (.string (({data := #[]} : ByteArray)))) Gd.none rfl ?_
  refine o_assign (AV.lit (.string (({data := #[]} : ByteArray)))) Gd.none rfl ?_
  refine o_assign (nm .i64 (0)) Gd.none rfl ?_
  refine aops_end ?_
  refine hK0 _ ?_
  refine awp_seq fun K1 hK1 => ?_
  refine awp_block ?_
  refine awp_seq fun K2 hK2 => ?_
  refine awp_region rfl ?_
  refine o_loadA [(AV.lit (.int .i64 (m.mod))), (AV.sl 1 (is .i64 (m.mul))), (AV.sl 1 (is .i64 (m.add)))] Gd.none Xb_tA24 rfl rfl rfl rfl rfl ?_
  refine o_call [(AV.agg [(AV.lit (.int .i64 (m.mod))), (AV.sl 1 (is .i64 (m.mul))), (AV.sl 1 (is .i64 (m.add)))])] (AV.lit (.bool (okM m))) Gd.none Xb_tC46 rfl (c_sValid m) ?_
  refine o_not (b := okM m) Gd.none rfl ?_
  refine o_assign (AV.lit (.bool (!(okM m)))) Gd.none rfl ?_
  refine aops_end ?_
  refine hK2 _ ?_
  refine awp_condB (b := !(okM m)) rfl (fun h1 => ?_) (fun h1 => ?_)
  · have hm' : ¬ okM m = true := by simpa using h1
    refine awp_seq fun K3 hK3 => ?_
    refine awp_region rfl ?_
    refine o_assign (AV.lit (.string (({data := #[]} : ByteArray)))) Gd.none rfl ?_
    refine o_assign (AV.lit (.string (({data := #[]} : ByteArray)))) Gd.none rfl ?_
    refine o_assign (nm .i64 (1)) Gd.none rfl ?_
    refine aops_end ?_
    refine hK3 _ ?_
    refine awp_ret ?_
    refine post_ret ⟨[(AV.lit (.string (({data := #[]} : ByteArray)))), (AV.lit (.string (({data := #[]} : ByteArray)))), (nm .i64 (1))], And.intro (AV.le_refl _) (And.intro (AV.le_refl _) (And.intro (AV.le_refl _) (trivial))), rfl, ?_⟩
    have e := rest_1 (m := m) (w := w) hm'
    exact tup_eq3 (str_as e.2.1) (str_as e.2.2) (congrArg (nm _) e.1)
  · have hm' : okM m = true := by simpa using h1
    have hM := okM_iff.1 hm'
    have hM2 := hM
    obtain ⟨o1, o2, o3, o4, o5⟩ := hM2
    refine awp_seq fun K4 hK4 => ?_
    refine awp_region rfl ?_
    refine o_loadA [(AV.lit (.int .i64 (m.mod))), (AV.sl 1 (is .i64 (m.mul))), (AV.sl 1 (is .i64 (m.add)))] Gd.none Xb_tA24 rfl rfl rfl rfl rfl ?_
    refine o_move (AV.sl 1 (is .i64 (w))) Gd.none rfl ?_
    refine o_call [(AV.agg [(AV.lit (.int .i64 (m.mod))), (AV.sl 1 (is .i64 (m.mul))), (AV.sl 1 (is .i64 (m.add)))]), (AV.sl 1 (is .i64 (w)))] (bp (OkW m (w))) Gd.none Xb_tC55 rfl (c_oIs m (w)) ?_
    refine o_notP (q := OkW m (w)) Gd.none rfl ?_
    refine o_move (bp (¬ (OkW m (w)))) Gd.none rfl ?_
    refine o_splitP (q := ¬ (OkW m (w))) 25 rfl (fun h2 => ?_) (fun h2 => ?_)
    · refine o_skip (b := decide (¬ (OkW m (w)))) rfl rfl (decide_eq_true h2) ?_
      refine o_skip (b := decide (¬ (OkW m (w)))) rfl rfl (decide_eq_true h2) ?_
      refine o_skip (b := decide (¬ (OkW m (w)))) rfl rfl (decide_eq_true h2) ?_
      refine o_pickT (b := decide (¬ (OkW m (w)))) (AV.lit (.bool true)) Gd.none rfl (decide_eq_true h2) rfl ?_
      refine o_assign (AV.lit (.bool true)) Gd.none rfl ?_
      refine aops_end ?_
      refine hK4 _ ?_
      refine awp_condB (b := true) rfl (fun _ => ?_) (fun hh => absurd (hh.symm.trans rfl) (by decide))
      refine awp_seq fun K5 hK5 => ?_
      refine awp_region rfl ?_
      refine o_assign (AV.lit (.string (({data := #[]} : ByteArray)))) Gd.none rfl ?_
      refine o_assign (AV.lit (.string (({data := #[]} : ByteArray)))) Gd.none rfl ?_
      refine o_assign (nm .i64 (2)) Gd.none rfl ?_
      refine aops_end ?_
      refine hK5 _ ?_
      refine awp_ret ?_
      refine post_ret ⟨[(AV.lit (.string (({data := #[]} : ByteArray)))), (AV.lit (.string (({data := #[]} : ByteArray)))), (nm .i64 (2))], And.intro (AV.le_refl _) (And.intro (AV.le_refl _) (And.intro (AV.le_refl _) (trivial))), rfl, ?_⟩
      have e := rest_2 (m := m) (w := w) hm' (fun e => h2 e.1)
      exact tup_eq3 (str_as e.2.1) (str_as e.2.2) (congrArg (nm _) e.1)
    · have hW : OkW m w := Decidable.not_not.1 h2
      have hWl := hW.2
      refine o_loadA [(AV.lit (.int .i64 (m.mod))), (AV.sl 1 (is .i64 (m.mul))), (AV.sl 1 (is .i64 (m.add)))] (Gd.yes rfl rfl (decide_eq_false h2)) Xb_tA24 rfl rfl rfl rfl rfl ?_
      refine o_call [(AV.agg [(AV.lit (.int .i64 (m.mod))), (AV.sl 1 (is .i64 (m.mul))), (AV.sl 1 (is .i64 (m.add)))])] (bp (freeM m)) (Gd.yes rfl rfl (decide_eq_false h2)) Xb_tC58 rfl (c_sFree m (by first | assumption | exact okM_iff.1 (by assumption))) ?_
      refine o_notP (q := freeM m) (Gd.yes rfl rfl (decide_eq_false h2)) rfl ?_
      refine o_pickF (b := decide (¬ (OkW m (w)))) (bp (¬ (freeM m))) Gd.none rfl (decide_eq_false h2) rfl ?_
      refine o_assign (bp (¬ (freeM m))) Gd.none rfl ?_
      refine aops_end ?_
      refine hK4 _ ?_
      refine awp_condQ (q := ¬ (freeM m)) rfl (fun h3 => ?_) (fun h3 => ?_)
      · refine awp_seq fun K6 hK6 => ?_
        refine awp_region rfl ?_
        refine o_assign (AV.lit (.string (({data := #[]} : ByteArray)))) Gd.none rfl ?_
        refine o_assign (AV.lit (.string (({data := #[]} : ByteArray)))) Gd.none rfl ?_
        refine o_assign (nm .i64 (2)) Gd.none rfl ?_
        refine aops_end ?_
        refine hK6 _ ?_
        refine awp_ret ?_
        refine post_ret ⟨[(AV.lit (.string (({data := #[]} : ByteArray)))), (AV.lit (.string (({data := #[]} : ByteArray)))), (nm .i64 (2))], And.intro (AV.le_refl _) (And.intro (AV.le_refl _) (And.intro (AV.le_refl _) (trivial))), rfl, ?_⟩
        have e := rest_2 (m := m) (w := w) hm' (fun e => h3 e.2)
        exact tup_eq3 (str_as e.2.1) (str_as e.2.2) (congrArg (nm _) e.1)
      · have hF : freeM m := Decidable.not_not.1 h3
        refine awp_skip ?_
        refine hK1 _ ?_
        refine awp_seq fun K7 hK7 => ?_
        refine awp_region rfl ?_
        refine o_call [(nm .i64 (0))] (intW ((0 : Int))) Gd.none Xb_tC59 rfl (c_wOf ((0 : Int)) (by first | decide | omega) (by first | decide | omega)) ?_
        refine o_call [(nm .i64 (1))] (intW ((1 : Int))) Gd.none Xb_tC59 rfl (c_wOf ((1 : Int)) (by first | decide | omega) (by first | decide | omega)) ?_
        refine o_alloc 3 [(AV.lit (.bool false)), (AV.lit (.slice none 0 0))] Gd.none Xb_tO79 rfl rfl rfl ?_
        refine o_alloc 4 [(AV.lit (.bool false)), (AV.lit (.slice none 0 0))] Gd.none Xb_tO79 rfl rfl rfl ?_
        refine o_store [(4, (AO.var 79 [(AV.lit (.bool false)), (AV.lit (.slice none 0 0))])), (3, (AO.var 79 [(bp ((0 : Int) < 0)), (AV.sl 1 (ns .u32 (digs ((0 : Int)).natAbs)))])), (2, (AO.var 24 [(AV.lit (.int .i64 (m.mod))), (AV.sl 1 (is .i64 (m.mul))), (AV.sl 1 (is .i64 (m.add)))]))] Gd.none Xb_tZ79 rfl rfl rfl rfl rfl rfl ?_
        refine o_store [(4, (AO.var 79 [(bp ((1 : Int) < 0)), (AV.sl 1 (ns .u32 (digs ((1 : Int)).natAbs)))])), (3, (AO.var 79 [(bp ((0 : Int) < 0)), (AV.sl 1 (ns .u32 (digs ((0 : Int)).natAbs)))])), (2, (AO.var 24 [(AV.lit (.int .i64 (m.mod))), (AV.sl 1 (is .i64 (m.mul))), (AV.sl 1 (is .i64 (m.add)))]))] Gd.none Xb_tZ79 rfl rfl rfl rfl rfl rfl ?_
        refine aops_end ?_
        refine hK7 _ ?_
        refine awp_seq fun K8 hK8 => ?_
        refine awp_seq fun K9 hK9 => ?_
        refine awp_region rfl ?_
        refine o_move (AV.sl 1 (is .i64 (w))) Gd.none rfl ?_
        refine i_len (w) Gd.none Xb_tU22 rfl ?_
        refine o_move (nm .i64 (0)) Gd.none rfl ?_
        refine aops_end ?_
        refine hK9 _ ?_
        refine awp_block ?_
        refine awp_loopR (fun κ σ => ∃ (i : Nat), ∃ (R : Int), (i ≤ w.length) ∧ (R = (restZ m (w.take i)).1) ∧ ((digs R.natAbs).length ≤ 13 * i + 4) ∧ (w.length - i) = κ ∧ σ = ⟨[(1, (AV.sl 1 (is .i64 (w)))), (2, (AV.ref 2 (0))), (7, (AV.ref 3 (0))), (8, (AV.ref 4 (0))), (32, (AV.sl 1 (is .i64 (w)))), (33, (nm .i64 ((w).length))), (34, (nm .i64 (i)))], [(2, (AO.var 24 [(AV.lit (.int .i64 (m.mod))), (AV.sl 1 (is .i64 (m.mul))), (AV.sl 1 (is .i64 (m.add)))])), (3, (AO.var 79 [(bp (R < 0)), (AV.sl 1 (ns .u32 (digs (R).natAbs)))])), (4, (AO.var 79 [(bp ((m.mod ^ i) < 0)), (AV.sl 1 (ns .u32 (digs ((m.mod ^ i)).natAbs)))]))]⟩) ⟨_, _, ⟨0, 0, (by omega), rfl, (by simp [digs_zero]), rfl, rfl⟩, ?wk0⟩ ?rd0
        case wk0 =>
          exact Wk.sub (And.intro (by exact rfl) (And.intro (by exact rfl) (And.intro (by exact rfl) (And.intro (by exact rfl) (And.intro (by exact rfl) (And.intro (by exact rfl) (And.intro (by first | rfl | exact congrArg (nm _) (by omega) | exact nm_int (by omega) | exact nm_int (by simp [IntKind.wrap, IntKind.bits, IntKind.signed]; omega)) (trivial)))))))) (And.intro (by first | rfl | exact row_ns (by simp) | exact congrArg (fun x => some (AO.blk (.stringIter _ x))) (by omega) | (simp only [Int.pow_zero, Int.pow_succ]; rfl)) (And.intro (by first | rfl | exact row_ns (by simp) | exact congrArg (fun x => some (AO.blk (.stringIter _ x))) (by omega) | (simp only [Int.pow_zero, Int.pow_succ]; rfl)) (And.intro (by first | rfl | exact row_ns (by simp) | exact congrArg (fun x => some (AO.blk (.stringIter _ x))) (by omega) | (simp only [Int.pow_zero, Int.pow_succ]; rfl)) (trivial))))
        rintro κ _ ⟨i, R, hi, hR, hRl, rfl, rfl⟩
        obtain ⟨L1, L2, L3⟩ := line_len hM (w.take i) (isW_take hW.1 i)
        have L4 : (w.take i).length = i := by rw [List.length_take]; omega
        have L5 : (digs (m.mod ^ i).natAbs).length ≤ 3 * i + 3 := by have := lineZ_div m (w.take i); rw [L4] at this; rw [← this]; omega
        refine awp_seq fun K10 hK10 => ?_
        refine awp_region rfl ?_
        refine n_lss (i) ((w).length) Gd.none rfl rfl ?_
        refine aops_end ?_
        refine hK10 _ ?_
        refine awp_seq fun K11 hK11 => ?_
        refine awp_condQ (q := (i) < ((w).length)) rfl (fun h4 => ?_) (fun h4 => ?_)
        · have hwi := isW_get hW.1 h4
          have hd1 := small_len (z := m.mod) (by omega)
          obtain ⟨T, hT⟩ : ∃ T, T = lookT (lineZ m (w.take i)).mul m.mod (((lineZ m (w.take i)).mul * R + (lineZ m (w.take i)).add) / (lineZ m (w.take i)).div) (w.getD i 0) := ⟨_, rfl⟩
          obtain ⟨t1, t2, t3, t4⟩ := rest_step hM hF hW.1 h4 hR hT
          have hp1 := len_mulZ (lineZ m (w.take i)).mul R
          have hp2 := len_addZ ((lineZ m (w.take i)).mul * R) (lineZ m (w.take i)).add
          have hp3 : 0 < (lineZ m (w.take i)).div := by rw [lineZ_div]; exact Int.pow_pos (by omega)
          have hmd : ((m.mod.toNat : Nat) : Int) = m.mod := Int.toNat_of_nonneg (by omega)
          have hp5 := len_mulZ (m.mod ^ i) m.mod
          have hp4 := len_ediv ((lineZ m (w.take i)).mul * R + (lineZ m (w.take i)).add) hp3
          refine awp_skip ?_
          refine hK11 _ ?_
          refine awp_seq fun K12 hK12 => ?_
          refine awp_block ?_
          refine awp_seq fun K13 hK13 => ?_
          refine awp_region rfl ?_
          refine o_move (nm .i64 (i)) Gd.none rfl ?_
          refine i_index (w) (i) Gd.none Xb_tE22 rfl rfl (by omega) ?_
          refine i_loadI (w) (i) Gd.none Xb_tS3 rfl (by omega) ?_
          refine o_assign (nm .i64 (i)) Gd.none rfl ?_
          refine o_assign (AV.lit (.int .i64 ((w).getD (i) 0))) Gd.none rfl ?_
          refine aops_end ?_
          refine hK13 _ ?_
          refine awp_seq fun K14 hK14 => ?_
          refine awp_regionD rfl ?_
          refine o_loadA [(AV.lit (.int .i64 (m.mod))), (AV.sl 1 (is .i64 (m.mul))), (AV.sl 1 (is .i64 (m.add)))] Gd.none Xb_tA24 rfl rfl rfl rfl rfl ?_
          refine o_move (AV.sl 1 (is .i64 (w))) Gd.none rfl ?_
          refine o_move (nm .i64 (i)) Gd.none rfl ?_
          refine i_slice (w) (0) (i) Gd.none Xb_tE22 rfl rfl (hi_nm rfl) trivial (by omega) (by omega) ?_
          refine n_as (v' := (AV.sl 1 (is .i64 ((w).take (i))))) (by rfl) ?_
          refine o_call [(AV.agg [(AV.lit (.int .i64 (m.mod))), (AV.sl 1 (is .i64 (m.mul))), (AV.sl 1 (is .i64 (m.add)))]), (AV.sl 1 (is .i64 ((w).take (i))))] (linW (lineZ m ((w).take (i)))) Gd.none Xb_tC56 rfl (c_oOf m ((w).take (i)) (by first | assumption | exact okM_iff.1 (by assumption)) (by first | assumption | exact (by assumption : OkW _ _).1 | exact isW_take (by assumption : OkW _ _).1 _) (by first | omega | exact (by assumption : OkW _ _).2)) ?_
          refine o_alloc 101 [(AV.lit (.bool false)), (AV.lit (.slice none 0 0)), (AV.lit (.bool false)), (AV.lit (.slice none 0 0)), (AV.lit (.bool false)), (AV.lit (.slice none 0 0))] Gd.none Xb_tO89 rfl rfl rfl ?_
          refine o_store [(101, (AO.var 89 [(bp (((lineZ m ((w).take (i))).mul) < 0)), (AV.sl 1 (ns .u32 (digs ((lineZ m ((w).take (i))).mul).natAbs))), (bp (((lineZ m ((w).take (i))).add) < 0)), (AV.sl 1 (ns .u32 (digs ((lineZ m ((w).take (i))).add).natAbs))), (bp (((lineZ m ((w).take (i))).div) < 0)), (AV.sl 1 (ns .u32 (digs ((lineZ m ((w).take (i))).div).natAbs)))])), (2, (AO.var 24 [(AV.lit (.int .i64 (m.mod))), (AV.sl 1 (is .i64 (m.mul))), (AV.sl 1 (is .i64 (m.add)))])), (3, (AO.var 79 [(bp (R < 0)), (AV.sl 1 (ns .u32 (digs (R).natAbs)))])), (4, (AO.var 79 [(bp ((m.mod ^ i) < 0)), (AV.sl 1 (ns .u32 (digs ((m.mod ^ i)).natAbs)))]))] Gd.none Xb_tZ89 rfl rfl rfl rfl rfl rfl ?_
          refine aops_end ⟨by kernel_rfl, ?_⟩
          refine hK14 _ ?_
          refine awp_seq fun K15 hK15 => ?_
          refine awp_regionD rfl ?_
          refine o_fieldRef 0 Gd.none Xb_tF89_0 rfl rfl ?_
          refine o_loadA [(bp (((lineZ m ((w).take (i))).mul) < 0)), (AV.sl 1 (ns .u32 (digs ((lineZ m ((w).take (i))).mul).natAbs)))] Gd.none Xb_tA79 rfl rfl rfl rfl rfl ?_
          refine o_loadA [(bp (R < 0)), (AV.sl 1 (ns .u32 (digs (R).natAbs)))] Gd.none Xb_tA79 rfl rfl rfl rfl rfl ?_
          refine o_call [(AV.agg [(bp (((lineZ m ((w).take (i))).mul) < 0)), (AV.sl 1 (ns .u32 (digs ((lineZ m ((w).take (i))).mul).natAbs)))]), (AV.agg [(bp (R < 0)), (AV.sl 1 (ns .u32 (digs (R).natAbs)))])] (intW ((((lineZ m ((w).take (i))).mul) * R))) Gd.none Xb_tC60 rfl (c_wMul (((lineZ m ((w).take (i))).mul)) (R) (by first | assumption | omega | (simp only [Int.natAbs_neg]; omega)) (by first | assumption | omega | (simp only [Int.natAbs_neg]; omega))) ?_
          refine o_fieldRef 2 Gd.none Xb_tF89_1 rfl rfl ?_
          refine o_loadA [(bp (((lineZ m ((w).take (i))).add) < 0)), (AV.sl 1 (ns .u32 (digs ((lineZ m ((w).take (i))).add).natAbs)))] Gd.none Xb_tA79 rfl rfl rfl rfl rfl ?_
          refine o_call [(intW ((((lineZ m ((w).take (i))).mul) * R))), (AV.agg [(bp (((lineZ m ((w).take (i))).add) < 0)), (AV.sl 1 (ns .u32 (digs ((lineZ m ((w).take (i))).add).natAbs)))])] (intW (((((lineZ m ((w).take (i))).mul) * R) + ((lineZ m ((w).take (i))).add)))) Gd.none Xb_tC61 rfl (c_wAdd ((((lineZ m ((w).take (i))).mul) * R)) (((lineZ m ((w).take (i))).add)) (by first | assumption | omega | (simp only [Int.natAbs_neg]; omega)) (by first | assumption | omega | (simp only [Int.natAbs_neg]; omega))) ?_
          refine o_fieldRef 4 Gd.none Xb_tF89_2 rfl rfl ?_
          refine o_loadA [(bp (((lineZ m ((w).take (i))).div) < 0)), (AV.sl 1 (ns .u32 (digs ((lineZ m ((w).take (i))).div).natAbs)))] Gd.none Xb_tA79 rfl rfl rfl rfl rfl ?_
          refine o_call [(intW (((((lineZ m ((w).take (i))).mul) * R) + ((lineZ m ((w).take (i))).add)))), (AV.agg [(bp (((lineZ m ((w).take (i))).div) < 0)), (AV.sl 1 (ns .u32 (digs ((lineZ m ((w).take (i))).div).natAbs)))])] (AV.tup [(intW ((((((lineZ m ((w).take (i))).mul) * R) + ((lineZ m ((w).take (i))).add)) / ((lineZ m ((w).take (i))).div)))), (intW ((((((lineZ m ((w).take (i))).mul) * R) + ((lineZ m ((w).take (i))).add)) % ((lineZ m ((w).take (i))).div))))]) Gd.none Xb_tC62 rfl (c_wDivide (((((lineZ m ((w).take (i))).mul) * R) + ((lineZ m ((w).take (i))).add))) (((lineZ m ((w).take (i))).div)) (by omega) (by omega) (by omega)) ?_
          refine o_move (AV.tup [(intW ((((((lineZ m ((w).take (i))).mul) * R) + ((lineZ m ((w).take (i))).add)) / ((lineZ m ((w).take (i))).div)))), (intW ((((((lineZ m ((w).take (i))).mul) * R) + ((lineZ m ((w).take (i))).add)) % ((lineZ m ((w).take (i))).div))))]) Gd.none rfl ?_
          refine o_extract (intW ((((((lineZ m ((w).take (i))).mul) * R) + ((lineZ m ((w).take (i))).add)) / ((lineZ m ((w).take (i))).div)))) Gd.none rfl rfl ?_
          refine o_extract (intW ((((((lineZ m ((w).take (i))).mul) * R) + ((lineZ m ((w).take (i))).add)) % ((lineZ m ((w).take (i))).div)))) Gd.none rfl rfl ?_
          refine o_alloc 102 [(AV.lit (.bool false)), (AV.lit (.slice none 0 0))] Gd.none Xb_tO79 rfl rfl rfl ?_
          refine o_alloc 103 [(AV.lit (.bool false)), (AV.lit (.slice none 0 0))] Gd.none Xb_tO79 rfl rfl rfl ?_
          refine o_store [(103, (AO.var 79 [(AV.lit (.bool false)), (AV.lit (.slice none 0 0))])), (102, (AO.var 79 [(bp ((((((lineZ m ((w).take (i))).mul) * R) + ((lineZ m ((w).take (i))).add)) / ((lineZ m ((w).take (i))).div)) < 0)), (AV.sl 1 (ns .u32 (digs ((((((lineZ m ((w).take (i))).mul) * R) + ((lineZ m ((w).take (i))).add)) / ((lineZ m ((w).take (i))).div))).natAbs)))])), (101, (AO.var 89 [(bp (((lineZ m ((w).take (i))).mul) < 0)), (AV.sl 1 (ns .u32 (digs ((lineZ m ((w).take (i))).mul).natAbs))), (bp (((lineZ m ((w).take (i))).add) < 0)), (AV.sl 1 (ns .u32 (digs ((lineZ m ((w).take (i))).add).natAbs))), (bp (((lineZ m ((w).take (i))).div) < 0)), (AV.sl 1 (ns .u32 (digs ((lineZ m ((w).take (i))).div).natAbs)))])), (2, (AO.var 24 [(AV.lit (.int .i64 (m.mod))), (AV.sl 1 (is .i64 (m.mul))), (AV.sl 1 (is .i64 (m.add)))])), (3, (AO.var 79 [(bp (R < 0)), (AV.sl 1 (ns .u32 (digs (R).natAbs)))])), (4, (AO.var 79 [(bp ((m.mod ^ i) < 0)), (AV.sl 1 (ns .u32 (digs ((m.mod ^ i)).natAbs)))]))] Gd.none Xb_tZ79 rfl rfl rfl rfl rfl rfl ?_
          refine o_store [(103, (AO.var 79 [(bp ((((((lineZ m ((w).take (i))).mul) * R) + ((lineZ m ((w).take (i))).add)) % ((lineZ m ((w).take (i))).div)) < 0)), (AV.sl 1 (ns .u32 (digs ((((((lineZ m ((w).take (i))).mul) * R) + ((lineZ m ((w).take (i))).add)) % ((lineZ m ((w).take (i))).div))).natAbs)))])), (102, (AO.var 79 [(bp ((((((lineZ m ((w).take (i))).mul) * R) + ((lineZ m ((w).take (i))).add)) / ((lineZ m ((w).take (i))).div)) < 0)), (AV.sl 1 (ns .u32 (digs ((((((lineZ m ((w).take (i))).mul) * R) + ((lineZ m ((w).take (i))).add)) / ((lineZ m ((w).take (i))).div))).natAbs)))])), (101, (AO.var 89 [(bp (((lineZ m ((w).take (i))).mul) < 0)), (AV.sl 1 (ns .u32 (digs ((lineZ m ((w).take (i))).mul).natAbs))), (bp (((lineZ m ((w).take (i))).add) < 0)), (AV.sl 1 (ns .u32 (digs ((lineZ m ((w).take (i))).add).natAbs))), (bp (((lineZ m ((w).take (i))).div) < 0)), (AV.sl 1 (ns .u32 (digs ((lineZ m ((w).take (i))).div).natAbs)))])), (2, (AO.var 24 [(AV.lit (.int .i64 (m.mod))), (AV.sl 1 (is .i64 (m.mul))), (AV.sl 1 (is .i64 (m.add)))])), (3, (AO.var 79 [(bp (R < 0)), (AV.sl 1 (ns .u32 (digs (R).natAbs)))])), (4, (AO.var 79 [(bp ((m.mod ^ i) < 0)), (AV.sl 1 (ns .u32 (digs ((m.mod ^ i)).natAbs)))]))] Gd.none Xb_tZ79 rfl rfl rfl rfl rfl rfl ?_
          refine aops_end ⟨by kernel_rfl, ?_⟩
          refine hK15 _ ?_
          refine awp_seq fun K16 hK16 => ?_
          refine awp_block ?_
          refine awp_loopR (fun κ σ => ∃ (t : Nat), ∃ (A : Int), ∃ (B : Int), (t ≤ T) ∧ (A = ((lineZ m (w.take i)).mul * R + (lineZ m (w.take i)).add) / (lineZ m (w.take i)).div + (t : Int) * (lineZ m (w.take i)).mul) ∧ (B = R + (t : Int) * m.mod ^ i) ∧ ((digs A.natAbs).length ≤ 10000 + t) ∧ ((digs B.natAbs).length ≤ 13 * i + 4 + t) ∧ (T - t) = κ ∧ σ = ⟨[(1, (AV.sl 1 (is .i64 (w)))), (2, (AV.ref 2 (0))), (7, (AV.ref 3 (0))), (8, (AV.ref 4 (0))), (10, (AV.lit (.int .i64 ((w).getD (i) 0)))), (11, (AV.ref 10 (0))), (12, (AV.ref 11 (0))), (32, (AV.sl 1 (is .i64 (w)))), (33, (nm .i64 ((w).length))), (34, (nm .i64 (i)))], [(2, (AO.var 24 [(AV.lit (.int .i64 (m.mod))), (AV.sl 1 (is .i64 (m.mul))), (AV.sl 1 (is .i64 (m.add)))])), (3, (AO.var 79 [(bp (B < 0)), (AV.sl 1 (ns .u32 (digs (B).natAbs)))])), (4, (AO.var 79 [(bp ((m.mod ^ i) < 0)), (AV.sl 1 (ns .u32 (digs ((m.mod ^ i)).natAbs)))])), (10, (AO.var 89 [(bp (((lineZ m ((w).take (i))).mul) < 0)), (AV.sl 1 (ns .u32 (digs ((lineZ m ((w).take (i))).mul).natAbs))), (bp (((lineZ m ((w).take (i))).add) < 0)), (AV.sl 1 (ns .u32 (digs ((lineZ m ((w).take (i))).add).natAbs))), (bp (((lineZ m ((w).take (i))).div) < 0)), (AV.sl 1 (ns .u32 (digs ((lineZ m ((w).take (i))).div).natAbs)))])), (11, (AO.var 79 [(bp (A < 0)), (AV.sl 1 (ns .u32 (digs (A).natAbs)))]))]⟩) ⟨_, _, ⟨0, ((((lineZ m ((w).take (i))).mul) * R + ((lineZ m ((w).take (i))).add)) / ((lineZ m ((w).take (i))).div)), R, (by omega), (by simp), (by simp), (by omega), (by omega), rfl, rfl⟩, ?wk1⟩ ?rd1
          case wk1 =>
            exact Wk.trans (Wk.sub (σ' := ⟨[(1, (AV.sl 1 (is .i64 (w)))), (2, (AV.ref 2 (0))), (7, (AV.ref 3 (0))), (8, (AV.ref 4 (0))), (10, (AV.lit (.int .i64 ((w).getD (i) 0)))), (11, (AV.ref 101 (0))), (12, (AV.ref 102 (0))), (32, (AV.sl 1 (is .i64 (w)))), (33, (nm .i64 ((w).length))), (34, (nm .i64 (i)))], [(2, (AO.var 24 [(AV.lit (.int .i64 (m.mod))), (AV.sl 1 (is .i64 (m.mul))), (AV.sl 1 (is .i64 (m.add)))])), (3, (AO.var 79 [(bp (R < 0)), (AV.sl 1 (ns .u32 (digs (R).natAbs)))])), (4, (AO.var 79 [(bp ((m.mod ^ i) < 0)), (AV.sl 1 (ns .u32 (digs ((m.mod ^ i)).natAbs)))])), (101, (AO.var 89 [(bp (((lineZ m ((w).take (i))).mul) < 0)), (AV.sl 1 (ns .u32 (digs ((lineZ m ((w).take (i))).mul).natAbs))), (bp (((lineZ m ((w).take (i))).add) < 0)), (AV.sl 1 (ns .u32 (digs ((lineZ m ((w).take (i))).add).natAbs))), (bp (((lineZ m ((w).take (i))).div) < 0)), (AV.sl 1 (ns .u32 (digs ((lineZ m ((w).take (i))).div).natAbs)))])), (102, (AO.var 79 [(bp ((((((lineZ m ((w).take (i))).mul) * R) + ((lineZ m ((w).take (i))).add)) / ((lineZ m ((w).take (i))).div)) < 0)), (AV.sl 1 (ns .u32 (digs ((((((lineZ m ((w).take (i))).mul) * R) + ((lineZ m ((w).take (i))).add)) / ((lineZ m ((w).take (i))).div))).natAbs)))]))]⟩) (And.intro rfl (And.intro rfl (And.intro rfl (And.intro rfl (And.intro rfl (And.intro rfl (And.intro rfl (And.intro rfl (And.intro rfl (And.intro rfl (trivial))))))))))) (And.intro rfl (And.intro rfl (And.intro rfl (And.intro rfl (And.intro rfl (trivial))))))) (Wk.trans (Wk.ren (id := 101) (id' := 10) rfl) (Wk.trans (Wk.ren (id := 102) (id' := 11) rfl) (Wk.sub (And.intro (by exact rfl) (And.intro (by exact rfl) (And.intro (by exact rfl) (And.intro (by exact rfl) (And.intro (by exact rfl) (And.intro (by first | rfl | (simp)) (And.intro (by first | rfl | (simp)) (And.intro (by exact rfl) (And.intro (by exact rfl) (And.intro (by exact rfl) (trivial))))))))))) (And.intro (by first | rfl | exact row_ns (by simp) | exact congrArg (fun x => some (AO.blk (.stringIter _ x))) (by omega) | (simp only [Int.pow_zero, Int.pow_succ]; rfl)) (And.intro (by first | rfl | exact row_ns (by simp) | exact congrArg (fun x => some (AO.blk (.stringIter _ x))) (by omega) | (simp only [Int.pow_zero, Int.pow_succ]; rfl)) (And.intro (by first | rfl | exact row_ns (by simp) | exact congrArg (fun x => some (AO.blk (.stringIter _ x))) (by omega) | (simp only [Int.pow_zero, Int.pow_succ]; rfl)) (And.intro (by first | rfl | exact row_ns (by simp) | exact congrArg (fun x => some (AO.blk (.stringIter _ x))) (by omega) | (simp only [Int.pow_zero, Int.pow_succ]; rfl)) (And.intro (by first | rfl | exact row_ns (by simp) | exact congrArg (fun x => some (AO.blk (.stringIter _ x))) (by omega) | (simp only [Int.pow_zero, Int.pow_succ]; rfl)) (trivial)))))))))
          rintro κ _ ⟨t, A, B, ht, hA, hB, hAl, hBl, rfl, rfl⟩
          refine awp_block ?_
          refine awp_seq fun K17 hK17 => ?_
          refine awp_seq fun K18 hK18 => ?_
          refine awp_region rfl ?_
          refine o_loadA [(bp (A < 0)), (AV.sl 1 (ns .u32 (digs (A).natAbs)))] Gd.none Xb_tA79 rfl rfl rfl rfl rfl ?_
          refine o_fieldRef 0 Gd.none Xb_tF24_0 rfl rfl ?_
          refine o_loadS (AV.lit (.int .i64 (m.mod))) Gd.none Xb_tS3 rfl rfl rfl ?_
          refine n_as (v' := (nm .i64 (m.mod.toNat))) (nm_int (by omega)) ?_
          refine o_call [(AV.agg [(bp (A < 0)), (AV.sl 1 (ns .u32 (digs (A).natAbs)))]), (nm .i64 (m.mod.toNat))] (AV.tup [(intW ((A / ((m.mod.toNat : Nat) : Int)))), (AV.lit (.int .i64 (A % ((m.mod.toNat : Nat) : Int))))]) Gd.none Xb_tC63 rfl (c_wQR (A) (m.mod.toNat) (by omega) (by omega) (by first | assumption | omega | (simp only [Int.natAbs_neg]; omega))) ?_
          refine o_move (AV.tup [(intW ((A / ((m.mod.toNat : Nat) : Int)))), (AV.lit (.int .i64 (A % ((m.mod.toNat : Nat) : Int))))]) Gd.none rfl ?_
          refine o_extract (intW ((A / ((m.mod.toNat : Nat) : Int)))) Gd.none rfl rfl ?_
          refine o_extract (AV.lit (.int .i64 (A % ((m.mod.toNat : Nat) : Int)))) Gd.none rfl rfl ?_
          refine o_alloc 201 [(AV.lit (.bool false)), (AV.lit (.slice none 0 0))] Gd.none Xb_tO79 rfl rfl rfl ?_
          refine o_store [(201, (AO.var 79 [(bp ((A / ((m.mod.toNat : Nat) : Int)) < 0)), (AV.sl 1 (ns .u32 (digs ((A / ((m.mod.toNat : Nat) : Int))).natAbs)))])), (2, (AO.var 24 [(AV.lit (.int .i64 (m.mod))), (AV.sl 1 (is .i64 (m.mul))), (AV.sl 1 (is .i64 (m.add)))])), (3, (AO.var 79 [(bp (B < 0)), (AV.sl 1 (ns .u32 (digs (B).natAbs)))])), (4, (AO.var 79 [(bp ((m.mod ^ i) < 0)), (AV.sl 1 (ns .u32 (digs ((m.mod ^ i)).natAbs)))])), (10, (AO.var 89 [(bp (((lineZ m ((w).take (i))).mul) < 0)), (AV.sl 1 (ns .u32 (digs ((lineZ m ((w).take (i))).mul).natAbs))), (bp (((lineZ m ((w).take (i))).add) < 0)), (AV.sl 1 (ns .u32 (digs ((lineZ m ((w).take (i))).add).natAbs))), (bp (((lineZ m ((w).take (i))).div) < 0)), (AV.sl 1 (ns .u32 (digs ((lineZ m ((w).take (i))).div).natAbs)))])), (11, (AO.var 79 [(bp (A < 0)), (AV.sl 1 (ns .u32 (digs (A).natAbs)))]))] Gd.none Xb_tZ79 rfl rfl rfl rfl rfl rfl ?_
          refine o_assign (AV.lit (.int .i64 (A % ((m.mod.toNat : Nat) : Int)))) Gd.none rfl ?_
          refine aops_end ?_
          refine hK18 _ ?_
          refine awp_seq fun K19 hK19 => ?_
          refine awp_region rfl ?_
          refine o_move (AV.lit (.int .i64 (A % ((m.mod.toNat : Nat) : Int)))) Gd.none rfl ?_
          refine o_move (AV.lit (.int .i64 ((w).getD (i) 0))) Gd.none rfl ?_
          refine o_eql (a := (A % ((m.mod.toNat : Nat) : Int))) (c := ((w).getD (i) 0)) Gd.none rfl rfl ?_
          refine aops_end ?_
          refine hK19 _ ?_
          refine awp_condQ (q := (A % ((m.mod.toNat : Nat) : Int)) = ((w).getD (i) 0)) rfl (fun h5 => ?_) (fun h5 => ?_)
          · have h5' := h5
            rw [hmd, hA] at h5'
            have htT : t = T := by rcases Nat.lt_or_ge t T with e | e; exact absurd h5' (t3 t e); omega
            have hq4 : R + (t : Int) * m.mod ^ i = (restZ m (w.take (i + 1))).1 := by rw [htT]; exact t4
            refine awp_exit ?_
            refine hK16 _ ?_
            refine awp_regionD rfl ?_
            refine o_loadA [(bp ((m.mod ^ i) < 0)), (AV.sl 1 (ns .u32 (digs ((m.mod ^ i)).natAbs)))] Gd.none Xb_tA79 rfl rfl rfl rfl rfl ?_
            refine o_fieldRef 0 Gd.none Xb_tF24_0 rfl rfl ?_
            refine o_loadS (AV.lit (.int .i64 (m.mod))) Gd.none Xb_tS3 rfl rfl rfl ?_
            refine o_call [(AV.lit (.int .i64 (m.mod)))] (intW ((m.mod))) Gd.none Xb_tC59 rfl (c_wOf (m.mod) (by first | decide | omega) (by first | decide | omega)) ?_
            refine o_call [(AV.agg [(bp ((m.mod ^ i) < 0)), (AV.sl 1 (ns .u32 (digs ((m.mod ^ i)).natAbs)))]), (intW ((m.mod)))] (intW (((m.mod ^ i) * (m.mod)))) Gd.none Xb_tC60 rfl (c_wMul ((m.mod ^ i)) ((m.mod)) (by first | assumption | omega | (simp only [Int.natAbs_neg]; omega)) (by first | assumption | omega | (simp only [Int.natAbs_neg]; omega))) ?_
            refine o_store [(201, (AO.var 79 [(bp ((A / ((m.mod.toNat : Nat) : Int)) < 0)), (AV.sl 1 (ns .u32 (digs ((A / ((m.mod.toNat : Nat) : Int))).natAbs)))])), (2, (AO.var 24 [(AV.lit (.int .i64 (m.mod))), (AV.sl 1 (is .i64 (m.mul))), (AV.sl 1 (is .i64 (m.add)))])), (3, (AO.var 79 [(bp (B < 0)), (AV.sl 1 (ns .u32 (digs (B).natAbs)))])), (4, (AO.var 79 [(bp (((m.mod ^ i) * (m.mod)) < 0)), (AV.sl 1 (ns .u32 (digs (((m.mod ^ i) * (m.mod))).natAbs)))])), (10, (AO.var 89 [(bp (((lineZ m ((w).take (i))).mul) < 0)), (AV.sl 1 (ns .u32 (digs ((lineZ m ((w).take (i))).mul).natAbs))), (bp (((lineZ m ((w).take (i))).add) < 0)), (AV.sl 1 (ns .u32 (digs ((lineZ m ((w).take (i))).add).natAbs))), (bp (((lineZ m ((w).take (i))).div) < 0)), (AV.sl 1 (ns .u32 (digs ((lineZ m ((w).take (i))).div).natAbs)))])), (11, (AO.var 79 [(bp (A < 0)), (AV.sl 1 (ns .u32 (digs (A).natAbs)))]))] Gd.none Xb_tZ79 rfl rfl rfl rfl rfl rfl ?_
            refine aops_end ⟨by kernel_rfl, ?_⟩
            refine hK12 _ ?_
            refine awp_region rfl ?_
            refine n_add (i) (1) Gd.none rfl rfl (by simp only [topOf]; omega) ?_
            refine o_move (nm .i64 ((i) + (1))) Gd.none rfl ?_
            refine aops_end ?_
            refine ⟨_, _, ?lt, ⟨i + 1, B, (by omega), (hB.trans hq4), (by omega), rfl, rfl⟩, ?wk⟩
            case lt => omega
            case wk => exact Wk.sub (And.intro (by exact rfl) (And.intro (by exact rfl) (And.intro (by exact rfl) (And.intro (by exact rfl) (And.intro (by exact rfl) (And.intro (by exact rfl) (And.intro (by first | rfl | exact congrArg (nm _) (by omega) | exact nm_int (by omega) | exact nm_int (by simp [IntKind.wrap, IntKind.bits, IntKind.signed]; omega)) (trivial)))))))) (And.intro (by first | rfl | exact row_ns (by simp) | exact congrArg (fun x => some (AO.blk (.stringIter _ x))) (by omega) | (simp only [Int.pow_zero, Int.pow_succ]; rfl)) (And.intro (by first | rfl | exact row_ns (by simp) | exact congrArg (fun x => some (AO.blk (.stringIter _ x))) (by omega) | (simp only [Int.pow_zero, Int.pow_succ]; rfl)) (And.intro (by first | rfl | exact row_ns (by simp) | exact congrArg (fun x => some (AO.blk (.stringIter _ x))) (by omega) | (simp only [Int.pow_zero, Int.pow_succ]; rfl)) (trivial))))
          · have htT : t < T := by rcases Nat.lt_or_ge t T with e | e; exact e; exact absurd (by rw [hmd, hA, show t = T by omega]; exact t2) h5
            have hz1 := len_addZ A (lineZ m (w.take i)).mul
            have hz2 := len_addZ B (m.mod ^ i)
            refine awp_skip ?_
            refine hK17 _ ?_
            refine awp_regionD rfl ?_
            refine o_loadA [(bp (B < 0)), (AV.sl 1 (ns .u32 (digs (B).natAbs)))] Gd.none Xb_tA79 rfl rfl rfl rfl rfl ?_
            refine o_loadA [(bp ((m.mod ^ i) < 0)), (AV.sl 1 (ns .u32 (digs ((m.mod ^ i)).natAbs)))] Gd.none Xb_tA79 rfl rfl rfl rfl rfl ?_
            refine o_call [(AV.agg [(bp (B < 0)), (AV.sl 1 (ns .u32 (digs (B).natAbs)))]), (AV.agg [(bp ((m.mod ^ i) < 0)), (AV.sl 1 (ns .u32 (digs ((m.mod ^ i)).natAbs)))])] (intW ((B + (m.mod ^ i)))) Gd.none Xb_tC61 rfl (c_wAdd (B) ((m.mod ^ i)) (by first | assumption | omega | (simp only [Int.natAbs_neg]; omega)) (by first | assumption | omega | (simp only [Int.natAbs_neg]; omega))) ?_
            refine o_loadA [(bp (A < 0)), (AV.sl 1 (ns .u32 (digs (A).natAbs)))] Gd.none Xb_tA79 rfl rfl rfl rfl rfl ?_
            refine o_fieldRef 0 Gd.none Xb_tF89_0 rfl rfl ?_
            refine o_loadA [(bp (((lineZ m ((w).take (i))).mul) < 0)), (AV.sl 1 (ns .u32 (digs ((lineZ m ((w).take (i))).mul).natAbs)))] Gd.none Xb_tA79 rfl rfl rfl rfl rfl ?_
            refine o_call [(AV.agg [(bp (A < 0)), (AV.sl 1 (ns .u32 (digs (A).natAbs)))]), (AV.agg [(bp (((lineZ m ((w).take (i))).mul) < 0)), (AV.sl 1 (ns .u32 (digs ((lineZ m ((w).take (i))).mul).natAbs)))])] (intW ((A + ((lineZ m ((w).take (i))).mul)))) Gd.none Xb_tC61 rfl (c_wAdd (A) (((lineZ m ((w).take (i))).mul)) (by first | assumption | omega | (simp only [Int.natAbs_neg]; omega)) (by first | assumption | omega | (simp only [Int.natAbs_neg]; omega))) ?_
            refine o_store [(201, (AO.var 79 [(bp ((A / ((m.mod.toNat : Nat) : Int)) < 0)), (AV.sl 1 (ns .u32 (digs ((A / ((m.mod.toNat : Nat) : Int))).natAbs)))])), (2, (AO.var 24 [(AV.lit (.int .i64 (m.mod))), (AV.sl 1 (is .i64 (m.mul))), (AV.sl 1 (is .i64 (m.add)))])), (3, (AO.var 79 [(bp ((B + (m.mod ^ i)) < 0)), (AV.sl 1 (ns .u32 (digs ((B + (m.mod ^ i))).natAbs)))])), (4, (AO.var 79 [(bp ((m.mod ^ i) < 0)), (AV.sl 1 (ns .u32 (digs ((m.mod ^ i)).natAbs)))])), (10, (AO.var 89 [(bp (((lineZ m ((w).take (i))).mul) < 0)), (AV.sl 1 (ns .u32 (digs ((lineZ m ((w).take (i))).mul).natAbs))), (bp (((lineZ m ((w).take (i))).add) < 0)), (AV.sl 1 (ns .u32 (digs ((lineZ m ((w).take (i))).add).natAbs))), (bp (((lineZ m ((w).take (i))).div) < 0)), (AV.sl 1 (ns .u32 (digs ((lineZ m ((w).take (i))).div).natAbs)))])), (11, (AO.var 79 [(bp (A < 0)), (AV.sl 1 (ns .u32 (digs (A).natAbs)))]))] Gd.none Xb_tZ79 rfl rfl rfl rfl rfl rfl ?_
            refine o_store [(201, (AO.var 79 [(bp ((A / ((m.mod.toNat : Nat) : Int)) < 0)), (AV.sl 1 (ns .u32 (digs ((A / ((m.mod.toNat : Nat) : Int))).natAbs)))])), (2, (AO.var 24 [(AV.lit (.int .i64 (m.mod))), (AV.sl 1 (is .i64 (m.mul))), (AV.sl 1 (is .i64 (m.add)))])), (3, (AO.var 79 [(bp ((B + (m.mod ^ i)) < 0)), (AV.sl 1 (ns .u32 (digs ((B + (m.mod ^ i))).natAbs)))])), (4, (AO.var 79 [(bp ((m.mod ^ i) < 0)), (AV.sl 1 (ns .u32 (digs ((m.mod ^ i)).natAbs)))])), (10, (AO.var 89 [(bp (((lineZ m ((w).take (i))).mul) < 0)), (AV.sl 1 (ns .u32 (digs ((lineZ m ((w).take (i))).mul).natAbs))), (bp (((lineZ m ((w).take (i))).add) < 0)), (AV.sl 1 (ns .u32 (digs ((lineZ m ((w).take (i))).add).natAbs))), (bp (((lineZ m ((w).take (i))).div) < 0)), (AV.sl 1 (ns .u32 (digs ((lineZ m ((w).take (i))).div).natAbs)))])), (11, (AO.var 79 [(bp ((A + ((lineZ m ((w).take (i))).mul)) < 0)), (AV.sl 1 (ns .u32 (digs ((A + ((lineZ m ((w).take (i))).mul))).natAbs)))]))] Gd.none Xb_tZ79 rfl rfl rfl rfl rfl rfl ?_
            refine aops_end ⟨by kernel_rfl, ?_⟩
            refine ⟨_, _, ?lt, ⟨t + 1, (A + (lineZ m ((w).take (i))).mul), (B + (m.mod ^ i)), (by omega), (by rw [hA, Int.natCast_add, Int.add_mul, Int.natCast_one, Int.one_mul]; omega), (by rw [hB, Int.natCast_add, Int.add_mul, Int.natCast_one, Int.one_mul]; omega), (by omega), (by omega), rfl, rfl⟩, ?wk⟩
            case lt => omega
            case wk => exact Wk.sub (And.intro (by exact rfl) (And.intro (by exact rfl) (And.intro (by exact rfl) (And.intro (by exact rfl) (And.intro (by exact rfl) (And.intro (by exact rfl) (And.intro (by exact rfl) (And.intro (by exact rfl) (And.intro (by exact rfl) (And.intro (by exact rfl) (trivial))))))))))) (And.intro (by first | rfl | exact row_ns (by simp) | exact congrArg (fun x => some (AO.blk (.stringIter _ x))) (by omega) | (simp only [Int.pow_zero, Int.pow_succ]; rfl)) (And.intro (by first | rfl | exact row_ns (by simp) | exact congrArg (fun x => some (AO.blk (.stringIter _ x))) (by omega) | (simp only [Int.pow_zero, Int.pow_succ]; rfl)) (And.intro (by first | rfl | exact row_ns (by simp) | exact congrArg (fun x => some (AO.blk (.stringIter _ x))) (by omega) | (simp only [Int.pow_zero, Int.pow_succ]; rfl)) (And.intro (by first | rfl | exact row_ns (by simp) | exact congrArg (fun x => some (AO.blk (.stringIter _ x))) (by omega) | (simp only [Int.pow_zero, Int.pow_succ]; rfl)) (And.intro (by first | rfl | exact row_ns (by simp) | exact congrArg (fun x => some (AO.blk (.stringIter _ x))) (by omega) | (simp only [Int.pow_zero, Int.pow_succ]; rfl)) (trivial))))))
        · refine awp_exit ?_
          refine hK8 _ ?_
          refine awp_seq fun K20 hK20 => ?_
          refine awp_regionD rfl ?_
          refine o_loadA [(bp (R < 0)), (AV.sl 1 (ns .u32 (digs (R).natAbs)))] Gd.none Xb_tA79 rfl rfl rfl rfl rfl ?_
          refine o_call [(AV.agg [(bp (R < 0)), (AV.sl 1 (ns .u32 (digs (R).natAbs)))])] (AV.lit (.string (txt (R)))) Gd.none Xb_tC64 rfl (c_wText (R) (by first | assumption | omega | (simp only [Int.natAbs_neg]; omega))) ?_
          refine o_loadA [(bp ((m.mod ^ i) < 0)), (AV.sl 1 (ns .u32 (digs ((m.mod ^ i)).natAbs)))] Gd.none Xb_tA79 rfl rfl rfl rfl rfl ?_
          refine o_call [(AV.agg [(bp ((m.mod ^ i) < 0)), (AV.sl 1 (ns .u32 (digs ((m.mod ^ i)).natAbs)))])] (AV.lit (.string (txt ((m.mod ^ i))))) Gd.none Xb_tC64 rfl (c_wText ((m.mod ^ i)) (by first | assumption | omega | (simp only [Int.natAbs_neg]; omega))) ?_
          refine o_assign (AV.lit (.string (txt (R)))) Gd.none rfl ?_
          refine o_assign (AV.lit (.string (txt ((m.mod ^ i))))) Gd.none rfl ?_
          refine o_assign (nm .i64 (0)) Gd.none rfl ?_
          refine aops_end ⟨by kernel_rfl, ?_⟩
          refine hK20 _ ?_
          refine awp_ret ?_
          refine post_ret ⟨[(AV.lit (.string (txt (R)))), (AV.lit (.string (txt ((m.mod ^ i))))), (nm .i64 (0))], And.intro (AV.le_refl _) (And.intro (AV.le_refl _) (And.intro (AV.le_refl _) (trivial))), rfl, ?_⟩
          have e := rest_0 (m := m) (w := w) hm' ⟨hW, hF⟩; rw [show w.take i = w from List.take_of_length_le (by omega)] at hR; rw [← hR, show w.length = i by omega] at e
          exact tup_eq3 (str_as e.2.1) (str_as e.2.2) (congrArg (nm _) e.1)

end Go.Proofs.YtbilndahjkimkaaDoor

set_option linter.unusedVariables false
set_option linter.unusedSimpArgs false
namespace Go.Ab
theorem Wk.cells {C : Ctx} {n : Nat} {σ : St} {i ty : Nat} {cs cs' : List AV} (hs : lookO σ.objs i = some (.var ty cs)) (hl : LeL cs cs') : Wk C n σ ⟨σ.slots, (i, .var ty cs') :: σ.objs⟩ := fun w0 H L a w hr => by
  have conv : ∀ j o, lookO ((i, .var ty cs') :: σ.objs) j = some o → (j = i ∧ o = .var ty cs') ∨ (j ≠ i ∧ σ.sem.μ j = some o) := fun j o ho => by
    simp only [lookO] at ho
    by_cases h2 : j = i
    · subst h2
      simp at ho
      exact .inl ⟨rfl, ho.symm⟩
    · rw [beq_ne (fun e => h2 e.symm)] at ho
      exact .inr ⟨h2, ho⟩
  have hi0 := hr.objs i (.var ty cs) hs
  refine ⟨H, L, Ext.refl _ _, ⟨hr.glob, hr.heap, hr.size, hr.slot, fun j o ho => ?_, fun j k o o' g x x' hjk hj hk => ?_, hr.below, hr.defers⟩⟩
  · rcases conv j o ho with ⟨rfl, rfl⟩ | ⟨h1, h2⟩
    · obtain ⟨g, vs, a1, a2, a3, a4, a5, a6⟩ := hi0
      exact ⟨g, vs, a1, a2, hl.rep a3, a4, a5, a6⟩
    · exact hr.objs j o h2
  · have conv' : ∀ j o, lookO ((i, .var ty cs') :: σ.objs) j = some o → ∃ o', σ.sem.μ j = some o' := fun j o ho => by
      rcases conv j o ho with ⟨rfl, rfl⟩ | ⟨h1, h2⟩
      · exact ⟨_, hs⟩
      · exact ⟨_, h2⟩
    obtain ⟨o1, h1⟩ := conv' j o hj
    obtain ⟨o2, h2⟩ := conv' k o' hk
    exact hr.apart j k o1 o2 g x x' hjk h1 h2
end Go.Ab
namespace Go.Mth
open Go.Ab
def gC (a b : Nat) : Prop := ((digs a).getD ((digs a).length - 1) 0) ≤ ((digs b).getD ((digs b).length - 1) 0) ∧ 0 < (digs a).length - (digs b).length
instance (a b : Nat) : Decidable (gC a b) := inferInstanceAs (Decidable ((digs a).getD ((digs a).length - 1) 0 ≤ ((digs b).getD ((digs b).length - 1) 0) ∧ 0 < (digs a).length - (digs b).length))
def gSh (a b : Nat) : Nat := if gC a b then (digs a).length - (digs b).length - 1 else (digs a).length - (digs b).length
def gTop (a b : Nat) : Nat := if gC a b then ((digs a).getD ((digs a).length - 1) 0) * 1000000000 + (digs a).getD ((digs a).length - 2) 0 else ((digs a).getD ((digs a).length - 1) 0)
def gQ (a b : Nat) : Nat := max (gTop a b / ((digs b).getD ((digs b).length - 1) 0 + 1)) 1
def guessN (a b : Nat) : Nat := 1000000000 ^ gSh a b * gQ a b
end Go.Mth

set_option linter.unusedVariables false
set_option linter.unusedSimpArgs false
namespace Go.Proofs.YtbilndahjkimkaaDoor
open Go Go.Ab Go.Mth
end Go.Proofs.YtbilndahjkimkaaDoor

set_option linter.unusedVariables false
set_option linter.unusedSimpArgs false
namespace Go.Proofs.YtbilndahjkimkaaDoor
open Go Go.Ab Go.Mth
theorem Xc_tU22 : cx.P.underlying 22 = some (.slice 3) := by kernel_rfl
theorem Xc_tE22 : tyElem cx.P 22 = some (3, 1, 8) := by kernel_rfl
theorem Xc_tS3 : tySc cx.P 3 = true := by kernel_rfl
theorem Xc_tF24_0 : tyField cx.P 24 0 = some (0, 3) := by kernel_rfl
theorem c_vIs (m : MapM) (w : List Int) (hwl : w.length ≤ 17592186044416) : ECalls cx 22 [(mapV m), (AV.sl 1 (is .i64 (w)))] (bp (OkW m w)) := by
  refine ecalls_of_awp Tryd.func22 (c := _) rfl (Nat.le_of_ble_eq_true rfl) ?_
  show awp cx 29 _ (postF cx Tryd.f22 _) ⟨[(0, (mapV m)), (1, (AV.sl 1 (is .i64 (w))))], []⟩
  refine awp_seq fun K0 hK0 => ?_
  refine awp_region rfl ?_
  refine o_box 2 [(AV.lit (.int .i64 (m.mod))), (AV.sl 1 (is .i64 (m.mul))), (AV.sl 1 (is .i64 (m.add)))] Gd.none rfl rfl ?_
  refine o_assign (AV.lit (.bool false)) Gd.none rfl ?_
  refine aops_end ?_
  refine hK0 _ ?_
  refine awp_seq fun K1 hK1 => ?_
  refine awp_seq fun K2 hK2 => ?_
  refine awp_region rfl ?_
  refine o_assign (nm .i64 (0)) Gd.none rfl ?_
  refine aops_end ?_
  refine hK2 _ ?_
  refine awp_block ?_
  refine awp_loopR (fun κ σ => ∃ (i : Nat), (i ≤ w.length) ∧ (∀ k, k < i → 0 ≤ w.getD k 0 ∧ w.getD k 0 < m.mod) ∧ (w.length - i) = κ ∧ σ = ⟨[(1, (AV.sl 1 (is .i64 (w)))), (2, (AV.ref 2 (0))), (5, (nm .i64 (i)))], [(2, (AO.var 24 [(AV.lit (.int .i64 (m.mod))), (AV.sl 1 (is .i64 (m.mul))), (AV.sl 1 (is .i64 (m.add)))]))]⟩) ⟨_, _, ⟨0, (by omega), (fun k hk => by omega), rfl, rfl⟩, ?wk0⟩ ?rd0
  case wk0 =>
    exact Wk.sub (And.intro (by exact rfl) (And.intro (by exact rfl) (And.intro (by first | rfl | exact congrArg (nm _) (by omega) | exact nm_int (by omega) | exact nm_int (by simp [IntKind.wrap, IntKind.bits, IntKind.signed]; omega)) (trivial)))) (And.intro (by first | rfl | exact row_ns (by simp) | exact congrArg (fun x => some (AO.blk (.stringIter _ x))) (by omega)) (trivial))
  rintro κ _ ⟨i, hi, hf, rfl, rfl⟩
  refine awp_seq fun K3 hK3 => ?_
  refine awp_seq fun K4 hK4 => ?_
  refine awp_region rfl ?_
  refine o_move (nm .i64 (i)) Gd.none rfl ?_
  refine o_move (AV.sl 1 (is .i64 (w))) Gd.none rfl ?_
  refine i_len (w) Gd.none Xc_tU22 rfl ?_
  refine n_lss (i) ((w).length) Gd.none rfl rfl ?_
  refine aops_end ?_
  refine hK4 _ ?_
  refine awp_condQ (q := (i) < ((w).length)) rfl (fun h1 => ?_) (fun h1 => ?_)
  · refine awp_skip ?_
    refine hK3 _ ?_
    refine awp_seq fun K5 hK5 => ?_
    refine awp_block ?_
    refine awp_seq fun K6 hK6 => ?_
    refine awp_regionD rfl ?_
    refine o_move (AV.sl 1 (is .i64 (w))) Gd.none rfl ?_
    refine o_move (nm .i64 (i)) Gd.none rfl ?_
    refine i_index (w) (i) Gd.none Xc_tE22 rfl rfl (by omega) ?_
    refine i_loadI (w) (i) Gd.none Xc_tS3 rfl (by omega) ?_
    refine o_lss (a := ((w).getD (i) 0)) (c := (((0 : Nat) : Int))) Gd.none rfl rfl ?_
    refine o_move (bp (((w).getD (i) 0) < (((0 : Nat) : Int)))) Gd.none rfl ?_
    refine o_splitP (q := ((w).getD (i) 0) < (((0 : Nat) : Int))) 17 rfl (fun h2 => ?_) (fun h2 => ?_)
    · refine o_skip (b := decide (((w).getD (i) 0) < (((0 : Nat) : Int)))) rfl rfl (decide_eq_true h2) ?_
      refine o_skip (b := decide (((w).getD (i) 0) < (((0 : Nat) : Int)))) rfl rfl (decide_eq_true h2) ?_
      refine o_skip (b := decide (((w).getD (i) 0) < (((0 : Nat) : Int)))) rfl rfl (decide_eq_true h2) ?_
      refine o_skip (b := decide (((w).getD (i) 0) < (((0 : Nat) : Int)))) rfl rfl (decide_eq_true h2) ?_
      refine o_skip (b := decide (((w).getD (i) 0) < (((0 : Nat) : Int)))) rfl rfl (decide_eq_true h2) ?_
      refine o_skip (b := decide (((w).getD (i) 0) < (((0 : Nat) : Int)))) rfl rfl (decide_eq_true h2) ?_
      refine o_skip (b := decide (((w).getD (i) 0) < (((0 : Nat) : Int)))) rfl rfl (decide_eq_true h2) ?_
      refine o_pickT (b := decide (((w).getD (i) 0) < (((0 : Nat) : Int)))) (AV.lit (.bool true)) Gd.none rfl (decide_eq_true h2) rfl ?_
      refine aops_end ⟨by kernel_rfl, ?_⟩
      refine hK6 _ ?_
      refine awp_condB (b := true) rfl (fun _ => ?_) (fun hh => absurd (hh.symm.trans rfl) (by decide))
      refine awp_seq fun K7 hK7 => ?_
      refine awp_region rfl ?_
      refine o_assign (AV.lit (.bool false)) Gd.none rfl ?_
      refine aops_end ?_
      refine hK7 _ ?_
      refine awp_ret ?_
      refine post_ret ⟨[(AV.lit (.bool false))], And.intro (AV.le_refl _) (trivial), rfl, ?_⟩
      exact (bl_bp (b := false) ⟨fun h => (by cases h), fun h => absurd h (fun hh => absurd (isW_get hh.1 h1).1 (by omega))⟩).symm
    · refine o_move (AV.sl 1 (is .i64 (w))) (Gd.yes rfl rfl (decide_eq_false h2)) rfl ?_
      refine o_move (nm .i64 (i)) (Gd.yes rfl rfl (decide_eq_false h2)) rfl ?_
      refine i_index (w) (i) (Gd.yes rfl rfl (decide_eq_false h2)) Xc_tE22 rfl rfl (by omega) ?_
      refine i_loadI (w) (i) (Gd.yes rfl rfl (decide_eq_false h2)) Xc_tS3 rfl (by omega) ?_
      refine o_fieldRef 0 (Gd.yes rfl rfl (decide_eq_false h2)) Xc_tF24_0 rfl rfl ?_
      refine o_loadS (AV.lit (.int .i64 (m.mod))) (Gd.yes rfl rfl (decide_eq_false h2)) Xc_tS3 rfl rfl rfl ?_
      refine o_geq (a := ((w).getD (i) 0)) (c := (m.mod)) (Gd.yes rfl rfl (decide_eq_false h2)) rfl rfl ?_
      refine o_pickF (b := decide (((w).getD (i) 0) < (((0 : Nat) : Int)))) (bp ((m.mod) ≤ ((w).getD (i) 0))) Gd.none rfl (decide_eq_false h2) rfl ?_
      refine aops_end ⟨by kernel_rfl, ?_⟩
      refine hK6 _ ?_
      refine awp_condQ (q := (m.mod) ≤ ((w).getD (i) 0)) rfl (fun h3 => ?_) (fun h3 => ?_)
      · refine awp_seq fun K8 hK8 => ?_
        refine awp_region rfl ?_
        refine o_assign (AV.lit (.bool false)) Gd.none rfl ?_
        refine aops_end ?_
        refine hK8 _ ?_
        refine awp_ret ?_
        refine post_ret ⟨[(AV.lit (.bool false))], And.intro (AV.le_refl _) (trivial), rfl, ?_⟩
        exact (bl_bp (b := false) ⟨fun h => (by cases h), fun h => absurd h (fun hh => absurd (isW_get hh.1 h1).2 (by omega))⟩).symm
      · refine awp_skip ?_
        refine hK5 _ ?_
        refine awp_region rfl ?_
        refine o_move (nm .i64 (i)) Gd.none rfl ?_
        refine n_add (i) (1) Gd.none rfl rfl (by simp only [topOf]; omega) ?_
        refine o_assign (nm .i64 ((i) + (1))) Gd.none rfl ?_
        refine aops_end ?_
        refine ⟨_, _, ?lt, ⟨i + 1, (by omega), (fun k hk => by rcases Nat.lt_or_ge k i with e | e; exact hf k e; rw [show k = i by omega]; omega), rfl, rfl⟩, ?wk⟩
        case lt => omega
        case wk => exact Wk.sub (And.intro (by exact rfl) (And.intro (by exact rfl) (And.intro (by first | rfl | exact congrArg (nm _) (by omega) | exact nm_int (by omega) | exact nm_int (by simp [IntKind.wrap, IntKind.bits, IntKind.signed]; omega)) (trivial)))) (And.intro (by first | rfl | exact row_ns (by simp) | exact congrArg (fun x => some (AO.blk (.stringIter _ x))) (by omega)) (trivial))
  · refine awp_exit ?_
    refine hK1 _ ?_
    refine awp_seq fun K9 hK9 => ?_
    refine awp_region rfl ?_
    refine o_move (AV.sl 1 (is .i64 (w))) Gd.none rfl ?_
    refine i_len (w) Gd.none Xc_tU22 rfl ?_
    refine n_leq ((w).length) (200) Gd.none rfl rfl ?_
    refine o_assign (bp (((w).length) ≤ (200))) Gd.none rfl ?_
    refine aops_end ?_
    refine hK9 _ ?_
    refine awp_ret ?_
    refine post_ret ⟨[(bp (((w).length) ≤ (200)))], And.intro (AV.le_refl _) (trivial), rfl, ?_⟩
    exact bp_congr ⟨fun h => h.2, fun h => ⟨isW_of fun k hk => hf k (by omega), h⟩⟩

end Go.Proofs.YtbilndahjkimkaaDoor

set_option linter.unusedVariables false
set_option linter.unusedSimpArgs false
namespace Go.Mth
open Go.Ab
theorem exW_free : freeM (kinM 3 1) := fun i hi => by
  have : i < 2 := hi
  have : i = 0 ∨ i = 1 := by omega
  rcases this with rfl | rfl <;> decide
theorem exW_ok : OkW (kinM 3 1) [1, 1, 0] := ⟨fun r hr => by
  simp only [List.mem_cons, List.not_mem_nil, or_false] at hr
  rcases hr with rfl | rfl | rfl <;> exact ⟨by decide, by decide⟩, by decide⟩
theorem txt1 (n : Nat) (h : n < 10) : txt (n : Int) = ⟨#[UInt8.ofNat (48 + n)]⟩ := by
  have : n = 0 ∨ n = 1 ∨ n = 2 ∨ n = 3 ∨ n = 4 ∨ n = 5 ∨ n = 6 ∨ n = 7 ∨ n = 8 ∨ n = 9 := by omega
  rcases this with rfl | rfl | rfl | rfl | rfl | rfl | rfl | rfl | rfl | rfl <;> (simp [txt, txtL, decs, strN]; try rfl)
theorem txt13 : txt 13 = ⟨#[49, 51]⟩ := by
  simp [txt, txtL, decs, strN]
  rfl
theorem exW_line : lineS (kinM 3 1) [1, 1, 0] = ⟨⟨#[57]⟩, ⟨#[53]⟩, ⟨#[56]⟩⟩ ∧ lineE (kinM 3 1) [1, 1, 0] = 0 := by
  have h := line_0 okM_ex exW_ok
  have e : lineZ (kinM 3 1) [1, 1, 0] = ⟨9, 5, 8⟩ := by rfl
  refine ⟨h.2.trans ?_, h.1⟩
  rw [e]
  unfold lineT
  rw [show (9 : Int) = ((9 : Nat) : Int) by rfl, show (5 : Int) = ((5 : Nat) : Int) by rfl, show (8 : Int) = ((8 : Nat) : Int) by rfl, txt1 9 (by decide), txt1 5 (by decide), txt1 8 (by decide)]
  rfl
theorem exW_rest : restS (kinM 3 1) [1, 1, 0] = ⟨#[51]⟩ ∧ restD (kinM 3 1) [1, 1, 0] = ⟨#[56]⟩ ∧ restE (kinM 3 1) [1, 1, 0] = 0 := by
  have h := rest_0 okM_ex ⟨exW_ok, exW_free⟩
  have e : (restZ (kinM 3 1) [1, 1, 0]).1 = ((3 : Nat) : Int) := by decide +kernel
  have e2 : (kinM 3 1).mod ^ ([1, 1, 0] : List Int).length = ((8 : Nat) : Int) := by decide +kernel
  refine ⟨h.2.1.trans ?_, h.2.2.trans ?_, h.1⟩
  · rw [e, txt1 3 (by decide)]; rfl
  · rw [e2, txt1 8 (by decide)]; rfl
theorem exW_word : wordL (kinM 3 1) ⟨#[55]⟩ 4 = [1, 1, 1, 0] ∧ wordE (kinM 3 1) ⟨#[55]⟩ 4 = 0 := by
  have hf : FitK (kinM 3 1) (numS ⟨#[55]⟩) (4 : Int).toNat := fun j hj => by
    have : j < 4 := hj
    have : j = 0 ∨ j = 1 ∨ j = 2 ∨ j = 3 := by omega
    rw [numS_ex]
    rcases this with rfl | rfl | rfl | rfl
    · exact fit_of_lt (by decide)
    · rw [show iterZ (kinM 3 1) 1 7 = 11 by decide]; exact fit_of_lt (by decide)
    · rw [show iterZ (kinM 3 1) 2 7 = 17 by decide]; exact fit_of_lt (by decide)
    · rw [show iterZ (kinM 3 1) 3 7 = 26 by decide]; exact fit_of_lt (by decide)
  have h := wordE_0 (K := 4) ⟨okM_ex, okS_ex⟩ (by decide) hf
  refine ⟨h.2.trans ?_, h.1⟩
  rw [numS_ex]
  decide
theorem okS_dig {a : ByteArray} (h1 : 0 < a.size) (h2 : a.size ≤ 2000) (h3 : 49 ≤ byt a 0) (h : ∀ i, i < a.size → 48 ≤ byt a i ∧ byt a i ≤ 57) : okS a = true := by
  have h0 := h 0 h1
  have hs : sgnAt a = 0 := by unfold sgnAt; rw [if_neg (by omega)]
  exact okS_yes ⟨by rw [hs]; exact h1, by rw [hs]; omega, fun e => by rw [hs] at e; omega, fun i _ h2 => h i h2⟩
theorem dig1 {a : ByteArray} (h : (a.size = 1 ∧ 49 ≤ byt a 0 ∧ byt a 0 ≤ 57)) : okS a = true := okS_dig (by omega) (by omega) h.2.1 fun i hi => by
  have : i = 0 := by omega
  subst this; omega
theorem dig2 {a : ByteArray} (h : (a.size = 2 ∧ 49 ≤ byt a 0 ∧ byt a 0 ≤ 57 ∧ 48 ≤ byt a 1 ∧ byt a 1 ≤ 57)) : okS a = true := okS_dig (by omega) (by omega) h.2.1 fun i hi => by
  have : i = 0 ∨ i = 1 := by omega
  rcases this with rfl | rfl <;> omega
def exL : LineS := ⟨⟨#[57]⟩, ⟨#[53]⟩, ⟨#[56]⟩⟩
theorem exL_ok : okL exL = true := by
  unfold okL
  rw [show okS exL.mul = true from dig1 ⟨by decide, by decide, by decide⟩, show okS exL.add = true from dig1 ⟨by decide, by decide, by decide⟩, show okS exL.div = true from dig1 ⟨by decide, by decide, by decide⟩]
  rfl
theorem exL_num : numS exL.mul = 9 ∧ numS exL.add = 5 ∧ numS exL.div = 8 := ⟨by decide, by decide, by decide⟩
theorem exW_app : appS exL ⟨#[49, 49]⟩ = ⟨#[49, 51]⟩ ∧ AppB exL ⟨#[49, 49]⟩ ∧ appE exL ⟨#[49, 49]⟩ = 0 := by
  have hk : okS ⟨#[49, 49]⟩ = true := dig2 ⟨by decide, by decide, by decide, by decide, by decide⟩
  have hn : numS ⟨#[49, 49]⟩ = 11 := by decide
  obtain ⟨n1, n2, n3⟩ := exL_num
  have hv : appV exL ⟨#[49, 49]⟩ = 104 := by unfold appV; rw [n1, n2, hn]; rfl
  have h := app_yes ⟨exL_ok, hk⟩ (by rw [n3]; decide) (by rw [hv]; exact fit_of_lt (by decide)) (by rw [hv, n3]; rfl)
  refine ⟨h.2.2.trans ?_, h.2.1, h.1⟩
  rw [hv, n3, show (104 : Int) / 8 = 13 by rfl, txt13]
theorem exW_app2 : appS exL ⟨#[49, 50]⟩ = ⟨#[]⟩ ∧ ¬ AppB exL ⟨#[49, 50]⟩ ∧ appE exL ⟨#[49, 50]⟩ = 0 := by
  have hk : okS ⟨#[49, 50]⟩ = true := dig2 ⟨by decide, by decide, by decide, by decide, by decide⟩
  have hn : numS ⟨#[49, 50]⟩ = 12 := by decide
  obtain ⟨n1, n2, n3⟩ := exL_num
  have hv : appV exL ⟨#[49, 50]⟩ = 113 := by unfold appV; rw [n1, n2, hn]; rfl
  have h := app_no ⟨exL_ok, hk⟩ (by rw [n3]; decide) (by rw [hv]; exact fit_of_lt (by decide)) (by rw [hv, n3]; decide)
  exact ⟨h.2.2, h.2.1, h.1⟩
end Go.Mth

set_option linter.unusedVariables false
set_option linter.unusedSimpArgs false
namespace Go.Proofs.YtbilndahjkimkaaDoor
open Go Go.Ab Go.Mth
theorem Xd_tC51 : callable cx.P 51 = true := by kernel_rfl
theorem Xd_tO24 : tyZero cx.P 24 = some [(Go.Value.int IntKind.i64 0), (Go.Value.slice none 0 0), (Go.Value.slice none 0 0)] := by kernel_rfl
theorem Xd_tZ24 : tySize cx.P 24 = some 3 := by kernel_rfl
theorem Xd_tA24 : tyAgg cx.P 24 = some 3 := by kernel_rfl
theorem Xd_tE22 : tyElem cx.P 22 = some (3, 1, 8) := by kernel_rfl
theorem Xd_tO3 : tyZero cx.P 3 = some [(Go.Value.int IntKind.i64 0)] := by kernel_rfl
theorem Xd_tC20 : callable cx.P 20 = true := by kernel_rfl
theorem Xd_tO41 : tyZero cx.P 41 = some [(Go.Value.string {data := #[]}), (Go.Value.string {data := #[]}), (Go.Value.string {data := #[]})] := by kernel_rfl
theorem Xd_tZ41 : tySize cx.P 41 = some 3 := by kernel_rfl
theorem Xd_tC21 : callable cx.P 21 = true := by kernel_rfl
theorem Xd_tC12 : callable cx.P 12 = true := by kernel_rfl
theorem Xd_tP41 : tyPlaces cx.P 41 = some (fun i => (#[(0, 1), (1, 1), (2, 1)] : Array (Nat × Nat))[i]?) := by kernel_rfl
theorem Xd_tC28 : callable cx.P 28 = true := by kernel_rfl
theorem Xd_tA41 : tyAgg cx.P 41 = some 3 := by kernel_rfl
theorem Xd_tC19 : callable cx.P 19 = true := by kernel_rfl
theorem c_l3Awake  : ECalls cx 16 [] (.lit (.bool true)) := by
  refine ecalls_of_awp Tryd.func16 (c := _) rfl (Nat.le_of_ble_eq_true rfl) ?_
  show awp cx 97 _ (postF cx Tryd.f16 _) ⟨[], []⟩
  refine awp_seq fun K0 hK0 => ?_
  refine awp_region rfl ?_
  refine o_assign (AV.lit (.bool false)) Gd.none rfl ?_
  refine aops_end ?_
  refine hK0 _ ?_
  refine awp_seq fun K1 hK1 => ?_
  refine awp_region rfl ?_
  refine o_call [] (mapV (kinM 3 1)) Gd.none Xd_tC51 rfl c_gCollatz ?_
  refine o_alloc 2 [(nm .i64 (0)), (AV.lit (.slice none 0 0)), (AV.lit (.slice none 0 0))] Gd.none Xd_tO24 rfl rfl rfl ?_
  refine o_store [(2, (AO.var 24 [(AV.lit (.int .i64 ((kinM 3 1).mod))), (AV.sl 1 (is .i64 ((kinM 3 1).mul))), (AV.sl 1 (is .i64 ((kinM 3 1).add)))]))] Gd.none Xd_tZ24 rfl rfl rfl rfl rfl rfl ?_
  refine aops_end ?_
  refine hK1 _ ?_
  refine awp_seq fun K2 hK2 => ?_
  refine awp_region rfl ?_
  refine o_loadA [(AV.lit (.int .i64 ((kinM 3 1).mod))), (AV.sl 1 (is .i64 ((kinM 3 1).mul))), (AV.sl 1 (is .i64 ((kinM 3 1).add)))] Gd.none Xd_tA24 rfl rfl rfl rfl rfl ?_
  refine o_buildSlice 3 (ns .i64 ([1, 1, 0])) [(0, [(nm .i64 (1))]), (1, [(nm .i64 (1))]), (2, [(nm .i64 (0))])] Gd.none Xd_tE22 rfl Xd_tO3 rfl rfl rfl rfl rfl rfl rfl ?_
  refine o_callG [(3, 1, (ns .i64 ([1, 1, 0])))] [(AV.agg [(AV.lit (.int .i64 ((kinM 3 1).mod))), (AV.sl 1 (is .i64 ((kinM 3 1).mul))), (AV.sl 1 (is .i64 ((kinM 3 1).add)))]), (AV.sl 1 (ns .i64 ([1, 1, 0])))] _ (AV.tup [(AV.agg [(AV.lit (.string (({data := #[57]} : ByteArray)))), (AV.lit (.string (({data := #[53]} : ByteArray)))), (AV.lit (.string (({data := #[56]} : ByteArray))))]), (nm .i64 (0))]) [(2, (AO.var 24 [(AV.lit (.int .i64 ((kinM 3 1).mod))), (AV.sl 1 (is .i64 ((kinM 3 1).mul))), (AV.sl 1 (is .i64 ((kinM 3 1).add)))]))] Gd.none Xd_tC20 rfl (And.intro ⟨_, rfl⟩ (trivial)) rfl rfl (LeL.cons (AV.le_refl _) (LeL.cons (AV.le_refl _) (LeL.nil))) (by have h := c_oLine (kinM 3 1) [1, 1, 0] (by decide); rw [exW_line.1, exW_line.2] at h; exact h) rfl ?_
  refine o_move (AV.tup [(AV.agg [(AV.lit (.string (({data := #[57]} : ByteArray)))), (AV.lit (.string (({data := #[53]} : ByteArray)))), (AV.lit (.string (({data := #[56]} : ByteArray))))]), (nm .i64 (0))]) Gd.none rfl ?_
  refine o_extract (AV.agg [(AV.lit (.string (({data := #[57]} : ByteArray)))), (AV.lit (.string (({data := #[53]} : ByteArray)))), (AV.lit (.string (({data := #[56]} : ByteArray))))]) Gd.none rfl rfl ?_
  refine o_extract (nm .i64 (0)) Gd.none rfl rfl ?_
  refine o_alloc 4 [(AV.lit (.string (({data := #[]} : ByteArray)))), (AV.lit (.string (({data := #[]} : ByteArray)))), (AV.lit (.string (({data := #[]} : ByteArray))))] Gd.none Xd_tO41 rfl rfl rfl ?_
  refine o_store [(4, (AO.var 41 [(AV.lit (.string (({data := #[57]} : ByteArray)))), (AV.lit (.string (({data := #[53]} : ByteArray)))), (AV.lit (.string (({data := #[56]} : ByteArray))))])), (2, (AO.var 24 [(AV.lit (.int .i64 ((kinM 3 1).mod))), (AV.sl 1 (is .i64 ((kinM 3 1).mul))), (AV.sl 1 (is .i64 ((kinM 3 1).add)))]))] Gd.none Xd_tZ41 rfl rfl rfl rfl rfl rfl ?_
  refine o_assign (nm .i64 (0)) Gd.none rfl ?_
  refine aops_end ?_
  refine hK2 _ ?_
  refine awp_seq fun K3 hK3 => ?_
  refine awp_region rfl ?_
  refine o_loadA [(AV.lit (.int .i64 ((kinM 3 1).mod))), (AV.sl 1 (is .i64 ((kinM 3 1).mul))), (AV.sl 1 (is .i64 ((kinM 3 1).add)))] Gd.none Xd_tA24 rfl rfl rfl rfl rfl ?_
  refine o_buildSlice 5 (ns .i64 ([1, 1, 0])) [(0, [(nm .i64 (1))]), (1, [(nm .i64 (1))]), (2, [(nm .i64 (0))])] Gd.none Xd_tE22 rfl Xd_tO3 rfl rfl rfl rfl rfl rfl rfl ?_
  refine o_callG [(5, 1, (ns .i64 ([1, 1, 0])))] [(AV.agg [(AV.lit (.int .i64 ((kinM 3 1).mod))), (AV.sl 1 (is .i64 ((kinM 3 1).mul))), (AV.sl 1 (is .i64 ((kinM 3 1).add)))]), (AV.sl 1 (ns .i64 ([1, 1, 0])))] _ (AV.tup [(AV.lit (.string (({data := #[51]} : ByteArray)))), (AV.lit (.string (({data := #[56]} : ByteArray)))), (nm .i64 (0))]) [(4, (AO.var 41 [(AV.lit (.string (({data := #[57]} : ByteArray)))), (AV.lit (.string (({data := #[53]} : ByteArray)))), (AV.lit (.string (({data := #[56]} : ByteArray))))])), (2, (AO.var 24 [(AV.lit (.int .i64 ((kinM 3 1).mod))), (AV.sl 1 (is .i64 ((kinM 3 1).mul))), (AV.sl 1 (is .i64 ((kinM 3 1).add)))]))] Gd.none Xd_tC21 rfl (And.intro ⟨_, rfl⟩ (trivial)) rfl rfl (LeL.cons (AV.le_refl _) (LeL.cons (AV.le_refl _) (LeL.nil))) (by have h := c_oRest (kinM 3 1) [1, 1, 0] (by decide); rw [exW_rest.1, exW_rest.2.1, exW_rest.2.2] at h; exact h) rfl ?_
  refine o_move (AV.tup [(AV.lit (.string (({data := #[51]} : ByteArray)))), (AV.lit (.string (({data := #[56]} : ByteArray)))), (nm .i64 (0))]) Gd.none rfl ?_
  refine o_extract (AV.lit (.string (({data := #[51]} : ByteArray)))) Gd.none rfl rfl ?_
  refine o_extract (AV.lit (.string (({data := #[56]} : ByteArray)))) Gd.none rfl rfl ?_
  refine o_extract (nm .i64 (0)) Gd.none rfl rfl ?_
  refine o_assign (AV.lit (.string (({data := #[51]} : ByteArray)))) Gd.none rfl ?_
  refine o_assign (AV.lit (.string (({data := #[56]} : ByteArray)))) Gd.none rfl ?_
  refine o_assign (nm .i64 (0)) Gd.none rfl ?_
  refine aops_end ?_
  refine hK3 _ ?_
  refine awp_seq fun K4 hK4 => ?_
  refine awp_region rfl ?_
  refine o_loadA [(AV.lit (.int .i64 ((kinM 3 1).mod))), (AV.sl 1 (is .i64 ((kinM 3 1).mul))), (AV.sl 1 (is .i64 ((kinM 3 1).add)))] Gd.none Xd_tA24 rfl rfl rfl rfl rfl ?_
  refine o_call [(AV.agg [(AV.lit (.int .i64 ((kinM 3 1).mod))), (AV.sl 1 (is .i64 ((kinM 3 1).mul))), (AV.sl 1 (is .i64 ((kinM 3 1).add)))]), (AV.lit (.string (({data := #[55]} : ByteArray)))), (nm .i64 (4))] (AV.tup [(AV.sl 1 (is .i64 ([1, 1, 1, 0]))), (nm .i64 (0))]) Gd.none Xd_tC12 rfl (by have h := c_oWord (kinM 3 1) ⟨#[55]⟩ 4 (by decide); rw [exW_word.1, exW_word.2] at h; exact h) ?_
  refine o_move (AV.tup [(AV.sl 1 (is .i64 ([1, 1, 1, 0]))), (nm .i64 (0))]) Gd.none rfl ?_
  refine o_extract (AV.sl 1 (is .i64 ([1, 1, 1, 0]))) Gd.none rfl rfl ?_
  refine o_extract (nm .i64 (0)) Gd.none rfl rfl ?_
  refine o_assign (AV.sl 1 (is .i64 ([1, 1, 1, 0]))) Gd.none rfl ?_
  refine o_assign (nm .i64 (0)) Gd.none rfl ?_
  refine aops_end ?_
  refine hK4 _ ?_
  refine awp_seq fun K5 hK5 => ?_
  refine awp_region rfl ?_
  refine o_build [(AV.lit (.string (({data := #[57]} : ByteArray)))), (AV.lit (.string (({data := #[53]} : ByteArray)))), (AV.lit (.string (({data := #[56]} : ByteArray))))] [(0, [(AV.lit (.string (({data := #[57]} : ByteArray))))]), (1, [(AV.lit (.string (({data := #[53]} : ByteArray))))]), (2, [(AV.lit (.string (({data := #[56]} : ByteArray))))])] Gd.none Xd_tP41 Xd_tO41 rfl rfl rfl ?_
  refine o_call [(AV.agg [(AV.lit (.string (({data := #[57]} : ByteArray)))), (AV.lit (.string (({data := #[53]} : ByteArray)))), (AV.lit (.string (({data := #[56]} : ByteArray))))]), (AV.lit (.string (({data := #[49, 49]} : ByteArray))))] (AV.tup [(AV.lit (.string (({data := #[49, 51]} : ByteArray)))), (AV.lit (.bool true)), (nm .i64 (0))]) Gd.none Xd_tC28 rfl (by have h := c_oApply exL ⟨#[49, 49]⟩ (by decide) (by decide) (by decide) (by decide); rw [exW_app.1, bp_yes exW_app.2.1, exW_app.2.2] at h; exact h) ?_
  refine o_move (AV.tup [(AV.lit (.string (({data := #[49, 51]} : ByteArray)))), (AV.lit (.bool true)), (nm .i64 (0))]) Gd.none rfl ?_
  refine o_extract (AV.lit (.string (({data := #[49, 51]} : ByteArray)))) Gd.none rfl rfl ?_
  refine o_extract (AV.lit (.bool true)) Gd.none rfl rfl ?_
  refine o_extract (nm .i64 (0)) Gd.none rfl rfl ?_
  refine o_assign (AV.lit (.string (({data := #[49, 51]} : ByteArray)))) Gd.none rfl ?_
  refine o_assign (AV.lit (.bool true)) Gd.none rfl ?_
  refine o_assign (nm .i64 (0)) Gd.none rfl ?_
  refine aops_end ?_
  refine hK5 _ ?_
  refine awp_seq fun K6 hK6 => ?_
  refine awp_region rfl ?_
  refine o_build [(AV.lit (.string (({data := #[57]} : ByteArray)))), (AV.lit (.string (({data := #[53]} : ByteArray)))), (AV.lit (.string (({data := #[56]} : ByteArray))))] [(0, [(AV.lit (.string (({data := #[57]} : ByteArray))))]), (1, [(AV.lit (.string (({data := #[53]} : ByteArray))))]), (2, [(AV.lit (.string (({data := #[56]} : ByteArray))))])] Gd.none Xd_tP41 Xd_tO41 rfl rfl rfl ?_
  refine o_call [(AV.agg [(AV.lit (.string (({data := #[57]} : ByteArray)))), (AV.lit (.string (({data := #[53]} : ByteArray)))), (AV.lit (.string (({data := #[56]} : ByteArray))))]), (AV.lit (.string (({data := #[49, 50]} : ByteArray))))] (AV.tup [(AV.lit (.string (({data := #[]} : ByteArray)))), (AV.lit (.bool false)), (nm .i64 (0))]) Gd.none Xd_tC28 rfl (by have h := c_oApply exL ⟨#[49, 50]⟩ (by decide) (by decide) (by decide) (by decide); rw [exW_app2.1, bp_no exW_app2.2.1, exW_app2.2.2] at h; exact h) ?_
  refine o_move (AV.tup [(AV.lit (.string (({data := #[]} : ByteArray)))), (AV.lit (.bool false)), (nm .i64 (0))]) Gd.none rfl ?_
  refine o_extract (AV.lit (.string (({data := #[]} : ByteArray)))) Gd.none rfl rfl ?_
  refine o_extract (AV.lit (.bool false)) Gd.none rfl rfl ?_
  refine o_extract (nm .i64 (0)) Gd.none rfl rfl ?_
  refine o_assign (AV.lit (.string (({data := #[]} : ByteArray)))) Gd.none rfl ?_
  refine o_assign (AV.lit (.bool false)) Gd.none rfl ?_
  refine o_assign (nm .i64 (0)) Gd.none rfl ?_
  refine aops_end ?_
  refine hK6 _ ?_
  refine awp_seq fun K7 hK7 => ?_
  refine awp_region rfl ?_
  refine o_move (nm .i64 (0)) Gd.none rfl ?_
  refine n_eql (0) (0) Gd.none rfl rfl ?_
  refine o_move (bp ((0) = (0))) Gd.none rfl ?_
  refine o_loadA [(AV.lit (.string (({data := #[57]} : ByteArray)))), (AV.lit (.string (({data := #[53]} : ByteArray)))), (AV.lit (.string (({data := #[56]} : ByteArray))))] (Gd.yes rfl rfl (decide_eq_true (by decide))) Xd_tA41 rfl rfl rfl rfl rfl ?_
  refine o_build [(AV.lit (.string (({data := #[57]} : ByteArray)))), (AV.lit (.string (({data := #[53]} : ByteArray)))), (AV.lit (.string (({data := #[56]} : ByteArray))))] [(0, [(AV.lit (.string (({data := #[57]} : ByteArray))))]), (1, [(AV.lit (.string (({data := #[53]} : ByteArray))))]), (2, [(AV.lit (.string (({data := #[56]} : ByteArray))))])] (Gd.yes rfl rfl (decide_eq_true (by decide))) Xd_tP41 Xd_tO41 rfl rfl rfl ?_
  refine o_eqlA [.string (({data := #[57]} : ByteArray)), .string (({data := #[53]} : ByteArray)), .string (({data := #[56]} : ByteArray))] [.string (({data := #[57]} : ByteArray)), .string (({data := #[53]} : ByteArray)), .string (({data := #[56]} : ByteArray))] ((({data := #[57]} : ByteArray)) = (({data := #[57]} : ByteArray)) ∧ (({data := #[53]} : ByteArray)) = (({data := #[53]} : ByteArray)) ∧ (({data := #[56]} : ByteArray)) = (({data := #[56]} : ByteArray))) (Gd.yes rfl rfl (decide_eq_true (by decide))) rfl rfl (eq_api_Line _ _ _ _ _ _) ?_
  refine o_pickT (b := decide ((0) = (0))) (bp ((({data := #[57]} : ByteArray)) = (({data := #[57]} : ByteArray)) ∧ (({data := #[53]} : ByteArray)) = (({data := #[53]} : ByteArray)) ∧ (({data := #[56]} : ByteArray)) = (({data := #[56]} : ByteArray)))) Gd.none rfl (decide_eq_true (by decide)) rfl ?_
  refine o_move (bp ((({data := #[57]} : ByteArray)) = (({data := #[57]} : ByteArray)) ∧ (({data := #[53]} : ByteArray)) = (({data := #[53]} : ByteArray)) ∧ (({data := #[56]} : ByteArray)) = (({data := #[56]} : ByteArray)))) Gd.none rfl ?_
  refine o_move (nm .i64 (0)) (Gd.yes rfl rfl (decide_eq_true ⟨rfl, rfl, rfl⟩)) rfl ?_
  refine n_eql (0) (0) (Gd.yes rfl rfl (decide_eq_true ⟨rfl, rfl, rfl⟩)) rfl rfl ?_
  refine o_pickT (b := decide ((({data := #[57]} : ByteArray)) = (({data := #[57]} : ByteArray)) ∧ (({data := #[53]} : ByteArray)) = (({data := #[53]} : ByteArray)) ∧ (({data := #[56]} : ByteArray)) = (({data := #[56]} : ByteArray)))) (bp ((0) = (0))) Gd.none rfl (decide_eq_true ⟨rfl, rfl, rfl⟩) rfl ?_
  refine o_move (bp ((0) = (0))) Gd.none rfl ?_
  refine o_move (AV.lit (.string (({data := #[51]} : ByteArray)))) (Gd.yes rfl rfl (decide_eq_true (by decide))) rfl ?_
  refine o_eqlS (a := (({data := #[51]} : ByteArray))) (c := (({data := #[51]} : ByteArray))) (Gd.yes rfl rfl (decide_eq_true (by decide))) rfl rfl ?_
  refine o_pickT (b := decide ((0) = (0))) (bp ((({data := #[51]} : ByteArray)).toList = (({data := #[51]} : ByteArray)).toList)) Gd.none rfl (decide_eq_true (by decide)) rfl ?_
  refine o_move (bp ((({data := #[51]} : ByteArray)).toList = (({data := #[51]} : ByteArray)).toList)) Gd.none rfl ?_
  refine o_move (AV.lit (.string (({data := #[56]} : ByteArray)))) (Gd.yes rfl rfl (decide_eq_true rfl)) rfl ?_
  refine o_eqlS (a := (({data := #[56]} : ByteArray))) (c := (({data := #[56]} : ByteArray))) (Gd.yes rfl rfl (decide_eq_true rfl)) rfl rfl ?_
  refine o_pickT (b := decide ((({data := #[51]} : ByteArray)).toList = (({data := #[51]} : ByteArray)).toList)) (bp ((({data := #[56]} : ByteArray)).toList = (({data := #[56]} : ByteArray)).toList)) Gd.none rfl (decide_eq_true rfl) rfl ?_
  refine o_move (bp ((({data := #[56]} : ByteArray)).toList = (({data := #[56]} : ByteArray)).toList)) Gd.none rfl ?_
  refine o_move (nm .i64 (0)) (Gd.yes rfl rfl (decide_eq_true rfl)) rfl ?_
  refine n_eql (0) (0) (Gd.yes rfl rfl (decide_eq_true rfl)) rfl rfl ?_
  refine o_pickT (b := decide ((({data := #[56]} : ByteArray)).toList = (({data := #[56]} : ByteArray)).toList)) (bp ((0) = (0))) Gd.none rfl (decide_eq_true rfl) rfl ?_
  refine o_move (bp ((0) = (0))) Gd.none rfl ?_
  refine o_move (AV.sl 1 (is .i64 ([1, 1, 1, 0]))) (Gd.yes rfl rfl (decide_eq_true (by decide))) rfl ?_
  refine o_buildSlice 6 (ns .i64 ([1, 1, 1, 0])) [(0, [(nm .i64 (1))]), (1, [(nm .i64 (1))]), (2, [(nm .i64 (1))]), (3, [(nm .i64 (0))])] (Gd.yes rfl rfl (decide_eq_true (by decide))) Xd_tE22 rfl Xd_tO3 rfl rfl rfl rfl rfl rfl rfl ?_
  refine o_callG [(6, 1, (ns .i64 ([1, 1, 1, 0])))] [(AV.sl 1 (is .i64 ([1, 1, 1, 0]))), (AV.sl 1 (ns .i64 ([1, 1, 1, 0])))] _ (bp ([1, 1, 1, 0] = [1, 1, 1, 0])) [(4, (AO.var 41 [(AV.lit (.string (({data := #[57]} : ByteArray)))), (AV.lit (.string (({data := #[53]} : ByteArray)))), (AV.lit (.string (({data := #[56]} : ByteArray))))])), (2, (AO.var 24 [(AV.lit (.int .i64 ((kinM 3 1).mod))), (AV.sl 1 (is .i64 ((kinM 3 1).mul))), (AV.sl 1 (is .i64 ((kinM 3 1).add)))]))] (Gd.yes rfl rfl (decide_eq_true (by decide))) Xd_tC19 rfl (And.intro ⟨_, rfl⟩ (trivial)) rfl rfl (LeL.cons (AV.le_refl _) (LeL.cons (AV.le_refl _) (LeL.nil))) (c_gAlike [1, 1, 1, 0] [1, 1, 1, 0]) rfl ?_
  refine o_pickT (b := decide ((0) = (0))) (bp ([1, 1, 1, 0] = [1, 1, 1, 0])) Gd.none rfl (decide_eq_true (by decide)) rfl ?_
  refine o_move (bp ([1, 1, 1, 0] = [1, 1, 1, 0])) Gd.none rfl ?_
  refine o_move (nm .i64 (0)) (Gd.yes rfl rfl (decide_eq_true rfl)) rfl ?_
  refine n_eql (0) (0) (Gd.yes rfl rfl (decide_eq_true rfl)) rfl rfl ?_
  refine o_pickT (b := decide ([1, 1, 1, 0] = [1, 1, 1, 0])) (bp ((0) = (0))) Gd.none rfl (decide_eq_true rfl) rfl ?_
  refine o_move (bp ((0) = (0))) Gd.none rfl ?_
  refine o_move (AV.lit (.string (({data := #[49, 51]} : ByteArray)))) (Gd.yes rfl rfl (decide_eq_true (by decide))) rfl ?_
  refine o_eqlS (a := (({data := #[49, 51]} : ByteArray))) (c := (({data := #[49, 51]} : ByteArray))) (Gd.yes rfl rfl (decide_eq_true (by decide))) rfl rfl ?_
  refine o_pickT (b := decide ((0) = (0))) (bp ((({data := #[49, 51]} : ByteArray)).toList = (({data := #[49, 51]} : ByteArray)).toList)) Gd.none rfl (decide_eq_true (by decide)) rfl ?_
  refine o_move (bp ((({data := #[49, 51]} : ByteArray)).toList = (({data := #[49, 51]} : ByteArray)).toList)) Gd.none rfl ?_
  refine o_move (AV.lit (.bool true)) (Gd.yes rfl rfl (decide_eq_true rfl)) rfl ?_
  refine o_pickT (b := decide ((({data := #[49, 51]} : ByteArray)).toList = (({data := #[49, 51]} : ByteArray)).toList)) (AV.lit (.bool true)) Gd.none rfl (decide_eq_true rfl) rfl ?_
  refine o_move (AV.lit (.bool true)) Gd.none rfl ?_
  refine o_move (nm .i64 (0)) (Gd.yes rfl rfl rfl) rfl ?_
  refine n_eql (0) (0) (Gd.yes rfl rfl rfl) rfl rfl ?_
  refine o_pickT (b := true) (bp ((0) = (0))) Gd.none rfl rfl rfl ?_
  refine o_move (bp ((0) = (0))) Gd.none rfl ?_
  refine o_move (AV.lit (.string (({data := #[]} : ByteArray)))) (Gd.yes rfl rfl (decide_eq_true (by decide))) rfl ?_
  refine o_eqlS (a := (({data := #[]} : ByteArray))) (c := (({data := #[]} : ByteArray))) (Gd.yes rfl rfl (decide_eq_true (by decide))) rfl rfl ?_
  refine o_pickT (b := decide ((0) = (0))) (bp ((({data := #[]} : ByteArray)).toList = (({data := #[]} : ByteArray)).toList)) Gd.none rfl (decide_eq_true (by decide)) rfl ?_
  refine o_move (bp ((({data := #[]} : ByteArray)).toList = (({data := #[]} : ByteArray)).toList)) Gd.none rfl ?_
  refine o_move (AV.lit (.bool false)) (Gd.yes rfl rfl (decide_eq_true rfl)) rfl ?_
  refine o_not (b := false) (Gd.yes rfl rfl (decide_eq_true rfl)) rfl ?_
  refine o_pickT (b := decide ((({data := #[]} : ByteArray)).toList = (({data := #[]} : ByteArray)).toList)) (AV.lit (.bool true)) Gd.none rfl (decide_eq_true rfl) rfl ?_
  refine o_assign (AV.lit (.bool true)) Gd.none rfl ?_
  refine aops_end ?_
  refine hK7 _ ?_
  refine awp_ret ?_
  refine post_ret ⟨[(AV.lit (.bool true))], And.intro (AV.le_refl _) (trivial), rfl, ?_⟩
  first | rfl | simp [bp]

end Go.Proofs.YtbilndahjkimkaaDoor

set_option linter.unusedVariables false
set_option linter.unusedSimpArgs false
namespace Go.Mth
open Go.Ab
theorem fit_of_pow' {z : Int} {k : Nat} (h : z.natAbs < 10 ^ k) (hk : k ≤ 2000) (h1 : 1 ≤ k) : Fit z := fit_of_pow h hk h1
theorem line_abs {m : MapM} (hm : OkM m) : ∀ w : List Int, IsW m w → (lineZ m w).mul.natAbs < 10 ^ (3 * w.length + 1) ∧ (lineZ m w).add.natAbs < 10 ^ (3 * w.length + 7) ∧ (lineZ m w).div.natAbs < 10 ^ (3 * w.length + 1) := by
  refine snoc_ind (P := fun w => IsW m w → (lineZ m w).mul.natAbs < 10 ^ (3 * w.length + 1) ∧ (lineZ m w).add.natAbs < 10 ^ (3 * w.length + 7) ∧ (lineZ m w).div.natAbs < 10 ^ (3 * w.length + 1)) (fun _ => ⟨show (1 : Int).natAbs < 10 ^ (3 * 0 + 1) by decide, show (0 : Int).natAbs < 10 ^ (3 * 0 + 7) by decide, show (1 : Int).natAbs < 10 ^ (3 * 0 + 1) by decide⟩) fun w r ih hw => ?_
  obtain ⟨i1, i2, i3⟩ := ih fun x hx => hw x (by simp [hx])
  obtain ⟨o1, o2, o3, o4, o5⟩ := hm
  obtain ⟨hr0, hr1⟩ := hw r (by simp)
  obtain ⟨r1, r2, r3, r4, _⟩ := o5 r.toNat (by omega)
  have e1 : (mulM m r).natAbs ≤ 999 := by unfold mulM; omega
  have e2 : (addM m r).natAbs ≤ 999999 := by unfold addM; omega
  have e3 : m.mod.natAbs ≤ 12 := by omega
  rw [lineZ_snoc, List.length_append, List.length_singleton]
  have p1 : (10 : Nat) ^ (3 * (w.length + 1) + 1) = 1000 * 10 ^ (3 * w.length + 1) := by rw [show 3 * (w.length + 1) + 1 = 3 * w.length + 1 + 3 by omega, Nat.pow_add, Nat.mul_comm]
  have p2 : (10 : Nat) ^ (3 * (w.length + 1) + 7) = 1000 * 10 ^ (3 * w.length + 7) := by rw [show 3 * (w.length + 1) + 7 = 3 * w.length + 7 + 3 by omega, Nat.pow_add, Nat.mul_comm]
  have p3 : (10 : Nat) ^ (3 * w.length + 7) = 1000000 * 10 ^ (3 * w.length + 1) := by rw [show 3 * w.length + 7 = 3 * w.length + 1 + 6 by omega, Nat.pow_add, Nat.mul_comm]
  refine ⟨?_, ?_, ?_⟩
  · show (mulM m r * (lineZ m w).mul).natAbs < _
    rw [Int.natAbs_mul, p1]
    have := Nat.mul_le_mul e1 (Nat.le_of_lt i1)
    have : 0 < (10 : Nat) ^ (3 * w.length + 1) := Nat.pow_pos (by decide)
    omega
  · show (mulM m r * (lineZ m w).add + addM m r * (lineZ m w).div).natAbs < _
    have a1 := Int.natAbs_add_le (mulM m r * (lineZ m w).add) (addM m r * (lineZ m w).div)
    rw [Int.natAbs_mul, Int.natAbs_mul] at a1
    have a2 := Nat.mul_le_mul e1 (Nat.le_of_lt i2)
    have a3 := Nat.mul_le_mul e2 (Nat.le_of_lt i3)
    have : 0 < (10 : Nat) ^ (3 * w.length + 1) := Nat.pow_pos (by decide)
    rw [p2]
    omega
  · show ((lineZ m w).div * m.mod).natAbs < _
    rw [Int.natAbs_mul, p1]
    have := Nat.mul_le_mul (Nat.le_of_lt i3) e3
    have : 0 < (10 : Nat) ^ (3 * w.length + 1) := Nat.pow_pos (by decide)
    omega
theorem line_fit {m : MapM} (hm : OkM m) {w : List Int} (hw : OkW m w) : Fit (lineZ m w).mul ∧ Fit (lineZ m w).add ∧ Fit (lineZ m w).div := by
  obtain ⟨h1, h2, h3⟩ := line_abs hm w hw.1
  have := hw.2
  exact ⟨fit_of_pow' h1 (by omega) (by omega), fit_of_pow' h2 (by omega) (by omega), fit_of_pow' h3 (by omega) (by omega)⟩
theorem okL_line {m : MapM} (hm : OkM m) {w : List Int} (hw : OkW m w) : okL (lineT (lineZ m w)) = true := by
  obtain ⟨h1, h2, h3⟩ := line_fit hm hw
  unfold okL lineT
  rw [okS_iff.2 (okS_txt h1), okS_iff.2 (okS_txt h2), okS_iff.2 (okS_txt h3)]
  rfl
theorem okW_app {m : MapM} {u v : List Int} (h : OkW m (u ++ v)) : OkW m u ∧ OkW m v := by
  have := h.2
  rw [List.length_append] at this
  exact ⟨⟨fun r hr => h.1 r (by simp [hr]), by omega⟩, ⟨fun r hr => h.1 r (by simp [hr]), by omega⟩⟩
end Go.Mth

set_option linter.unusedVariables false
set_option linter.unusedSimpArgs false
namespace Go.Proofs.YtbilndahjkimkaaDoor
open Go Go.Ab Go.Mth
end Go.Proofs.YtbilndahjkimkaaDoor

set_option linter.unusedVariables false
set_option linter.unusedSimpArgs false
namespace Go.Proofs.YtbilndahjkimkaaDoor
open Go Go.Ab Go.Mth
end Go.Proofs.YtbilndahjkimkaaDoor

set_option linter.unusedVariables false
set_option linter.unusedSimpArgs false
namespace Go.Proofs.YtbilndahjkimkaaDoor
open Go Go.Ab Go.Mth
end Go.Proofs.YtbilndahjkimkaaDoor

set_option linter.unusedVariables false
set_option linter.unusedSimpArgs false
namespace Go.Proofs.YtbilndahjkimkaaDoor
open Go Go.Ab Go.Mth
end Go.Proofs.YtbilndahjkimkaaDoor

set_option linter.unusedVariables false
set_option linter.unusedSimpArgs false
namespace Go.Proofs.YtbilndahjkimkaaDoor
open Go Go.Ab Go.Mth
theorem Xf2_tF41_0 : tyField cx.P 41 0 = some (0, 9) := by kernel_rfl
theorem Xf2_tS9 : tySc cx.P 9 = true := by kernel_rfl
theorem Xf2_tC15 : callable cx.P 15 = true := by kernel_rfl
theorem Xf2_tF41_1 : tyField cx.P 41 1 = some (1, 9) := by kernel_rfl
theorem Xf2_tF41_2 : tyField cx.P 41 2 = some (2, 9) := by kernel_rfl
theorem Xf2_tE22 : tyElem cx.P 22 = some (3, 1, 8) := by kernel_rfl
theorem Xf2_tO3 : tyZero cx.P 3 = some [(Go.Value.int IntKind.i64 0)] := by kernel_rfl
theorem Xf2_tA24 : tyAgg cx.P 24 = some 3 := by kernel_rfl
theorem Xf2_tC14 : callable cx.P 14 = true := by kernel_rfl
theorem Xf2_tC16 : callable cx.P 16 = true := by kernel_rfl
theorem Xf2_tC22 : callable cx.P 22 = true := by kernel_rfl
theorem Xf2_tC20 : callable cx.P 20 = true := by kernel_rfl
theorem Xf2_tO41 : tyZero cx.P 41 = some [(Go.Value.string {data := #[]}), (Go.Value.string {data := #[]}), (Go.Value.string {data := #[]})] := by kernel_rfl
theorem Xf2_tZ41 : tySize cx.P 41 = some 3 := by kernel_rfl
theorem Xf2_tA41 : tyAgg cx.P 41 = some 3 := by kernel_rfl
theorem Xf2_tC36 : callable cx.P 36 = true := by kernel_rfl
theorem Xf2_tC18 : callable cx.P 18 = true := by kernel_rfl
theorem Xf2_tC37 : callable cx.P 37 = true := by kernel_rfl
theorem Xf2_tO36 : tyZero cx.P 36 = some [(Go.Value.bool false), (Go.Value.slice none 0 0)] := by kernel_rfl
theorem Xf2_tZ36 : tySize cx.P 36 = some 2 := by kernel_rfl
theorem Xf2_tC34 : callable cx.P 34 = true := by kernel_rfl
theorem Xf2_tA36 : tyAgg cx.P 36 = some 2 := by kernel_rfl
theorem Xf2_tC27 : callable cx.P 27 = true := by kernel_rfl
theorem c_l3Numbers (l : LineS) (h1m : l.mul.size ≤ 9223372036854775807) (h2m : l.add.size ≤ 9223372036854775807) (h3m : l.div.size ≤ 9223372036854775807) : ECalls cx 36 [(AV.agg [(AV.lit (.string ((l).mul))), (AV.lit (.string ((l).add))), (AV.lit (.string ((l).div)))])] (.lit (.bool (okL l))) := by
  refine ecalls_of_awp Tryd.func36 (c := _) rfl (Nat.le_of_ble_eq_true rfl) ?_
  show awp cx 16 _ (postF cx Tryd.f36 _) ⟨[(0, (AV.agg [(AV.lit (.string ((l).mul))), (AV.lit (.string ((l).add))), (AV.lit (.string ((l).div)))]))], []⟩
  refine awp_seq fun K0 hK0 => ?_
  refine awp_region rfl ?_
  refine o_box 2 [(AV.lit (.string ((l).mul))), (AV.lit (.string ((l).add))), (AV.lit (.string ((l).div)))] Gd.none rfl rfl ?_
  refine o_assign (AV.lit (.bool false)) Gd.none rfl ?_
  refine aops_end ?_
  refine hK0 _ ?_
  refine awp_seq fun K1 hK1 => ?_
  refine awp_region rfl ?_
  refine o_fieldRef 0 Gd.none Xf2_tF41_0 rfl rfl ?_
  refine o_loadS (AV.lit (.string ((l).mul))) Gd.none Xf2_tS9 rfl rfl rfl ?_
  refine o_call [(AV.lit (.string ((l).mul)))] (AV.lit (.bool (okS ((l).mul)))) Gd.none Xf2_tC15 rfl (c_rValid ((l).mul) (by first | assumption | decide | omega)) ?_
  refine o_move (AV.lit (.bool (okS ((l).mul)))) Gd.none rfl ?_
  refine o_split (b := okS ((l).mul)) 6 rfl (fun h1 => ?_) (fun h1 => ?_)
  · refine o_fieldRef 1 (Gd.yes rfl rfl h1) Xf2_tF41_1 rfl rfl ?_
    refine o_loadS (AV.lit (.string ((l).add))) (Gd.yes rfl rfl h1) Xf2_tS9 rfl rfl rfl ?_
    refine o_call [(AV.lit (.string ((l).add)))] (AV.lit (.bool (okS ((l).add)))) (Gd.yes rfl rfl h1) Xf2_tC15 rfl (c_rValid ((l).add) (by first | assumption | decide | omega)) ?_
    refine o_pickT (b := okS ((l).mul)) (AV.lit (.bool (okS ((l).add)))) Gd.none rfl h1 rfl ?_
    refine o_move (AV.lit (.bool (okS ((l).add)))) Gd.none rfl ?_
    refine o_split (b := okS ((l).add)) 11 rfl (fun h2 => ?_) (fun h2 => ?_)
    · refine o_fieldRef 2 (Gd.yes rfl rfl h2) Xf2_tF41_2 rfl rfl ?_
      refine o_loadS (AV.lit (.string ((l).div))) (Gd.yes rfl rfl h2) Xf2_tS9 rfl rfl rfl ?_
      refine o_call [(AV.lit (.string ((l).div)))] (AV.lit (.bool (okS ((l).div)))) (Gd.yes rfl rfl h2) Xf2_tC15 rfl (c_rValid ((l).div) (by first | assumption | decide | omega)) ?_
      refine o_pickT (b := okS ((l).add)) (AV.lit (.bool (okS ((l).div)))) Gd.none rfl h2 rfl ?_
      refine o_assign (AV.lit (.bool (okS ((l).div)))) Gd.none rfl ?_
      refine aops_end ?_
      refine hK1 _ ?_
      refine awp_ret ?_
      refine post_ret ⟨[(AV.lit (.bool (okS ((l).div))))], And.intro (AV.le_refl _) (trivial), rfl, ?_⟩
      exact bl_eq (by unfold okL; simp [*])
    · refine o_skip (b := okS ((l).add)) rfl rfl h2 ?_
      refine o_skip (b := okS ((l).add)) rfl rfl h2 ?_
      refine o_skip (b := okS ((l).add)) rfl rfl h2 ?_
      refine o_pickF (b := okS ((l).add)) (AV.lit (.bool false)) Gd.none rfl h2 rfl ?_
      refine o_assign (AV.lit (.bool false)) Gd.none rfl ?_
      refine aops_end ?_
      refine hK1 _ ?_
      refine awp_ret ?_
      refine post_ret ⟨[(AV.lit (.bool false))], And.intro (AV.le_refl _) (trivial), rfl, ?_⟩
      exact bl_eq (by unfold okL; simp [*])
  · refine o_skip (b := okS ((l).mul)) rfl rfl h1 ?_
    refine o_skip (b := okS ((l).mul)) rfl rfl h1 ?_
    refine o_skip (b := okS ((l).mul)) rfl rfl h1 ?_
    refine o_pickF (b := okS ((l).mul)) (AV.lit (.bool false)) Gd.none rfl h1 rfl ?_
    refine o_move (AV.lit (.bool false)) Gd.none rfl ?_
    refine o_skip (b := false) rfl rfl rfl ?_
    refine o_skip (b := false) rfl rfl rfl ?_
    refine o_skip (b := false) rfl rfl rfl ?_
    refine o_pickF (b := false) (AV.lit (.bool false)) Gd.none rfl rfl rfl ?_
    refine o_assign (AV.lit (.bool false)) Gd.none rfl ?_
    refine aops_end ?_
    refine hK1 _ ?_
    refine awp_ret ?_
    refine post_ret ⟨[(AV.lit (.bool false))], And.intro (AV.le_refl _) (trivial), rfl, ?_⟩
    exact bl_eq (by unfold okL; simp [*])

theorem c_WordParts (m : MapM) (u v : List Int) (hul : u.length ≤ 1048576) (hvl : v.length ≤ 1048576) : ECalls cx 7 [(mapV m), (AV.sl 1 (is .i64 (u))), (AV.sl 1 (is .i64 (v)))] (.lit (.bool true)) := by
  refine ecalls_of_awp Tryd.func7 (c := _) rfl (Nat.le_of_ble_eq_true rfl) ?_
  show awp cx 126 _ (postF cx Tryd.f7 _) ⟨[(0, (mapV m)), (1, (AV.sl 1 (is .i64 (u)))), (2, (AV.sl 1 (is .i64 (v))))], []⟩
  refine awp_seq fun K0 hK0 => ?_
  refine awp_region rfl ?_
  refine o_box 2 [(AV.lit (.int .i64 (m.mod))), (AV.sl 1 (is .i64 (m.mul))), (AV.sl 1 (is .i64 (m.add)))] Gd.none rfl rfl ?_
  refine o_assign (AV.lit (.bool false)) Gd.none rfl ?_
  refine aops_end ?_
  refine hK0 _ ?_
  refine awp_seq fun K1 hK1 => ?_
  refine awp_region rfl ?_
  refine o_buildSlice 3 (ns .i64 ([])) [] Gd.none Xf2_tE22 rfl Xf2_tO3 rfl rfl rfl rfl rfl rfl rfl ?_
  refine o_move (AV.sl 1 (is .i64 (u))) Gd.none rfl ?_
  refine o_append 4 (is .i64 (u)) (is .i64 (u)) _ [(2, (AO.var 24 [(AV.lit (.int .i64 (m.mod))), (AV.sl 1 (is .i64 (m.mul))), (AV.sl 1 (is .i64 (m.add)))]))] Gd.none Xf2_tE22 rfl Xf2_tO3 rfl rfl rfl (.inl ⟨rfl, rfl⟩) (by simp [is, ns]; omega) (by simp [is, ns]; omega) rfl rfl rfl ?_
  refine o_move (AV.sl 1 (is .i64 (v))) Gd.none rfl ?_
  refine i_appendSl 5 (u) (v) [(2, (AO.var 24 [(AV.lit (.int .i64 (m.mod))), (AV.sl 1 (is .i64 (m.mul))), (AV.sl 1 (is .i64 (m.add)))]))] Gd.none Xf2_tE22 Xf2_tO3 rfl rfl rfl rfl (by omega) (by decide) rfl rfl ?_
  refine o_assign (AV.row 5) Gd.none rfl ?_
  refine aops_end ?_
  refine hK1 _ ?_
  refine awp_seq fun K2 hK2 => ?_
  refine awp_seq fun K3 hK3 => ?_
  refine awp_wk (σ' := ⟨[(1, (AV.sl 1 (is .i64 (u)))), (2, (AV.sl 1 (is .i64 (v)))), (3, (AV.ref 2 (0))), (7, (AV.row 5))], [(5, (AO.row 3 1 (is .i64 ((u) ++ (v))))), (2, (AO.var 24 [(AV.lit (.int .i64 (m.mod))), (AV.sl 1 (is .i64 (m.mul))), (AV.sl 1 (is .i64 (m.add)))]))]⟩) (Wk.sub (And.intro rfl (And.intro rfl (And.intro rfl (And.intro rfl (trivial))))) (And.intro rfl (And.intro rfl (trivial)))) ?_
  refine awp_wk (σ' := ⟨[(1, (AV.sl 1 (is .i64 (u)))), (2, (AV.sl 1 (is .i64 (v)))), (3, (AV.ref 2 (0))), (7, (AV.sl 1 (is .i64 ((u) ++ (v)))))], [(2, (AO.var 24 [(AV.lit (.int .i64 (m.mod))), (AV.sl 1 (is .i64 (m.mul))), (AV.sl 1 (is .i64 (m.add)))]))]⟩) (Wk.freeze (id := 5) (e := 3) (sz := 1) (cs := (is .i64 ((u) ++ (v)))) rfl) ?_
  refine awp_region rfl ?_
  refine o_loadA [(AV.lit (.int .i64 (m.mod))), (AV.sl 1 (is .i64 (m.mul))), (AV.sl 1 (is .i64 (m.add)))] Gd.none Xf2_tA24 rfl rfl rfl rfl rfl ?_
  refine o_call [(AV.agg [(AV.lit (.int .i64 (m.mod))), (AV.sl 1 (is .i64 (m.mul))), (AV.sl 1 (is .i64 (m.add)))])] (AV.lit (.bool (okM m))) Gd.none Xf2_tC14 rfl (c_gValid m) ?_
  refine o_not (b := okM m) Gd.none rfl ?_
  refine o_move (AV.lit (.bool (!(okM m)))) Gd.none rfl ?_
  refine o_split (b := !(okM m)) 25 rfl (fun h1 => ?_) (fun h1 => ?_)
  · have hm' : ¬ okM m = true := by simpa using h1
    refine o_skip (b := !(okM m)) rfl rfl h1 ?_
    refine o_skip (b := !(okM m)) rfl rfl h1 ?_
    refine o_skip (b := !(okM m)) rfl rfl h1 ?_
    refine o_skip (b := !(okM m)) rfl rfl h1 ?_
    refine o_pickT (b := !(okM m)) (AV.lit (.bool true)) Gd.none rfl h1 rfl ?_
    refine aops_end ?_
    refine hK3 _ ?_
    refine awp_condB (b := true) rfl (fun _ => ?_) (fun hh => absurd (hh.symm.trans rfl) (by decide))
    refine awp_seq fun K4 hK4 => ?_
    refine awp_region rfl ?_
    refine o_call [] (AV.lit (.bool true)) Gd.none Xf2_tC16 rfl c_l3Awake ?_
    refine o_assign (AV.lit (.bool true)) Gd.none rfl ?_
    refine aops_end ?_
    refine hK4 _ ?_
    refine awp_ret ?_
    refine post_ret ⟨[(AV.lit (.bool true))], And.intro (AV.le_refl _) (trivial), rfl, ?_⟩
    first | rfl | simp [bp]
  · have hm' : okM m = true := by simpa using h1
    have hM := okM_iff.1 hm'
    have huv : (u ++ v).length ≤ 17592186044416 := by rw [List.length_append]; omega
    refine o_loadA [(AV.lit (.int .i64 (m.mod))), (AV.sl 1 (is .i64 (m.mul))), (AV.sl 1 (is .i64 (m.add)))] (Gd.yes rfl rfl h1) Xf2_tA24 rfl rfl rfl rfl rfl ?_
    refine o_move (AV.sl 1 (is .i64 ((u) ++ (v)))) (Gd.yes rfl rfl h1) rfl ?_
    refine o_call [(AV.agg [(AV.lit (.int .i64 (m.mod))), (AV.sl 1 (is .i64 (m.mul))), (AV.sl 1 (is .i64 (m.add)))]), (AV.sl 1 (is .i64 ((u) ++ (v))))] (bp (OkW m ((u) ++ (v)))) (Gd.yes rfl rfl h1) Xf2_tC22 rfl (c_vIs m ((u) ++ (v)) (by omega)) ?_
    refine o_notP (q := OkW m ((u) ++ (v))) (Gd.yes rfl rfl h1) rfl ?_
    refine o_pickF (b := !(okM m)) (bp (¬ (OkW m ((u) ++ (v))))) Gd.none rfl h1 rfl ?_
    refine aops_end ?_
    refine hK3 _ ?_
    refine awp_condQ (q := ¬ (OkW m ((u) ++ (v)))) rfl (fun h2 => ?_) (fun h2 => ?_)
    · refine awp_seq fun K5 hK5 => ?_
      refine awp_region rfl ?_
      refine o_call [] (AV.lit (.bool true)) Gd.none Xf2_tC16 rfl c_l3Awake ?_
      refine o_assign (AV.lit (.bool true)) Gd.none rfl ?_
      refine aops_end ?_
      refine hK5 _ ?_
      refine awp_ret ?_
      refine post_ret ⟨[(AV.lit (.bool true))], And.intro (AV.le_refl _) (trivial), rfl, ?_⟩
      first | rfl | simp [bp]
    · have hW : OkW m (u ++ v) := Decidable.not_not.1 h2
      obtain ⟨hU, hV⟩ := okW_app hW
      have e1 := line_0 hm' hU
      have e2 := line_0 hm' hV
      have e3 := line_0 hm' hW
      obtain ⟨f1, f2, f3⟩ := line_fit hM hU
      obtain ⟨f4, f5, f6⟩ := line_fit hM hV
      have k1 := okL_line hM hU
      have k2 := okL_line hM hV
      have k3 := okL_line hM hW
      have g1 := fit_len f1
      have g2 := fit_len f2
      have g3 := fit_len f3
      have g4 := fit_len f4
      have g5 := fit_len f5
      have g6 := fit_len f6
      have s1 := txt_sz f1
      have s2 := txt_sz f2
      have s3 := txt_sz f3
      have s4 := txt_sz f4
      have s5 := txt_sz f5
      have s6 := txt_sz f6
      obtain ⟨f7, f8, f9⟩ := line_fit hM hW
      have s7 := txt_sz f7
      have s8 := txt_sz f8
      have s9 := txt_sz f9
      have q1 : okS (lineT (lineZ m u)).mul = true := okS_iff.2 (okS_txt f1)
      have q2 : okS (lineT (lineZ m u)).add = true := okS_iff.2 (okS_txt f2)
      have q3 : okS (lineT (lineZ m u)).div = true := okS_iff.2 (okS_txt f3)
      have q4 : okS (lineT (lineZ m v)).mul = true := okS_iff.2 (okS_txt f4)
      have q5 : okS (lineT (lineZ m v)).add = true := okS_iff.2 (okS_txt f5)
      have q6 : okS (lineT (lineZ m v)).div = true := okS_iff.2 (okS_txt f6)
      have p1 := len_mulZ ((lineZ m (v)).mul) ((lineZ m (u)).mul)
      have p2 := len_mulZ ((lineZ m (v)).mul) ((lineZ m (u)).add)
      have p3 := len_mulZ ((lineZ m (v)).add) ((lineZ m (u)).div)
      have p4 := len_addZ (((lineZ m (v)).mul) * ((lineZ m (u)).add)) (((lineZ m (v)).add) * ((lineZ m (u)).div))
      have p5 := len_mulZ ((lineZ m (u)).div) ((lineZ m (v)).div)
      refine awp_skip ?_
      refine hK2 _ ?_
      refine awp_seq fun K6 hK6 => ?_
      refine awp_region rfl ?_
      refine o_loadA [(AV.lit (.int .i64 (m.mod))), (AV.sl 1 (is .i64 (m.mul))), (AV.sl 1 (is .i64 (m.add)))] Gd.none Xf2_tA24 rfl rfl rfl rfl rfl ?_
      refine o_move (AV.sl 1 (is .i64 (u))) Gd.none rfl ?_
      refine o_call [(AV.agg [(AV.lit (.int .i64 (m.mod))), (AV.sl 1 (is .i64 (m.mul))), (AV.sl 1 (is .i64 (m.add)))]), (AV.sl 1 (is .i64 (u)))] (AV.tup [(AV.agg [(AV.lit (.string ((lineS m (u)).mul))), (AV.lit (.string ((lineS m (u)).add))), (AV.lit (.string ((lineS m (u)).div)))]), (nm .i64 (lineE m (u)))]) Gd.none Xf2_tC20 rfl (c_oLine m (u) (by omega)) ?_
      refine o_move (AV.tup [(AV.agg [(AV.lit (.string ((lineS m (u)).mul))), (AV.lit (.string ((lineS m (u)).add))), (AV.lit (.string ((lineS m (u)).div)))]), (nm .i64 (lineE m (u)))]) Gd.none rfl ?_
      refine o_extract (AV.agg [(AV.lit (.string ((lineS m (u)).mul))), (AV.lit (.string ((lineS m (u)).add))), (AV.lit (.string ((lineS m (u)).div)))]) Gd.none rfl rfl ?_
      refine n_as (v' := (AV.agg [(AV.lit (.string ((lineT (lineZ m (u))).mul))), (AV.lit (.string ((lineT (lineZ m (u))).add))), (AV.lit (.string ((lineT (lineZ m (u))).div)))])) (by rw [e1.2]) ?_
      refine o_extract (nm .i64 (lineE m (u))) Gd.none rfl rfl ?_
      refine n_as (v' := (nm .i64 (0))) (by rw [e1.1]) ?_
      refine o_alloc 6 [(AV.lit (.string (({data := #[]} : ByteArray)))), (AV.lit (.string (({data := #[]} : ByteArray)))), (AV.lit (.string (({data := #[]} : ByteArray))))] Gd.none Xf2_tO41 rfl rfl rfl ?_
      refine o_store [(6, (AO.var 41 [(AV.lit (.string ((lineT (lineZ m (u))).mul))), (AV.lit (.string ((lineT (lineZ m (u))).add))), (AV.lit (.string ((lineT (lineZ m (u))).div)))])), (2, (AO.var 24 [(AV.lit (.int .i64 (m.mod))), (AV.sl 1 (is .i64 (m.mul))), (AV.sl 1 (is .i64 (m.add)))]))] Gd.none Xf2_tZ41 rfl rfl rfl rfl rfl rfl ?_
      refine o_assign (nm .i64 (0)) Gd.none rfl ?_
      refine aops_end ?_
      refine hK6 _ ?_
      refine awp_seq fun K7 hK7 => ?_
      refine awp_region rfl ?_
      refine o_loadA [(AV.lit (.int .i64 (m.mod))), (AV.sl 1 (is .i64 (m.mul))), (AV.sl 1 (is .i64 (m.add)))] Gd.none Xf2_tA24 rfl rfl rfl rfl rfl ?_
      refine o_move (AV.sl 1 (is .i64 (v))) Gd.none rfl ?_
      refine o_call [(AV.agg [(AV.lit (.int .i64 (m.mod))), (AV.sl 1 (is .i64 (m.mul))), (AV.sl 1 (is .i64 (m.add)))]), (AV.sl 1 (is .i64 (v)))] (AV.tup [(AV.agg [(AV.lit (.string ((lineS m (v)).mul))), (AV.lit (.string ((lineS m (v)).add))), (AV.lit (.string ((lineS m (v)).div)))]), (nm .i64 (lineE m (v)))]) Gd.none Xf2_tC20 rfl (c_oLine m (v) (by omega)) ?_
      refine o_move (AV.tup [(AV.agg [(AV.lit (.string ((lineS m (v)).mul))), (AV.lit (.string ((lineS m (v)).add))), (AV.lit (.string ((lineS m (v)).div)))]), (nm .i64 (lineE m (v)))]) Gd.none rfl ?_
      refine o_extract (AV.agg [(AV.lit (.string ((lineS m (v)).mul))), (AV.lit (.string ((lineS m (v)).add))), (AV.lit (.string ((lineS m (v)).div)))]) Gd.none rfl rfl ?_
      refine n_as (v' := (AV.agg [(AV.lit (.string ((lineT (lineZ m (v))).mul))), (AV.lit (.string ((lineT (lineZ m (v))).add))), (AV.lit (.string ((lineT (lineZ m (v))).div)))])) (by rw [e2.2]) ?_
      refine o_extract (nm .i64 (lineE m (v))) Gd.none rfl rfl ?_
      refine n_as (v' := (nm .i64 (0))) (by rw [e2.1]) ?_
      refine o_alloc 7 [(AV.lit (.string (({data := #[]} : ByteArray)))), (AV.lit (.string (({data := #[]} : ByteArray)))), (AV.lit (.string (({data := #[]} : ByteArray))))] Gd.none Xf2_tO41 rfl rfl rfl ?_
      refine o_store [(7, (AO.var 41 [(AV.lit (.string ((lineT (lineZ m (v))).mul))), (AV.lit (.string ((lineT (lineZ m (v))).add))), (AV.lit (.string ((lineT (lineZ m (v))).div)))])), (6, (AO.var 41 [(AV.lit (.string ((lineT (lineZ m (u))).mul))), (AV.lit (.string ((lineT (lineZ m (u))).add))), (AV.lit (.string ((lineT (lineZ m (u))).div)))])), (2, (AO.var 24 [(AV.lit (.int .i64 (m.mod))), (AV.sl 1 (is .i64 (m.mul))), (AV.sl 1 (is .i64 (m.add)))]))] Gd.none Xf2_tZ41 rfl rfl rfl rfl rfl rfl ?_
      refine o_assign (nm .i64 (0)) Gd.none rfl ?_
      refine aops_end ?_
      refine hK7 _ ?_
      refine awp_seq fun K8 hK8 => ?_
      refine awp_region rfl ?_
      refine o_loadA [(AV.lit (.int .i64 (m.mod))), (AV.sl 1 (is .i64 (m.mul))), (AV.sl 1 (is .i64 (m.add)))] Gd.none Xf2_tA24 rfl rfl rfl rfl rfl ?_
      refine o_move (AV.sl 1 (is .i64 ((u) ++ (v)))) Gd.none rfl ?_
      refine o_call [(AV.agg [(AV.lit (.int .i64 (m.mod))), (AV.sl 1 (is .i64 (m.mul))), (AV.sl 1 (is .i64 (m.add)))]), (AV.sl 1 (is .i64 ((u) ++ (v))))] (AV.tup [(AV.agg [(AV.lit (.string ((lineS m ((u) ++ (v))).mul))), (AV.lit (.string ((lineS m ((u) ++ (v))).add))), (AV.lit (.string ((lineS m ((u) ++ (v))).div)))]), (nm .i64 (lineE m ((u) ++ (v))))]) Gd.none Xf2_tC20 rfl (c_oLine m ((u) ++ (v)) (by omega)) ?_
      refine o_move (AV.tup [(AV.agg [(AV.lit (.string ((lineS m ((u) ++ (v))).mul))), (AV.lit (.string ((lineS m ((u) ++ (v))).add))), (AV.lit (.string ((lineS m ((u) ++ (v))).div)))]), (nm .i64 (lineE m ((u) ++ (v))))]) Gd.none rfl ?_
      refine o_extract (AV.agg [(AV.lit (.string ((lineS m ((u) ++ (v))).mul))), (AV.lit (.string ((lineS m ((u) ++ (v))).add))), (AV.lit (.string ((lineS m ((u) ++ (v))).div)))]) Gd.none rfl rfl ?_
      refine n_as (v' := (AV.agg [(AV.lit (.string ((lineT (lineZ m ((u) ++ (v)))).mul))), (AV.lit (.string ((lineT (lineZ m ((u) ++ (v)))).add))), (AV.lit (.string ((lineT (lineZ m ((u) ++ (v)))).div)))])) (by rw [e3.2]) ?_
      refine o_extract (nm .i64 (lineE m ((u) ++ (v)))) Gd.none rfl rfl ?_
      refine n_as (v' := (nm .i64 (0))) (by rw [e3.1]) ?_
      refine o_alloc 8 [(AV.lit (.string (({data := #[]} : ByteArray)))), (AV.lit (.string (({data := #[]} : ByteArray)))), (AV.lit (.string (({data := #[]} : ByteArray))))] Gd.none Xf2_tO41 rfl rfl rfl ?_
      refine o_store [(8, (AO.var 41 [(AV.lit (.string ((lineT (lineZ m ((u) ++ (v)))).mul))), (AV.lit (.string ((lineT (lineZ m ((u) ++ (v)))).add))), (AV.lit (.string ((lineT (lineZ m ((u) ++ (v)))).div)))])), (7, (AO.var 41 [(AV.lit (.string ((lineT (lineZ m (v))).mul))), (AV.lit (.string ((lineT (lineZ m (v))).add))), (AV.lit (.string ((lineT (lineZ m (v))).div)))])), (6, (AO.var 41 [(AV.lit (.string ((lineT (lineZ m (u))).mul))), (AV.lit (.string ((lineT (lineZ m (u))).add))), (AV.lit (.string ((lineT (lineZ m (u))).div)))])), (2, (AO.var 24 [(AV.lit (.int .i64 (m.mod))), (AV.sl 1 (is .i64 (m.mul))), (AV.sl 1 (is .i64 (m.add)))]))] Gd.none Xf2_tZ41 rfl rfl rfl rfl rfl rfl ?_
      refine o_assign (nm .i64 (0)) Gd.none rfl ?_
      refine aops_end ?_
      refine hK8 _ ?_
      refine awp_seq fun K9 hK9 => ?_
      refine awp_seq fun K10 hK10 => ?_
      refine awp_region rfl ?_
      refine o_move (nm .i64 (0)) Gd.none rfl ?_
      refine n_neq (0) (0) Gd.none rfl rfl ?_
      refine o_move (bp ((0) ≠ (0))) Gd.none rfl ?_
      refine o_move (nm .i64 (0)) (Gd.yes rfl rfl (decide_eq_false (by decide))) rfl ?_
      refine n_neq (0) (0) (Gd.yes rfl rfl (decide_eq_false (by decide))) rfl rfl ?_
      refine o_pickF (b := decide ((0) ≠ (0))) (bp ((0) ≠ (0))) Gd.none rfl (decide_eq_false (by decide)) rfl ?_
      refine o_move (bp ((0) ≠ (0))) Gd.none rfl ?_
      refine o_move (nm .i64 (0)) (Gd.yes rfl rfl (decide_eq_false (by decide))) rfl ?_
      refine n_neq (0) (0) (Gd.yes rfl rfl (decide_eq_false (by decide))) rfl rfl ?_
      refine o_pickF (b := decide ((0) ≠ (0))) (bp ((0) ≠ (0))) Gd.none rfl (decide_eq_false (by decide)) rfl ?_
      refine o_move (bp ((0) ≠ (0))) Gd.none rfl ?_
      refine o_loadA [(AV.lit (.string ((lineT (lineZ m (u))).mul))), (AV.lit (.string ((lineT (lineZ m (u))).add))), (AV.lit (.string ((lineT (lineZ m (u))).div)))] (Gd.yes rfl rfl (decide_eq_false (by decide))) Xf2_tA41 rfl rfl rfl rfl rfl ?_
      refine o_call [(AV.agg [(AV.lit (.string ((lineT (lineZ m (u))).mul))), (AV.lit (.string ((lineT (lineZ m (u))).add))), (AV.lit (.string ((lineT (lineZ m (u))).div)))])] (AV.lit (.bool (okL (lineT (lineZ m (u)))))) (Gd.yes rfl rfl (decide_eq_false (by decide))) Xf2_tC36 rfl (c_l3Numbers (lineT (lineZ m (u))) (by first | assumption | decide | omega) (by first | assumption | decide | omega) (by first | assumption | decide | omega)) ?_
      refine n_as (v' := (AV.lit (.bool true))) (by rw [k1]) ?_
      refine o_not (b := true) (Gd.yes rfl rfl (decide_eq_false (by decide))) rfl ?_
      refine o_pickF (b := decide ((0) ≠ (0))) (AV.lit (.bool false)) Gd.none rfl (decide_eq_false (by decide)) rfl ?_
      refine o_move (AV.lit (.bool false)) Gd.none rfl ?_
      refine o_loadA [(AV.lit (.string ((lineT (lineZ m (v))).mul))), (AV.lit (.string ((lineT (lineZ m (v))).add))), (AV.lit (.string ((lineT (lineZ m (v))).div)))] (Gd.yes rfl rfl rfl) Xf2_tA41 rfl rfl rfl rfl rfl ?_
      refine o_call [(AV.agg [(AV.lit (.string ((lineT (lineZ m (v))).mul))), (AV.lit (.string ((lineT (lineZ m (v))).add))), (AV.lit (.string ((lineT (lineZ m (v))).div)))])] (AV.lit (.bool (okL (lineT (lineZ m (v)))))) (Gd.yes rfl rfl rfl) Xf2_tC36 rfl (c_l3Numbers (lineT (lineZ m (v))) (by first | assumption | decide | omega) (by first | assumption | decide | omega) (by first | assumption | decide | omega)) ?_
      refine n_as (v' := (AV.lit (.bool true))) (by rw [k2]) ?_
      refine o_not (b := true) (Gd.yes rfl rfl rfl) rfl ?_
      refine o_pickF (b := false) (AV.lit (.bool false)) Gd.none rfl rfl rfl ?_
      refine o_move (AV.lit (.bool false)) Gd.none rfl ?_
      refine o_loadA [(AV.lit (.string ((lineT (lineZ m ((u) ++ (v)))).mul))), (AV.lit (.string ((lineT (lineZ m ((u) ++ (v)))).add))), (AV.lit (.string ((lineT (lineZ m ((u) ++ (v)))).div)))] (Gd.yes rfl rfl rfl) Xf2_tA41 rfl rfl rfl rfl rfl ?_
      refine o_call [(AV.agg [(AV.lit (.string ((lineT (lineZ m ((u) ++ (v)))).mul))), (AV.lit (.string ((lineT (lineZ m ((u) ++ (v)))).add))), (AV.lit (.string ((lineT (lineZ m ((u) ++ (v)))).div)))])] (AV.lit (.bool (okL (lineT (lineZ m ((u) ++ (v))))))) (Gd.yes rfl rfl rfl) Xf2_tC36 rfl (c_l3Numbers (lineT (lineZ m ((u) ++ (v)))) (by first | assumption | decide | omega) (by first | assumption | decide | omega) (by first | assumption | decide | omega)) ?_
      refine n_as (v' := (AV.lit (.bool true))) (by rw [k3]) ?_
      refine o_not (b := true) (Gd.yes rfl rfl rfl) rfl ?_
      refine o_pickF (b := false) (AV.lit (.bool false)) Gd.none rfl rfl rfl ?_
      refine aops_end ?_
      refine hK10 _ ?_
      refine awp_condB (b := false) rfl (fun hh => absurd (hh.symm.trans rfl) (by decide)) (fun _ => ?_)
      refine awp_skip ?_
      refine hK9 _ ?_
      refine awp_seq fun K11 hK11 => ?_
      refine awp_regionD rfl ?_
      refine o_fieldRef 0 Gd.none Xf2_tF41_0 rfl rfl ?_
      refine o_loadS (AV.lit (.string ((lineT (lineZ m (v))).mul))) Gd.none Xf2_tS9 rfl rfl rfl ?_
      refine o_call [(AV.lit (.string ((lineT (lineZ m (v))).mul)))] (intR ((numS ((lineT (lineZ m (v))).mul)))) Gd.none Xf2_tC18 rfl (c_rParse ((lineT (lineZ m (v))).mul) (by first | assumption | exact okS_iff.1 (by assumption))) ?_
      refine n_as (v' := (intR (((lineZ m (v)).mul)))) (by simp only [lineT, numS_txt]) ?_
      refine o_fieldRef 0 Gd.none Xf2_tF41_0 rfl rfl ?_
      refine o_loadS (AV.lit (.string ((lineT (lineZ m (u))).mul))) Gd.none Xf2_tS9 rfl rfl rfl ?_
      refine o_call [(AV.lit (.string ((lineT (lineZ m (u))).mul)))] (intR ((numS ((lineT (lineZ m (u))).mul)))) Gd.none Xf2_tC18 rfl (c_rParse ((lineT (lineZ m (u))).mul) (by first | assumption | exact okS_iff.1 (by assumption))) ?_
      refine n_as (v' := (intR (((lineZ m (u)).mul)))) (by simp only [lineT, numS_txt]) ?_
      refine o_call [(intR (((lineZ m (v)).mul))), (intR (((lineZ m (u)).mul)))] (intR ((((lineZ m (v)).mul) * ((lineZ m (u)).mul)))) Gd.none Xf2_tC37 rfl (c_rMul (((lineZ m (v)).mul)) (((lineZ m (u)).mul)) (by first | assumption | omega | (simp only [Int.natAbs_neg]; omega)) (by first | assumption | omega | (simp only [Int.natAbs_neg]; omega))) ?_
      refine o_alloc 9 [(AV.lit (.bool false)), (AV.lit (.slice none 0 0))] Gd.none Xf2_tO36 rfl rfl rfl ?_
      refine o_store [(9, (AO.var 36 [(bp ((((lineZ m (v)).mul) * ((lineZ m (u)).mul)) < 0)), (AV.sl 1 (ns .i64 (digs ((((lineZ m (v)).mul) * ((lineZ m (u)).mul))).natAbs)))])), (8, (AO.var 41 [(AV.lit (.string ((lineT (lineZ m ((u) ++ (v)))).mul))), (AV.lit (.string ((lineT (lineZ m ((u) ++ (v)))).add))), (AV.lit (.string ((lineT (lineZ m ((u) ++ (v)))).div)))])), (7, (AO.var 41 [(AV.lit (.string ((lineT (lineZ m (v))).mul))), (AV.lit (.string ((lineT (lineZ m (v))).add))), (AV.lit (.string ((lineT (lineZ m (v))).div)))])), (6, (AO.var 41 [(AV.lit (.string ((lineT (lineZ m (u))).mul))), (AV.lit (.string ((lineT (lineZ m (u))).add))), (AV.lit (.string ((lineT (lineZ m (u))).div)))])), (2, (AO.var 24 [(AV.lit (.int .i64 (m.mod))), (AV.sl 1 (is .i64 (m.mul))), (AV.sl 1 (is .i64 (m.add)))]))] Gd.none Xf2_tZ36 rfl rfl rfl rfl rfl rfl ?_
      refine aops_end ⟨by kernel_rfl, ?_⟩
      refine hK11 _ ?_
      refine awp_seq fun K12 hK12 => ?_
      refine awp_regionD rfl ?_
      refine o_fieldRef 0 Gd.none Xf2_tF41_0 rfl rfl ?_
      refine o_loadS (AV.lit (.string ((lineT (lineZ m (v))).mul))) Gd.none Xf2_tS9 rfl rfl rfl ?_
      refine o_call [(AV.lit (.string ((lineT (lineZ m (v))).mul)))] (intR ((numS ((lineT (lineZ m (v))).mul)))) Gd.none Xf2_tC18 rfl (c_rParse ((lineT (lineZ m (v))).mul) (by first | assumption | exact okS_iff.1 (by assumption))) ?_
      refine n_as (v' := (intR (((lineZ m (v)).mul)))) (by simp only [lineT, numS_txt]) ?_
      refine o_fieldRef 1 Gd.none Xf2_tF41_1 rfl rfl ?_
      refine o_loadS (AV.lit (.string ((lineT (lineZ m (u))).add))) Gd.none Xf2_tS9 rfl rfl rfl ?_
      refine o_call [(AV.lit (.string ((lineT (lineZ m (u))).add)))] (intR ((numS ((lineT (lineZ m (u))).add)))) Gd.none Xf2_tC18 rfl (c_rParse ((lineT (lineZ m (u))).add) (by first | assumption | exact okS_iff.1 (by assumption))) ?_
      refine n_as (v' := (intR (((lineZ m (u)).add)))) (by simp only [lineT, numS_txt]) ?_
      refine o_call [(intR (((lineZ m (v)).mul))), (intR (((lineZ m (u)).add)))] (intR ((((lineZ m (v)).mul) * ((lineZ m (u)).add)))) Gd.none Xf2_tC37 rfl (c_rMul (((lineZ m (v)).mul)) (((lineZ m (u)).add)) (by first | assumption | omega | (simp only [Int.natAbs_neg]; omega)) (by first | assumption | omega | (simp only [Int.natAbs_neg]; omega))) ?_
      refine o_fieldRef 1 Gd.none Xf2_tF41_1 rfl rfl ?_
      refine o_loadS (AV.lit (.string ((lineT (lineZ m (v))).add))) Gd.none Xf2_tS9 rfl rfl rfl ?_
      refine o_call [(AV.lit (.string ((lineT (lineZ m (v))).add)))] (intR ((numS ((lineT (lineZ m (v))).add)))) Gd.none Xf2_tC18 rfl (c_rParse ((lineT (lineZ m (v))).add) (by first | assumption | exact okS_iff.1 (by assumption))) ?_
      refine n_as (v' := (intR (((lineZ m (v)).add)))) (by simp only [lineT, numS_txt]) ?_
      refine o_fieldRef 2 Gd.none Xf2_tF41_2 rfl rfl ?_
      refine o_loadS (AV.lit (.string ((lineT (lineZ m (u))).div))) Gd.none Xf2_tS9 rfl rfl rfl ?_
      refine o_call [(AV.lit (.string ((lineT (lineZ m (u))).div)))] (intR ((numS ((lineT (lineZ m (u))).div)))) Gd.none Xf2_tC18 rfl (c_rParse ((lineT (lineZ m (u))).div) (by first | assumption | exact okS_iff.1 (by assumption))) ?_
      refine n_as (v' := (intR (((lineZ m (u)).div)))) (by simp only [lineT, numS_txt]) ?_
      refine o_call [(intR (((lineZ m (v)).add))), (intR (((lineZ m (u)).div)))] (intR ((((lineZ m (v)).add) * ((lineZ m (u)).div)))) Gd.none Xf2_tC37 rfl (c_rMul (((lineZ m (v)).add)) (((lineZ m (u)).div)) (by first | assumption | omega | (simp only [Int.natAbs_neg]; omega)) (by first | assumption | omega | (simp only [Int.natAbs_neg]; omega))) ?_
      refine o_call [(intR ((((lineZ m (v)).mul) * ((lineZ m (u)).add)))), (intR ((((lineZ m (v)).add) * ((lineZ m (u)).div))))] (intR (((((lineZ m (v)).mul) * ((lineZ m (u)).add)) + (((lineZ m (v)).add) * ((lineZ m (u)).div))))) Gd.none Xf2_tC34 rfl (c_rAdd ((((lineZ m (v)).mul) * ((lineZ m (u)).add))) ((((lineZ m (v)).add) * ((lineZ m (u)).div))) (by first | assumption | omega | (simp only [Int.natAbs_neg]; omega)) (by first | assumption | omega | (simp only [Int.natAbs_neg]; omega))) ?_
      refine o_alloc 10 [(AV.lit (.bool false)), (AV.lit (.slice none 0 0))] Gd.none Xf2_tO36 rfl rfl rfl ?_
      refine o_store [(10, (AO.var 36 [(bp (((((lineZ m (v)).mul) * ((lineZ m (u)).add)) + (((lineZ m (v)).add) * ((lineZ m (u)).div))) < 0)), (AV.sl 1 (ns .i64 (digs (((((lineZ m (v)).mul) * ((lineZ m (u)).add)) + (((lineZ m (v)).add) * ((lineZ m (u)).div)))).natAbs)))])), (9, (AO.var 36 [(bp ((((lineZ m (v)).mul) * ((lineZ m (u)).mul)) < 0)), (AV.sl 1 (ns .i64 (digs ((((lineZ m (v)).mul) * ((lineZ m (u)).mul))).natAbs)))])), (8, (AO.var 41 [(AV.lit (.string ((lineT (lineZ m ((u) ++ (v)))).mul))), (AV.lit (.string ((lineT (lineZ m ((u) ++ (v)))).add))), (AV.lit (.string ((lineT (lineZ m ((u) ++ (v)))).div)))])), (7, (AO.var 41 [(AV.lit (.string ((lineT (lineZ m (v))).mul))), (AV.lit (.string ((lineT (lineZ m (v))).add))), (AV.lit (.string ((lineT (lineZ m (v))).div)))])), (6, (AO.var 41 [(AV.lit (.string ((lineT (lineZ m (u))).mul))), (AV.lit (.string ((lineT (lineZ m (u))).add))), (AV.lit (.string ((lineT (lineZ m (u))).div)))])), (2, (AO.var 24 [(AV.lit (.int .i64 (m.mod))), (AV.sl 1 (is .i64 (m.mul))), (AV.sl 1 (is .i64 (m.add)))]))] Gd.none Xf2_tZ36 rfl rfl rfl rfl rfl rfl ?_
      refine aops_end ⟨by kernel_rfl, ?_⟩
      refine hK12 _ ?_
      refine awp_seq fun K13 hK13 => ?_
      refine awp_regionD rfl ?_
      refine o_fieldRef 2 Gd.none Xf2_tF41_2 rfl rfl ?_
      refine o_loadS (AV.lit (.string ((lineT (lineZ m (u))).div))) Gd.none Xf2_tS9 rfl rfl rfl ?_
      refine o_call [(AV.lit (.string ((lineT (lineZ m (u))).div)))] (intR ((numS ((lineT (lineZ m (u))).div)))) Gd.none Xf2_tC18 rfl (c_rParse ((lineT (lineZ m (u))).div) (by first | assumption | exact okS_iff.1 (by assumption))) ?_
      refine n_as (v' := (intR (((lineZ m (u)).div)))) (by simp only [lineT, numS_txt]) ?_
      refine o_fieldRef 2 Gd.none Xf2_tF41_2 rfl rfl ?_
      refine o_loadS (AV.lit (.string ((lineT (lineZ m (v))).div))) Gd.none Xf2_tS9 rfl rfl rfl ?_
      refine o_call [(AV.lit (.string ((lineT (lineZ m (v))).div)))] (intR ((numS ((lineT (lineZ m (v))).div)))) Gd.none Xf2_tC18 rfl (c_rParse ((lineT (lineZ m (v))).div) (by first | assumption | exact okS_iff.1 (by assumption))) ?_
      refine n_as (v' := (intR (((lineZ m (v)).div)))) (by simp only [lineT, numS_txt]) ?_
      refine o_call [(intR (((lineZ m (u)).div))), (intR (((lineZ m (v)).div)))] (intR ((((lineZ m (u)).div) * ((lineZ m (v)).div)))) Gd.none Xf2_tC37 rfl (c_rMul (((lineZ m (u)).div)) (((lineZ m (v)).div)) (by first | assumption | omega | (simp only [Int.natAbs_neg]; omega)) (by first | assumption | omega | (simp only [Int.natAbs_neg]; omega))) ?_
      refine o_alloc 11 [(AV.lit (.bool false)), (AV.lit (.slice none 0 0))] Gd.none Xf2_tO36 rfl rfl rfl ?_
      refine o_store [(11, (AO.var 36 [(bp ((((lineZ m (u)).div) * ((lineZ m (v)).div)) < 0)), (AV.sl 1 (ns .i64 (digs ((((lineZ m (u)).div) * ((lineZ m (v)).div))).natAbs)))])), (10, (AO.var 36 [(bp (((((lineZ m (v)).mul) * ((lineZ m (u)).add)) + (((lineZ m (v)).add) * ((lineZ m (u)).div))) < 0)), (AV.sl 1 (ns .i64 (digs (((((lineZ m (v)).mul) * ((lineZ m (u)).add)) + (((lineZ m (v)).add) * ((lineZ m (u)).div)))).natAbs)))])), (9, (AO.var 36 [(bp ((((lineZ m (v)).mul) * ((lineZ m (u)).mul)) < 0)), (AV.sl 1 (ns .i64 (digs ((((lineZ m (v)).mul) * ((lineZ m (u)).mul))).natAbs)))])), (8, (AO.var 41 [(AV.lit (.string ((lineT (lineZ m ((u) ++ (v)))).mul))), (AV.lit (.string ((lineT (lineZ m ((u) ++ (v)))).add))), (AV.lit (.string ((lineT (lineZ m ((u) ++ (v)))).div)))])), (7, (AO.var 41 [(AV.lit (.string ((lineT (lineZ m (v))).mul))), (AV.lit (.string ((lineT (lineZ m (v))).add))), (AV.lit (.string ((lineT (lineZ m (v))).div)))])), (6, (AO.var 41 [(AV.lit (.string ((lineT (lineZ m (u))).mul))), (AV.lit (.string ((lineT (lineZ m (u))).add))), (AV.lit (.string ((lineT (lineZ m (u))).div)))])), (2, (AO.var 24 [(AV.lit (.int .i64 (m.mod))), (AV.sl 1 (is .i64 (m.mul))), (AV.sl 1 (is .i64 (m.add)))]))] Gd.none Xf2_tZ36 rfl rfl rfl rfl rfl rfl ?_
      refine aops_end ⟨by kernel_rfl, ?_⟩
      refine hK13 _ ?_
      refine awp_seq fun K14 hK14 => ?_
      refine awp_regionD rfl ?_
      refine o_fieldRef 0 Gd.none Xf2_tF41_0 rfl rfl ?_
      refine o_loadS (AV.lit (.string ((lineT (lineZ m ((u) ++ (v)))).mul))) Gd.none Xf2_tS9 rfl rfl rfl ?_
      refine n_as (v' := (AV.lit (.string (txt ((((lineZ m (v)).mul) * ((lineZ m (u)).mul))))))) (by exact str_as (congrArg txt (lineZ_app m u v).1)) ?_
      refine o_loadA [(bp ((((lineZ m (v)).mul) * ((lineZ m (u)).mul)) < 0)), (AV.sl 1 (ns .i64 (digs ((((lineZ m (v)).mul) * ((lineZ m (u)).mul))).natAbs)))] Gd.none Xf2_tA36 rfl rfl rfl rfl rfl ?_
      refine o_call [(AV.agg [(bp ((((lineZ m (v)).mul) * ((lineZ m (u)).mul)) < 0)), (AV.sl 1 (ns .i64 (digs ((((lineZ m (v)).mul) * ((lineZ m (u)).mul))).natAbs)))])] (AV.lit (.string (txt ((((lineZ m (v)).mul) * ((lineZ m (u)).mul)))))) Gd.none Xf2_tC27 rfl (c_rText ((((lineZ m (v)).mul) * ((lineZ m (u)).mul))) (by first | assumption | omega | (simp only [Int.natAbs_neg]; omega))) ?_
      refine o_eqlS (a := (txt ((((lineZ m (v)).mul) * ((lineZ m (u)).mul))))) (c := (txt ((((lineZ m (v)).mul) * ((lineZ m (u)).mul))))) Gd.none rfl rfl ?_
      refine o_move (bp ((txt ((((lineZ m (v)).mul) * ((lineZ m (u)).mul)))).toList = (txt ((((lineZ m (v)).mul) * ((lineZ m (u)).mul)))).toList)) Gd.none rfl ?_
      refine o_fieldRef 1 (Gd.yes rfl rfl (decide_eq_true rfl)) Xf2_tF41_1 rfl rfl ?_
      refine o_loadS (AV.lit (.string ((lineT (lineZ m ((u) ++ (v)))).add))) (Gd.yes rfl rfl (decide_eq_true rfl)) Xf2_tS9 rfl rfl rfl ?_
      refine n_as (v' := (AV.lit (.string (txt (((((lineZ m (v)).mul) * ((lineZ m (u)).add)) + (((lineZ m (v)).add) * ((lineZ m (u)).div)))))))) (by exact str_as (congrArg txt (lineZ_app m u v).2.1)) ?_
      refine o_loadA [(bp (((((lineZ m (v)).mul) * ((lineZ m (u)).add)) + (((lineZ m (v)).add) * ((lineZ m (u)).div))) < 0)), (AV.sl 1 (ns .i64 (digs (((((lineZ m (v)).mul) * ((lineZ m (u)).add)) + (((lineZ m (v)).add) * ((lineZ m (u)).div)))).natAbs)))] (Gd.yes rfl rfl (decide_eq_true rfl)) Xf2_tA36 rfl rfl rfl rfl rfl ?_
      refine o_call [(AV.agg [(bp (((((lineZ m (v)).mul) * ((lineZ m (u)).add)) + (((lineZ m (v)).add) * ((lineZ m (u)).div))) < 0)), (AV.sl 1 (ns .i64 (digs (((((lineZ m (v)).mul) * ((lineZ m (u)).add)) + (((lineZ m (v)).add) * ((lineZ m (u)).div)))).natAbs)))])] (AV.lit (.string (txt (((((lineZ m (v)).mul) * ((lineZ m (u)).add)) + (((lineZ m (v)).add) * ((lineZ m (u)).div))))))) (Gd.yes rfl rfl (decide_eq_true rfl)) Xf2_tC27 rfl (c_rText (((((lineZ m (v)).mul) * ((lineZ m (u)).add)) + (((lineZ m (v)).add) * ((lineZ m (u)).div)))) (by first | assumption | omega | (simp only [Int.natAbs_neg]; omega))) ?_
      refine o_eqlS (a := (txt (((((lineZ m (v)).mul) * ((lineZ m (u)).add)) + (((lineZ m (v)).add) * ((lineZ m (u)).div)))))) (c := (txt (((((lineZ m (v)).mul) * ((lineZ m (u)).add)) + (((lineZ m (v)).add) * ((lineZ m (u)).div)))))) (Gd.yes rfl rfl (decide_eq_true rfl)) rfl rfl ?_
      refine o_pickT (b := decide ((txt ((((lineZ m (v)).mul) * ((lineZ m (u)).mul)))).toList = (txt ((((lineZ m (v)).mul) * ((lineZ m (u)).mul)))).toList)) (bp ((txt (((((lineZ m (v)).mul) * ((lineZ m (u)).add)) + (((lineZ m (v)).add) * ((lineZ m (u)).div))))).toList = (txt (((((lineZ m (v)).mul) * ((lineZ m (u)).add)) + (((lineZ m (v)).add) * ((lineZ m (u)).div))))).toList)) Gd.none rfl (decide_eq_true rfl) rfl ?_
      refine o_move (bp ((txt (((((lineZ m (v)).mul) * ((lineZ m (u)).add)) + (((lineZ m (v)).add) * ((lineZ m (u)).div))))).toList = (txt (((((lineZ m (v)).mul) * ((lineZ m (u)).add)) + (((lineZ m (v)).add) * ((lineZ m (u)).div))))).toList)) Gd.none rfl ?_
      refine o_fieldRef 2 (Gd.yes rfl rfl (decide_eq_true rfl)) Xf2_tF41_2 rfl rfl ?_
      refine o_loadS (AV.lit (.string ((lineT (lineZ m ((u) ++ (v)))).div))) (Gd.yes rfl rfl (decide_eq_true rfl)) Xf2_tS9 rfl rfl rfl ?_
      refine n_as (v' := (AV.lit (.string (txt ((((lineZ m (u)).div) * ((lineZ m (v)).div))))))) (by exact str_as (congrArg txt (lineZ_app m u v).2.2)) ?_
      refine o_loadA [(bp ((((lineZ m (u)).div) * ((lineZ m (v)).div)) < 0)), (AV.sl 1 (ns .i64 (digs ((((lineZ m (u)).div) * ((lineZ m (v)).div))).natAbs)))] (Gd.yes rfl rfl (decide_eq_true rfl)) Xf2_tA36 rfl rfl rfl rfl rfl ?_
      refine o_call [(AV.agg [(bp ((((lineZ m (u)).div) * ((lineZ m (v)).div)) < 0)), (AV.sl 1 (ns .i64 (digs ((((lineZ m (u)).div) * ((lineZ m (v)).div))).natAbs)))])] (AV.lit (.string (txt ((((lineZ m (u)).div) * ((lineZ m (v)).div)))))) (Gd.yes rfl rfl (decide_eq_true rfl)) Xf2_tC27 rfl (c_rText ((((lineZ m (u)).div) * ((lineZ m (v)).div))) (by first | assumption | omega | (simp only [Int.natAbs_neg]; omega))) ?_
      refine o_eqlS (a := (txt ((((lineZ m (u)).div) * ((lineZ m (v)).div))))) (c := (txt ((((lineZ m (u)).div) * ((lineZ m (v)).div))))) (Gd.yes rfl rfl (decide_eq_true rfl)) rfl rfl ?_
      refine o_pickT (b := decide ((txt (((((lineZ m (v)).mul) * ((lineZ m (u)).add)) + (((lineZ m (v)).add) * ((lineZ m (u)).div))))).toList = (txt (((((lineZ m (v)).mul) * ((lineZ m (u)).add)) + (((lineZ m (v)).add) * ((lineZ m (u)).div))))).toList)) (bp ((txt ((((lineZ m (u)).div) * ((lineZ m (v)).div)))).toList = (txt ((((lineZ m (u)).div) * ((lineZ m (v)).div)))).toList)) Gd.none rfl (decide_eq_true rfl) rfl ?_
      refine o_move (bp ((txt ((((lineZ m (u)).div) * ((lineZ m (v)).div)))).toList = (txt ((((lineZ m (u)).div) * ((lineZ m (v)).div)))).toList)) Gd.none rfl ?_
      refine o_call [] (AV.lit (.bool true)) (Gd.yes rfl rfl (decide_eq_true rfl)) Xf2_tC16 rfl c_l3Awake ?_
      refine o_pickT (b := decide ((txt ((((lineZ m (u)).div) * ((lineZ m (v)).div)))).toList = (txt ((((lineZ m (u)).div) * ((lineZ m (v)).div)))).toList)) (AV.lit (.bool true)) Gd.none rfl (decide_eq_true rfl) rfl ?_
      refine o_assign (AV.lit (.bool true)) Gd.none rfl ?_
      refine aops_end ⟨by kernel_rfl, ?_⟩
      refine hK14 _ ?_
      refine awp_ret ?_
      refine post_ret ⟨[(AV.lit (.bool true))], And.intro (AV.le_refl _) (trivial), rfl, ?_⟩
      first | rfl | simp [bp]

end Go.Proofs.YtbilndahjkimkaaDoor

set_option linter.unusedVariables false
namespace Go.Proofs.YtbilndahjkimkaaDoor.wordParts
open Go Go.Ab Go.Mth Go.ChangeShapes Go.WideShapes Go.ChangeAt Go.RowKit
theorem reads (os : Os) {H : Type} (enc : TypeId × Value → H) : ∃ places, DataW.whole enc Tryd.prog ((World.laidAll Tryd.prog os laid5).forCall (fun _ _ => 0) ⟨#[], #[.agg #[.int .i64 0, .slice none 0 0, .slice none 0 0], .slice none 0 0, .slice none 0 0], []⟩).memory Tryd.f7.params.toList Rows.wordPartsSpec.vars false (#[.agg #[.int .i64 0, .slice none 0 0, .slice none 0 0], .slice none 0 0, .slice none 0 0] : Array Value).toList 8 = some ([.agg [.lit (.int .i64 0), .nil, .nil], .nil, .nil], [], places) := ⟨[], by kernel_rfl⟩
theorem met (os : Os) : laidMetH Tryd.prog laid5 ((World.laidAll Tryd.prog os laid5).forCall (fun _ _ => 0) ⟨#[], #[.agg #[.int .i64 0, .slice none 0 0, .slice none 0 0], .slice none 0 0, .slice none 0 0], []⟩).memory := (MakeChecks.laidMetH_plain _ _ _ (by kernel_rfl)).mpr (laidMet_laidAll _ (by kernel_rfl) (by kernel_rfl))
theorem specs {H : Type} (ds : List (DataW H)) (h : ds.length = 3) : (Rows.wordPartsSpec.fn H ds).results = [.lit (.bool true)] ∧ (Rows.wordPartsSpec.fn H ds).args = ds ∧ (Rows.wordPartsSpec.fn H ds).vars = [] := by
  rcases ds with _ | ⟨d0, _ | ⟨d1, _ | ⟨d2, _ | ⟨e, t⟩⟩⟩⟩ <;> simp at h <;> exact ⟨rfl, rfl, rfl⟩
set_option maxRecDepth 100000 in
theorem opened {H : Type} (enc : TypeId × Value → H) (W : World) (base : Nat) (args : Array Value) (ds : List (DataW H)) (ps : List MemPlace) (hval : ∀ (j : Nat) t v, (#[24, 22, 22] : Array TypeId)[j]? = some t → args[j]? = some v → Value.okWide Tryd.prog W .any base t v)
    (hA : DataW.TrodAll enc Tryd.prog W 0 (fun _ => true) true [24, 22, 22] args.toList ds ps) (hsz : (DataW.weightsEach Tryd.prog [24, 22, 22] ds).all (· ≤ reachBytes) = true) (hk : Rows.uptoSmall H ds = true) : ∃ xs, RepL (memOf W) xs noLoc args.toList ∧ ECalls cx 7 xs (.lit (.bool true)) := by
  obtain ⟨v0, vs0, d0, ds0, p0, q0, hargs, rfl, rfl, h0, r0⟩ := trodAll_cons hA
  obtain ⟨v1, vs1, d1, ds1, p1, q1, rfl, rfl, rfl, h1, r1⟩ := trodAll_cons r0
  obtain ⟨v2, vs2, d2, ds2, p2, q2, rfl, rfl, rfl, h2, r2⟩ := trodAll_cons r1
  obtain ⟨rfl, rfl, rfl⟩ := trodAll_nil r2
  obtain rfl : args = #[v0, v1, v2] := by cases args; simp_all
  have hbk := of_decide_eq_true hk
  simp only [Rows.uptoBulkAll] at hbk
  obtain ⟨m0, e0, b0, c0⟩ := rep_map (hval 0 24 v0 rfl rfl) h0 (fun n hn => by simpa using List.all_eq_true.1 hsz n (DataW.weights_mem_each (j := 0) rfl rfl n hn))
  obtain ⟨l1, e1, b1⟩ := rep_listU (hval 1 22 v1 rfl rfl) h1 (fun n hn => by simpa using List.all_eq_true.1 hsz n (DataW.weights_mem_each (j := 1) rfl rfl n hn))
  have u1 : l1.length ≤ 1048576 := by omega
  obtain ⟨l2, e2, b2⟩ := rep_listU (hval 2 22 v2 rfl rfl) h2 (fun n hn => by simpa using List.all_eq_true.1 hsz n (DataW.weights_mem_each (j := 2) rfl rfl n hn))
  have u2 : l2.length ≤ 1048576 := by omega
  exact ⟨[mapV m0, .sl 1 (is .i64 l1), .sl 1 (is .i64 l2)], RepL.cons e0 (RepL.cons e1 (RepL.cons e2 (by simp only [RepL]))), c_WordParts m0 l1 l2 u1 u2⟩
set_option maxRecDepth 100000 in
theorem lifted (os : Os) (started : os.Started) (H : Type) (enc : TypeId × Value → H) (F : Stop.Interp) :
    ReturnsInHanded {} Tryd.checked os 7 .any ((Rows.OpenSpec.upto Rows.wordPartsSpec).preRow enc Tryd.prog Tryd.f7 Rows.wordPartsUptoRow.domain false Rows.wordPartsUptoRow.laid) (((Rows.OpenSpec.upto Rows.wordPartsSpec).at F).post enc Tryd.prog Tryd.f7 false true false false) := by
  obtain ⟨places, hx⟩ := reads os enc
  refine lifted_ofC (cnd := some Rows.uptoSmall) (C := Tryd.checked) started cx rfl ownT (by kernel_rfl) Tryd.func7 (witness_laid #[.agg #[.int .i64 0, .slice none 0 0, .slice none 0 0], .slice none 0 0, .slice none 0 0] (by kernel_rfl) (by kernel_rfl) (by kernel_rfl) (OpenSpec.preRow_of_cond 8 hx (by kernel_rfl) (fun k hk => by cases hk; kernel_rfl) (by kernel_rfl) (met os))) laidOutT (by kernel_rfl) (tb := 4) (by kernel_rfl) u4T rfl (fun ds h => specs ds (h.trans (by kernel_rfl))) (fun W h => tabG_of h) ?_
  intro W base args ds ps hval hA hsz hcn
  exact opened enc W base args ds ps hval hA hsz (hcn _ rfl)
theorem said : Rows.WordPartsUptoSaid :=
  OpenClaim.holds_of_cond 7 Tryd.f7 rfl rfl rfl rfl rfl rfl rfl ⟨rfl, rfl, rfl, rfl, rfl⟩ rfl rfl rfl rfl rfl (by kernel_rfl) Tryd.func7 (by kernel_rfl)
    (of_decide_eq_true (by kernel_rfl)) (by unfold Func.isWrapper; first | (rw [if_pos (by decide +kernel)]; kernel_rfl) | (rw [if_neg (by decide +kernel)]; exact ⟨rfl, rfl⟩))
    (fun os started H enc _ F => by rw [OpenClaim.pre_eq_preRow]; exact lifted os started H enc F)
theorem plain (f : FuncId) (fn : Func) (hf : Tryd.pinned.checked.prog.funcNamed "katabasis/katabasislaw03.WordParts" = some f) (hfn : Tryd.pinned.checked.prog.funcs[f]? = some fn) :
    true = Tryd.pinned.checked.prog.looks [] ∧ ∀ (j : Nat) t, fn.params[j]? = some t → Tryd.pinned.checked.prog.wantsStandIn t = false := by
  obtain rfl : f = 7 := Option.some.inj ((show Tryd.prog.funcNamed "katabasis/katabasislaw03.WordParts" = some 7 by kernel_rfl).symm.trans hf) |>.symm
  obtain rfl : fn = Tryd.f7 := (Option.some.inj (Tryd.func7.symm.trans hfn)).symm
  refine ⟨by kernel_rfl, fun j t ht => ?_⟩
  rw [Tryd.params7] at ht
  have : t = 24 ∨ t = 22 := by have h := Array.mem_of_getElem? ht; simp at h; first | exact h | (rcases h with h | h | h | h <;> simp [h]) | (rcases h with h | h | h <;> simp [h]) | (rcases h with h | h <;> simp [h])
  rcases this with rfl | rfl
  · exact (show Tryd.prog.wantsStandIn 24 = false by kernel_rfl)
  · exact (show Tryd.prog.wantsStandIn 22 = false by kernel_rfl)
end Go.Proofs.YtbilndahjkimkaaDoor.wordParts
namespace Go.Proofs.YtbilndahjkimkaaDoor
open Go
theorem wordPartsUpto_holds : Rows.WordPartsUptoCardSaid :=
  Claim7.holds_tied_plain_at .later [] _ _ _ _ wordParts.said (fun _ h => by cases h) (by kernel_rfl) (fun _ h => by cases h) wordPartsUpto_row_tie rfl ⟨rfl, rfl⟩ (by kernel_rfl) rfl wordParts.plain (by kernel_rfl)
#print axioms wordPartsUpto_holds
end Go.Proofs.YtbilndahjkimkaaDoor

