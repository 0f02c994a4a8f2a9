import Derived.Test.YtkngglpnejdicaaDoorCx
set_option linter.unusedVariables false
set_option linter.unusedSimpArgs false
namespace Go.Proofs.YtkngglpnejdicaaDoor
open Go Go.Ab Go.Mth
theorem Wa_tF36_1 : tyField cx.P 36 1 = some (1, 22) := by kernel_rfl
theorem Wa_tS22 : tySc cx.P 22 = true := by kernel_rfl
theorem Wa_tU22 : cx.P.underlying 22 = some (.slice 3) := by kernel_rfl
theorem Wa_tF36_0 : tyField cx.P 36 0 = some (0, 4) := by kernel_rfl
theorem Wa_tS4 : tySc cx.P 4 = true := by kernel_rfl
theorem Wa_tF89_1 : tyField cx.P 89 1 = some (1, 87) := by kernel_rfl
theorem Wa_tS87 : tySc cx.P 87 = true := by kernel_rfl
theorem Wa_tU87 : cx.P.underlying 87 = some (.slice 122) := by kernel_rfl
theorem Wa_tF89_0 : tyField cx.P 89 0 = some (0, 4) := by kernel_rfl
theorem Wa_tO36 : tyZero cx.P 36 = some [(Go.Value.bool false), (Go.Value.slice none 0 0)] := by kernel_rfl
theorem Wa_tE22 : tyElem cx.P 22 = some (3, 1, 8) := by kernel_rfl
theorem Wa_tS3 : tySc cx.P 3 = true := by kernel_rfl
theorem Wa_tP36 : tyPlaces cx.P 36 = some (fun i => (#[(0, 1), (1, 1)] : Array (Nat × Nat))[i]?) := by kernel_rfl
theorem Wa_tZ36 : tySize cx.P 36 = some 2 := by kernel_rfl
theorem Wa_tA36 : tyAgg cx.P 36 = some 2 := by kernel_rfl
theorem Wa_tO89 : tyZero cx.P 89 = some [(Go.Value.bool false), (Go.Value.slice none 0 0)] := by kernel_rfl
theorem Wa_tE87 : tyElem cx.P 87 = some (122, 1, 4) := by kernel_rfl
theorem Wa_tS122 : tySc cx.P 122 = true := by kernel_rfl
theorem Wa_tP89 : tyPlaces cx.P 89 = some (fun i => (#[(0, 1), (1, 1)] : Array (Nat × Nat))[i]?) := by kernel_rfl
theorem Wa_tZ89 : tySize cx.P 89 = some 2 := by kernel_rfl
theorem Wa_tA89 : tyAgg cx.P 89 = some 2 := by kernel_rfl
theorem Wa_tC61 : callable cx.P 61 = true := by kernel_rfl
theorem Wa_tC79 : callable cx.P 79 = true := by kernel_rfl
theorem Wa_tC94 : callable cx.P 94 = true := by kernel_rfl
theorem Wa_tC103 : callable cx.P 103 = true := by kernel_rfl
theorem Wa_tC77 : callable cx.P 77 = true := by kernel_rfl
theorem Wa_tO3 : tyZero cx.P 3 = some [(Go.Value.int IntKind.i64 0)] := by kernel_rfl
theorem Wa_tO122 : tyZero cx.P 122 = some [(Go.Value.int IntKind.u32 0)] := by kernel_rfl
theorem Wa_tI122 : tyInt cx.P 122 = some .u32 := by kernel_rfl
theorem Wa_tI2 : tyInt cx.P 2 = some .i64 := by kernel_rfl
theorem Wa_tB4 : cx.P.underlying 4 = some .bool := by kernel_rfl
theorem Wa_tC78 : callable cx.P 78 = true := by kernel_rfl
theorem Wa_tC74 : callable cx.P 74 = true := by kernel_rfl
theorem Wa_tC80 : callable cx.P 80 = true := by kernel_rfl
theorem Wa_tC106 : callable cx.P 106 = true := by kernel_rfl
theorem Wa_tC101 : callable cx.P 101 = true := by kernel_rfl
theorem Wa_tC107 : callable cx.P 107 = true := by kernel_rfl
theorem Wa_tC81 : callable cx.P 81 = true := by kernel_rfl
theorem Wa_tC32 : callable cx.P 32 = true := by kernel_rfl
theorem Wa_tC108 : callable cx.P 108 = true := by kernel_rfl
theorem Wa_tC92 : callable cx.P 92 = true := by kernel_rfl
theorem c_rSign (z : Int) : ECalls cx 61 [(intR (z))] (.lit (.int .i64 (sgn z))) := by
  refine ecalls_of_awp Tryd.func61 (c := _) rfl (Nat.le_of_ble_eq_true rfl) ?_
  show awp cx 11 _ (postF cx Tryd.f61 _) ⟨[(0, (intR (z)))], []⟩
  refine awp_seq fun K0 hK0 => ?_
  refine awp_region rfl ?_
  refine o_box 2 [(bp (z < 0)), (AV.sl 1 (ns .i64 (digs (z).natAbs)))] Gd.none rfl rfl ?_
  refine o_assign (nm .i64 (0)) Gd.none rfl ?_
  refine aops_end ?_
  refine hK0 _ ?_
  refine awp_seq fun K1 hK1 => ?_
  refine awp_block ?_
  refine awp_seq fun K2 hK2 => ?_
  refine awp_region rfl ?_
  refine o_fieldRef 1 Gd.none Wa_tF36_1 rfl rfl ?_
  refine o_loadS (AV.sl 1 (ns .i64 (digs (z).natAbs))) Gd.none Wa_tS22 rfl rfl rfl ?_
  refine n_len (digs (z).natAbs) Gd.none Wa_tU22 rfl ?_
  refine n_eql ((digs (z).natAbs).length) (0) Gd.none rfl rfl ?_
  refine o_assign (bp (((digs (z).natAbs).length) = (0))) Gd.none rfl ?_
  refine aops_end ?_
  refine hK2 _ ?_
  refine awp_condQ (q := ((digs (z).natAbs).length) = (0)) rfl (fun h1 => ?_) (fun h1 => ?_)
  · refine awp_seq fun K3 hK3 => ?_
    refine awp_region rfl ?_
    refine o_assign (nm .i64 (0)) Gd.none rfl ?_
    refine aops_end ?_
    refine hK3 _ ?_
    refine awp_ret ?_
    refine post_ret ⟨[(nm .i64 (0))], And.intro (AV.le_refl _) (trivial), rfl, ?_⟩
    have e := digs_len_zero (n := z.natAbs)
    refine int_eq (k := .i64) ?_
    unfold sgn
    split <;> (try split) <;> omega
  · refine awp_seq fun K4 hK4 => ?_
    refine awp_region rfl ?_
    refine o_fieldRef 0 Gd.none Wa_tF36_0 rfl rfl ?_
    refine o_loadS (bp (z < 0)) Gd.none Wa_tS4 rfl rfl rfl ?_
    refine o_assign (bp (z < 0)) Gd.none rfl ?_
    refine aops_end ?_
    refine hK4 _ ?_
    refine awp_condQ (q := z < 0) rfl (fun h2 => ?_) (fun h2 => ?_)
    · refine awp_seq fun K5 hK5 => ?_
      refine awp_region rfl ?_
      refine o_assign (AV.lit (.int .i64 ((-1)))) Gd.none rfl ?_
      refine aops_end ?_
      refine hK5 _ ?_
      refine awp_ret ?_
      refine post_ret ⟨[(AV.lit (.int .i64 ((-1))))], And.intro (AV.le_refl _) (trivial), rfl, ?_⟩
      have e := digs_len_zero (n := z.natAbs)
      refine int_eq (k := .i64) ?_
      unfold sgn
      split <;> (try split) <;> omega
    · refine awp_skip ?_
      refine hK1 _ ?_
      refine awp_seq fun K6 hK6 => ?_
      refine awp_region rfl ?_
      refine o_assign (nm .i64 (1)) Gd.none rfl ?_
      refine aops_end ?_
      refine hK6 _ ?_
      refine awp_ret ?_
      refine post_ret ⟨[(nm .i64 (1))], And.intro (AV.le_refl _) (trivial), rfl, ?_⟩
      have e := digs_len_zero (n := z.natAbs)
      refine int_eq (k := .i64) ?_
      unfold sgn
      split <;> (try split) <;> omega

theorem c_wSign (z : Int) : ECalls cx 94 [(intW (z))] (.lit (.int .i64 (sgn z))) := by
  refine ecalls_of_awp Tryd.func94 (c := _) rfl (Nat.le_of_ble_eq_true rfl) ?_
  show awp cx 11 _ (postF cx Tryd.f94 _) ⟨[(0, (intW (z)))], []⟩
  refine awp_seq fun K0 hK0 => ?_
  refine awp_region rfl ?_
  refine o_box 2 [(bp (z < 0)), (AV.sl 1 (ns .u32 (digs (z).natAbs)))] Gd.none rfl rfl ?_
  refine o_assign (nm .i64 (0)) Gd.none rfl ?_
  refine aops_end ?_
  refine hK0 _ ?_
  refine awp_seq fun K1 hK1 => ?_
  refine awp_block ?_
  refine awp_seq fun K2 hK2 => ?_
  refine awp_region rfl ?_
  refine o_fieldRef 1 Gd.none Wa_tF89_1 rfl rfl ?_
  refine o_loadS (AV.sl 1 (ns .u32 (digs (z).natAbs))) Gd.none Wa_tS87 rfl rfl rfl ?_
  refine n_len (digs (z).natAbs) Gd.none Wa_tU87 rfl ?_
  refine n_eql ((digs (z).natAbs).length) (0) Gd.none rfl rfl ?_
  refine o_assign (bp (((digs (z).natAbs).length) = (0))) Gd.none rfl ?_
  refine aops_end ?_
  refine hK2 _ ?_
  refine awp_condQ (q := ((digs (z).natAbs).length) = (0)) rfl (fun h1 => ?_) (fun h1 => ?_)
  · refine awp_seq fun K3 hK3 => ?_
    refine awp_region rfl ?_
    refine o_assign (nm .i64 (0)) Gd.none rfl ?_
    refine aops_end ?_
    refine hK3 _ ?_
    refine awp_ret ?_
    refine post_ret ⟨[(nm .i64 (0))], And.intro (AV.le_refl _) (trivial), rfl, ?_⟩
    have e := digs_len_zero (n := z.natAbs)
    refine int_eq (k := .i64) ?_
    unfold sgn
    split <;> (try split) <;> omega
  · refine awp_seq fun K4 hK4 => ?_
    refine awp_region rfl ?_
    refine o_fieldRef 0 Gd.none Wa_tF89_0 rfl rfl ?_
    refine o_loadS (bp (z < 0)) Gd.none Wa_tS4 rfl rfl rfl ?_
    refine o_assign (bp (z < 0)) Gd.none rfl ?_
    refine aops_end ?_
    refine hK4 _ ?_
    refine awp_condQ (q := z < 0) rfl (fun h2 => ?_) (fun h2 => ?_)
    · refine awp_seq fun K5 hK5 => ?_
      refine awp_region rfl ?_
      refine o_assign (AV.lit (.int .i64 ((-1)))) Gd.none rfl ?_
      refine aops_end ?_
      refine hK5 _ ?_
      refine awp_ret ?_
      refine post_ret ⟨[(AV.lit (.int .i64 ((-1))))], And.intro (AV.le_refl _) (trivial), rfl, ?_⟩
      have e := digs_len_zero (n := z.natAbs)
      refine int_eq (k := .i64) ?_
      unfold sgn
      split <;> (try split) <;> omega
    · refine awp_skip ?_
      refine hK1 _ ?_
      refine awp_seq fun K6 hK6 => ?_
      refine awp_region rfl ?_
      refine o_assign (nm .i64 (1)) Gd.none rfl ?_
      refine aops_end ?_
      refine hK6 _ ?_
      refine awp_ret ?_
      refine post_ret ⟨[(nm .i64 (1))], And.intro (AV.le_refl _) (trivial), rfl, ?_⟩
      have e := digs_len_zero (n := z.natAbs)
      refine int_eq (k := .i64) ?_
      unfold sgn
      split <;> (try split) <;> omega

theorem c_rTrim (neg : Bool) (xs : List Nat) (hx : Dig xs) : ECalls cx 74 [(AV.lit (.bool (neg))), (AV.sl 1 (ns .i64 (xs)))] (intR (sg neg (val xs))) := by
  refine ecalls_of_awp Tryd.func74 (c := _) rfl (Nat.le_of_ble_eq_true rfl) ?_
  show awp cx 29 _ (postF cx Tryd.f74 _) ⟨[(0, (AV.lit (.bool (neg)))), (1, (AV.sl 1 (ns .i64 (xs))))], []⟩
  refine awp_bound (i := 1) rfl fun hb => ?_
  replace hb := n_bnd hb
  refine awp_seq fun K0 hK0 => ?_
  refine awp_region rfl ?_
  refine o_alloc 2 [(AV.lit (.bool false)), (AV.lit (.slice none 0 0))] Gd.none Wa_tO36 rfl rfl rfl ?_
  refine aops_end ?_
  refine hK0 _ ?_
  refine awp_seq fun K1 hK1 => ?_
  refine awp_region rfl ?_
  refine o_move (AV.sl 1 (ns .i64 (xs))) Gd.none rfl ?_
  refine n_len (xs) Gd.none Wa_tU22 rfl ?_
  refine o_assign (nm .i64 ((xs).length)) Gd.none rfl ?_
  refine aops_end ?_
  refine hK1 _ ?_
  refine awp_seq fun K2 hK2 => ?_
  refine awp_block ?_
  refine awp_loopR (fun κ σ => ∃ (n : Nat), (n ≤ xs.length) ∧ (val (xs.take n) = val xs) ∧ (n) = κ ∧ σ = ⟨[(0, (AV.lit (.bool (neg)))), (1, (AV.sl 1 (ns .i64 (xs)))), (4, (AV.ref 2 (0))), (5, (nm .i64 (n)))], [(2, (AO.var 36 [(AV.lit (.bool false)), (AV.lit (.slice none 0 0))]))]⟩) ⟨_, _, ⟨xs.length, (Nat.le_refl _), (by rw [List.take_length]), rfl, rfl⟩, ?wk0⟩ ?rd0
  case wk0 =>
    exact Wk.sub (And.intro (by exact rfl) (And.intro (by exact rfl) (And.intro (by exact rfl) (And.intro (by first | rfl | exact congrArg (nm _) (by omega) | exact nm_int (by omega) | exact nm_int (by simp [IntKind.wrap, IntKind.bits, IntKind.signed]; omega)) (trivial))))) (And.intro (by first | rfl | exact row_ns (by simp) | exact congrArg (fun x => some (AO.blk (.stringIter _ x))) (by omega)) (trivial))
  rintro κ _ ⟨n, hn, hv, rfl, rfl⟩
  refine awp_seq fun K3 hK3 => ?_
  refine awp_seq fun K4 hK4 => ?_
  refine awp_region rfl ?_
  refine o_move (nm .i64 (n)) Gd.none rfl ?_
  refine n_gtr (n) (0) Gd.none rfl rfl ?_
  refine o_move (bp ((0) < (n))) Gd.none rfl ?_
  refine o_splitP (q := (0) < (n)) 10 rfl (fun h1 => ?_) (fun h1 => ?_)
  · refine o_move (AV.sl 1 (ns .i64 (xs))) (Gd.yes rfl rfl (decide_eq_true h1)) rfl ?_
    refine o_move (nm .i64 (n)) (Gd.yes rfl rfl (decide_eq_true h1)) rfl ?_
    refine n_sub (n) (1) (Gd.yes rfl rfl (decide_eq_true h1)) rfl rfl (by omega) (by simp only [topOf]; omega) ?_
    refine n_index (xs) ((n) - (1)) (Gd.yes rfl rfl (decide_eq_true h1)) Wa_tE22 rfl rfl (by omega) ?_
    refine n_loadI (xs) ((n) - (1)) (Gd.yes rfl rfl (decide_eq_true h1)) Wa_tS3 rfl (by omega) ?_
    refine n_eql ((xs).getD ((n) - (1)) 0) (0) (Gd.yes rfl rfl (decide_eq_true h1)) rfl rfl ?_
    refine o_pickT (b := decide ((0) < (n))) (bp (((xs).getD ((n) - (1)) 0) = (0))) Gd.none rfl (decide_eq_true h1) rfl ?_
    refine aops_end ?_
    refine hK4 _ ?_
    refine awp_condQ (q := ((xs).getD ((n) - (1)) 0) = (0)) rfl (fun h2 => ?_) (fun h2 => ?_)
    · refine awp_skip ?_
      refine hK3 _ ?_
      refine awp_block ?_
      refine awp_region rfl ?_
      refine o_move (nm .i64 (n)) Gd.none rfl ?_
      refine n_sub (n) (1) Gd.none rfl rfl (by omega) (by simp only [topOf]; omega) ?_
      refine o_assign (nm .i64 ((n) - (1))) Gd.none rfl ?_
      refine aops_end ?_
      refine ⟨_, _, ?lt, ⟨n - 1, (by omega), (by rw [← take_getD_zero (by assumption) hn (by assumption)]; exact hv), rfl, rfl⟩, ?wk⟩
      case lt => omega
      case wk => exact Wk.sub (And.intro (by exact rfl) (And.intro (by exact rfl) (And.intro (by exact rfl) (And.intro (by first | rfl | exact congrArg (nm _) (by omega) | exact nm_int (by omega) | exact nm_int (by simp [IntKind.wrap, IntKind.bits, IntKind.signed]; omega)) (trivial))))) (And.intro (by first | rfl | exact row_ns (by simp) | exact congrArg (fun x => some (AO.blk (.stringIter _ x))) (by omega)) (trivial))
    · refine awp_exit ?_
      refine hK2 _ ?_
      refine awp_seq fun K5 hK5 => ?_
      refine awp_region rfl ?_
      refine o_move (AV.lit (.bool (neg))) Gd.none rfl ?_
      refine o_move (AV.lit (.bool (neg))) Gd.none rfl ?_
      refine o_split (b := neg) 21 rfl (fun h3 => ?_) (fun h3 => ?_)
      · refine o_move (nm .i64 (n)) (Gd.yes rfl rfl h3) rfl ?_
        refine n_gtr (n) (0) (Gd.yes rfl rfl h3) rfl rfl ?_
        refine o_pickT (b := neg) (bp ((0) < (n))) Gd.none rfl h3 rfl ?_
        refine o_move (AV.sl 1 (ns .i64 (xs))) Gd.none rfl ?_
        refine o_move (nm .i64 (n)) Gd.none rfl ?_
        refine n_slice (xs) (0) (n) Gd.none Wa_tE22 rfl rfl (hi_nm rfl) trivial (by omega) (by omega) ?_
        refine o_build [(bp ((0) < (n))), (AV.sl 1 (ns .i64 (((xs).drop (0)).take (n - 0))))] [(0, [(bp ((0) < (n)))]), (1, [(AV.sl 1 (ns .i64 (((xs).drop (0)).take (n - 0))))])] Gd.none Wa_tP36 Wa_tO36 rfl rfl rfl ?_
        refine o_store [(2, (AO.var 36 [(bp ((0) < (n))), (AV.sl 1 (ns .i64 (((xs).drop (0)).take (n - 0))))]))] Gd.none Wa_tZ36 rfl rfl rfl rfl rfl rfl ?_
        refine aops_end ?_
        refine hK5 _ ?_
        refine awp_ret ?_
        refine post_ret ⟨[(AV.agg [(bp ((0) < (n))), (AV.sl 1 (ns .i64 (((xs).drop (0)).take (n - 0))))])], And.intro ⟨2, (AO.var 36 [(bp ((0) < (n))), (AV.sl 1 (ns .i64 (((xs).drop (0)).take (n - 0))))]), rfl, rfl, rfl, Or.inl ⟨Wa_tA36, AV.le_refl _⟩⟩ (trivial), rfl, ?_⟩
        subst h3
        exact (trim_fin (k := .i64) (neg := true) hx hn hv (by first | (left; omega) | (right; assumption))).symm
      · refine o_skip (b := neg) rfl rfl h3 ?_
        refine o_skip (b := neg) rfl rfl h3 ?_
        refine o_pickF (b := neg) (AV.lit (.bool false)) Gd.none rfl h3 rfl ?_
        refine o_move (AV.sl 1 (ns .i64 (xs))) Gd.none rfl ?_
        refine o_move (nm .i64 (n)) Gd.none rfl ?_
        refine n_slice (xs) (0) (n) Gd.none Wa_tE22 rfl rfl (hi_nm rfl) trivial (by omega) (by omega) ?_
        refine o_build [(AV.lit (.bool false)), (AV.sl 1 (ns .i64 (((xs).drop (0)).take (n - 0))))] [(0, [(AV.lit (.bool false))]), (1, [(AV.sl 1 (ns .i64 (((xs).drop (0)).take (n - 0))))])] Gd.none Wa_tP36 Wa_tO36 rfl rfl rfl ?_
        refine o_store [(2, (AO.var 36 [(AV.lit (.bool false)), (AV.sl 1 (ns .i64 (((xs).drop (0)).take (n - 0))))]))] Gd.none Wa_tZ36 rfl rfl rfl rfl rfl rfl ?_
        refine aops_end ?_
        refine hK5 _ ?_
        refine awp_ret ?_
        refine post_ret ⟨[(AV.agg [(AV.lit (.bool false)), (AV.sl 1 (ns .i64 (((xs).drop (0)).take (n - 0))))])], And.intro ⟨2, (AO.var 36 [(AV.lit (.bool false)), (AV.sl 1 (ns .i64 (((xs).drop (0)).take (n - 0))))]), rfl, rfl, rfl, Or.inl ⟨Wa_tA36, AV.le_refl _⟩⟩ (trivial), rfl, ?_⟩
        subst h3
        exact (trim_fin (k := .i64) (neg := false) hx hn hv (by first | (left; omega) | (right; assumption))).symm
  · refine o_skip (b := decide ((0) < (n))) rfl rfl (decide_eq_false h1) ?_
    refine o_skip (b := decide ((0) < (n))) rfl rfl (decide_eq_false h1) ?_
    refine o_skip (b := decide ((0) < (n))) rfl rfl (decide_eq_false h1) ?_
    refine o_skip (b := decide ((0) < (n))) rfl rfl (decide_eq_false h1) ?_
    refine o_skip (b := decide ((0) < (n))) rfl rfl (decide_eq_false h1) ?_
    refine o_skip (b := decide ((0) < (n))) rfl rfl (decide_eq_false h1) ?_
    refine o_pickF (b := decide ((0) < (n))) (AV.lit (.bool false)) Gd.none rfl (decide_eq_false h1) rfl ?_
    refine aops_end ?_
    refine hK4 _ ?_
    refine awp_condB (b := false) rfl (fun hh => absurd (hh.symm.trans rfl) (by decide)) (fun _ => ?_)
    refine awp_exit ?_
    refine hK2 _ ?_
    refine awp_seq fun K6 hK6 => ?_
    refine awp_region rfl ?_
    refine o_move (AV.lit (.bool (neg))) Gd.none rfl ?_
    refine o_move (AV.lit (.bool (neg))) Gd.none rfl ?_
    refine o_split (b := neg) 21 rfl (fun h4 => ?_) (fun h4 => ?_)
    · refine o_move (nm .i64 (n)) (Gd.yes rfl rfl h4) rfl ?_
      refine n_gtr (n) (0) (Gd.yes rfl rfl h4) rfl rfl ?_
      refine o_pickT (b := neg) (bp ((0) < (n))) Gd.none rfl h4 rfl ?_
      refine o_move (AV.sl 1 (ns .i64 (xs))) Gd.none rfl ?_
      refine o_move (nm .i64 (n)) Gd.none rfl ?_
      refine n_slice (xs) (0) (n) Gd.none Wa_tE22 rfl rfl (hi_nm rfl) trivial (by omega) (by omega) ?_
      refine o_build [(bp ((0) < (n))), (AV.sl 1 (ns .i64 (((xs).drop (0)).take (n - 0))))] [(0, [(bp ((0) < (n)))]), (1, [(AV.sl 1 (ns .i64 (((xs).drop (0)).take (n - 0))))])] Gd.none Wa_tP36 Wa_tO36 rfl rfl rfl ?_
      refine o_store [(2, (AO.var 36 [(bp ((0) < (n))), (AV.sl 1 (ns .i64 (((xs).drop (0)).take (n - 0))))]))] Gd.none Wa_tZ36 rfl rfl rfl rfl rfl rfl ?_
      refine aops_end ?_
      refine hK6 _ ?_
      refine awp_ret ?_
      refine post_ret ⟨[(AV.agg [(bp ((0) < (n))), (AV.sl 1 (ns .i64 (((xs).drop (0)).take (n - 0))))])], And.intro ⟨2, (AO.var 36 [(bp ((0) < (n))), (AV.sl 1 (ns .i64 (((xs).drop (0)).take (n - 0))))]), rfl, rfl, rfl, Or.inl ⟨Wa_tA36, AV.le_refl _⟩⟩ (trivial), rfl, ?_⟩
      subst h4
      exact (trim_fin (k := .i64) (neg := true) hx hn hv (by first | (left; omega) | (right; assumption))).symm
    · refine o_skip (b := neg) rfl rfl h4 ?_
      refine o_skip (b := neg) rfl rfl h4 ?_
      refine o_pickF (b := neg) (AV.lit (.bool false)) Gd.none rfl h4 rfl ?_
      refine o_move (AV.sl 1 (ns .i64 (xs))) Gd.none rfl ?_
      refine o_move (nm .i64 (n)) Gd.none rfl ?_
      refine n_slice (xs) (0) (n) Gd.none Wa_tE22 rfl rfl (hi_nm rfl) trivial (by omega) (by omega) ?_
      refine o_build [(AV.lit (.bool false)), (AV.sl 1 (ns .i64 (((xs).drop (0)).take (n - 0))))] [(0, [(AV.lit (.bool false))]), (1, [(AV.sl 1 (ns .i64 (((xs).drop (0)).take (n - 0))))])] Gd.none Wa_tP36 Wa_tO36 rfl rfl rfl ?_
      refine o_store [(2, (AO.var 36 [(AV.lit (.bool false)), (AV.sl 1 (ns .i64 (((xs).drop (0)).take (n - 0))))]))] Gd.none Wa_tZ36 rfl rfl rfl rfl rfl rfl ?_
      refine aops_end ?_
      refine hK6 _ ?_
      refine awp_ret ?_
      refine post_ret ⟨[(AV.agg [(AV.lit (.bool false)), (AV.sl 1 (ns .i64 (((xs).drop (0)).take (n - 0))))])], And.intro ⟨2, (AO.var 36 [(AV.lit (.bool false)), (AV.sl 1 (ns .i64 (((xs).drop (0)).take (n - 0))))]), rfl, rfl, rfl, Or.inl ⟨Wa_tA36, AV.le_refl _⟩⟩ (trivial), rfl, ?_⟩
      subst h4
      exact (trim_fin (k := .i64) (neg := false) hx hn hv (by first | (left; omega) | (right; assumption))).symm

theorem c_wTrim (neg : Bool) (xs : List Nat) (hx : Dig xs) : ECalls cx 101 [(AV.lit (.bool (neg))), (AV.sl 1 (ns .u32 (xs)))] (intW (sg neg (val xs))) := by
  refine ecalls_of_awp Tryd.func101 (c := _) rfl (Nat.le_of_ble_eq_true rfl) ?_
  show awp cx 30 _ (postF cx Tryd.f101 _) ⟨[(0, (AV.lit (.bool (neg)))), (1, (AV.sl 1 (ns .u32 (xs))))], []⟩
  refine awp_bound (i := 1) rfl fun hb => ?_
  replace hb := n_bnd hb
  refine awp_seq fun K0 hK0 => ?_
  refine awp_region rfl ?_
  refine o_alloc 2 [(AV.lit (.bool false)), (AV.lit (.slice none 0 0))] Gd.none Wa_tO89 rfl rfl rfl ?_
  refine aops_end ?_
  refine hK0 _ ?_
  refine awp_seq fun K1 hK1 => ?_
  refine awp_region rfl ?_
  refine o_move (AV.sl 1 (ns .u32 (xs))) Gd.none rfl ?_
  refine n_len (xs) Gd.none Wa_tU87 rfl ?_
  refine o_assign (nm .i64 ((xs).length)) Gd.none rfl ?_
  refine aops_end ?_
  refine hK1 _ ?_
  refine awp_seq fun K2 hK2 => ?_
  refine awp_block ?_
  refine awp_loopR (fun κ σ => ∃ (n : Nat), (n ≤ xs.length) ∧ (val (xs.take n) = val xs) ∧ (n) = κ ∧ σ = ⟨[(0, (AV.lit (.bool (neg)))), (1, (AV.sl 1 (ns .u32 (xs)))), (4, (AV.ref 2 (0))), (5, (nm .i64 (n)))], [(2, (AO.var 89 [(AV.lit (.bool false)), (AV.lit (.slice none 0 0))]))]⟩) ⟨_, _, ⟨xs.length, (Nat.le_refl _), (by rw [List.take_length]), rfl, rfl⟩, ?wk0⟩ ?rd0
  case wk0 =>
    exact Wk.sub (And.intro (by exact rfl) (And.intro (by exact rfl) (And.intro (by exact rfl) (And.intro (by first | rfl | exact congrArg (nm _) (by omega) | exact nm_int (by omega) | exact nm_int (by simp [IntKind.wrap, IntKind.bits, IntKind.signed]; omega)) (trivial))))) (And.intro (by first | rfl | exact row_ns (by simp) | exact congrArg (fun x => some (AO.blk (.stringIter _ x))) (by omega)) (trivial))
  rintro κ _ ⟨n, hn, hv, rfl, rfl⟩
  refine awp_seq fun K3 hK3 => ?_
  refine awp_seq fun K4 hK4 => ?_
  refine awp_region rfl ?_
  refine o_move (nm .i64 (n)) Gd.none rfl ?_
  refine n_gtr (n) (0) Gd.none rfl rfl ?_
  refine o_move (bp ((0) < (n))) Gd.none rfl ?_
  refine o_splitP (q := (0) < (n)) 10 rfl (fun h1 => ?_) (fun h1 => ?_)
  · refine o_move (AV.sl 1 (ns .u32 (xs))) (Gd.yes rfl rfl (decide_eq_true h1)) rfl ?_
    refine o_move (nm .i64 (n)) (Gd.yes rfl rfl (decide_eq_true h1)) rfl ?_
    refine n_sub (n) (1) (Gd.yes rfl rfl (decide_eq_true h1)) rfl rfl (by omega) (by simp only [topOf]; omega) ?_
    refine n_index (xs) ((n) - (1)) (Gd.yes rfl rfl (decide_eq_true h1)) Wa_tE87 rfl rfl (by omega) ?_
    refine n_loadI (xs) ((n) - (1)) (Gd.yes rfl rfl (decide_eq_true h1)) Wa_tS122 rfl (by omega) ?_
    refine n_eql ((xs).getD ((n) - (1)) 0) (0) (Gd.yes rfl rfl (decide_eq_true h1)) rfl rfl ?_
    refine o_pickT (b := decide ((0) < (n))) (bp (((xs).getD ((n) - (1)) 0) = (0))) Gd.none rfl (decide_eq_true h1) rfl ?_
    refine aops_end ?_
    refine hK4 _ ?_
    refine awp_condQ (q := ((xs).getD ((n) - (1)) 0) = (0)) rfl (fun h2 => ?_) (fun h2 => ?_)
    · refine awp_skip ?_
      refine hK3 _ ?_
      refine awp_block ?_
      refine awp_region rfl ?_
      refine o_move (nm .i64 (n)) Gd.none rfl ?_
      refine n_sub (n) (1) Gd.none rfl rfl (by omega) (by simp only [topOf]; omega) ?_
      refine o_assign (nm .i64 ((n) - (1))) Gd.none rfl ?_
      refine aops_end ?_
      refine ⟨_, _, ?lt, ⟨n - 1, (by omega), (by rw [← take_getD_zero (by assumption) hn (by assumption)]; exact hv), rfl, rfl⟩, ?wk⟩
      case lt => omega
      case wk => exact Wk.sub (And.intro (by exact rfl) (And.intro (by exact rfl) (And.intro (by exact rfl) (And.intro (by first | rfl | exact congrArg (nm _) (by omega) | exact nm_int (by omega) | exact nm_int (by simp [IntKind.wrap, IntKind.bits, IntKind.signed]; omega)) (trivial))))) (And.intro (by first | rfl | exact row_ns (by simp) | exact congrArg (fun x => some (AO.blk (.stringIter _ x))) (by omega)) (trivial))
    · refine awp_exit ?_
      refine hK2 _ ?_
      refine awp_seq fun K5 hK5 => ?_
      refine awp_region rfl ?_
      refine o_move (AV.lit (.bool (neg))) Gd.none rfl ?_
      refine o_move (AV.lit (.bool (neg))) Gd.none rfl ?_
      refine o_split (b := neg) 21 rfl (fun h3 => ?_) (fun h3 => ?_)
      · refine o_move (nm .i64 (n)) (Gd.yes rfl rfl h3) rfl ?_
        refine n_gtr (n) (0) (Gd.yes rfl rfl h3) rfl rfl ?_
        refine o_pickT (b := neg) (bp ((0) < (n))) Gd.none rfl h3 rfl ?_
        refine o_move (AV.sl 1 (ns .u32 (xs))) Gd.none rfl ?_
        refine o_move (nm .i64 (n)) Gd.none rfl ?_
        refine o_move (nm .i64 (n)) Gd.none rfl ?_
        refine n_slice (xs) (0) (n) Gd.none Wa_tE87 rfl rfl (hi_nm rfl) (mx_nm rfl) (by omega) (by omega) ?_
        refine o_build [(bp ((0) < (n))), (AV.sl 1 (ns .u32 (((xs).drop (0)).take (n - 0))))] [(0, [(bp ((0) < (n)))]), (1, [(AV.sl 1 (ns .u32 (((xs).drop (0)).take (n - 0))))])] Gd.none Wa_tP89 Wa_tO89 rfl rfl rfl ?_
        refine o_store [(2, (AO.var 89 [(bp ((0) < (n))), (AV.sl 1 (ns .u32 (((xs).drop (0)).take (n - 0))))]))] Gd.none Wa_tZ89 rfl rfl rfl rfl rfl rfl ?_
        refine aops_end ?_
        refine hK5 _ ?_
        refine awp_ret ?_
        refine post_ret ⟨[(AV.agg [(bp ((0) < (n))), (AV.sl 1 (ns .u32 (((xs).drop (0)).take (n - 0))))])], And.intro ⟨2, (AO.var 89 [(bp ((0) < (n))), (AV.sl 1 (ns .u32 (((xs).drop (0)).take (n - 0))))]), rfl, rfl, rfl, Or.inl ⟨Wa_tA89, AV.le_refl _⟩⟩ (trivial), rfl, ?_⟩
        subst h3
        exact (trim_fin (k := .u32) (neg := true) hx hn hv (by first | (left; omega) | (right; assumption))).symm
      · refine o_skip (b := neg) rfl rfl h3 ?_
        refine o_skip (b := neg) rfl rfl h3 ?_
        refine o_pickF (b := neg) (AV.lit (.bool false)) Gd.none rfl h3 rfl ?_
        refine o_move (AV.sl 1 (ns .u32 (xs))) Gd.none rfl ?_
        refine o_move (nm .i64 (n)) Gd.none rfl ?_
        refine o_move (nm .i64 (n)) Gd.none rfl ?_
        refine n_slice (xs) (0) (n) Gd.none Wa_tE87 rfl rfl (hi_nm rfl) (mx_nm rfl) (by omega) (by omega) ?_
        refine o_build [(AV.lit (.bool false)), (AV.sl 1 (ns .u32 (((xs).drop (0)).take (n - 0))))] [(0, [(AV.lit (.bool false))]), (1, [(AV.sl 1 (ns .u32 (((xs).drop (0)).take (n - 0))))])] Gd.none Wa_tP89 Wa_tO89 rfl rfl rfl ?_
        refine o_store [(2, (AO.var 89 [(AV.lit (.bool false)), (AV.sl 1 (ns .u32 (((xs).drop (0)).take (n - 0))))]))] Gd.none Wa_tZ89 rfl rfl rfl rfl rfl rfl ?_
        refine aops_end ?_
        refine hK5 _ ?_
        refine awp_ret ?_
        refine post_ret ⟨[(AV.agg [(AV.lit (.bool false)), (AV.sl 1 (ns .u32 (((xs).drop (0)).take (n - 0))))])], And.intro ⟨2, (AO.var 89 [(AV.lit (.bool false)), (AV.sl 1 (ns .u32 (((xs).drop (0)).take (n - 0))))]), rfl, rfl, rfl, Or.inl ⟨Wa_tA89, AV.le_refl _⟩⟩ (trivial), rfl, ?_⟩
        subst h3
        exact (trim_fin (k := .u32) (neg := false) hx hn hv (by first | (left; omega) | (right; assumption))).symm
  · refine o_skip (b := decide ((0) < (n))) rfl rfl (decide_eq_false h1) ?_
    refine o_skip (b := decide ((0) < (n))) rfl rfl (decide_eq_false h1) ?_
    refine o_skip (b := decide ((0) < (n))) rfl rfl (decide_eq_false h1) ?_
    refine o_skip (b := decide ((0) < (n))) rfl rfl (decide_eq_false h1) ?_
    refine o_skip (b := decide ((0) < (n))) rfl rfl (decide_eq_false h1) ?_
    refine o_skip (b := decide ((0) < (n))) rfl rfl (decide_eq_false h1) ?_
    refine o_pickF (b := decide ((0) < (n))) (AV.lit (.bool false)) Gd.none rfl (decide_eq_false h1) rfl ?_
    refine aops_end ?_
    refine hK4 _ ?_
    refine awp_condB (b := false) rfl (fun hh => absurd (hh.symm.trans rfl) (by decide)) (fun _ => ?_)
    refine awp_exit ?_
    refine hK2 _ ?_
    refine awp_seq fun K6 hK6 => ?_
    refine awp_region rfl ?_
    refine o_move (AV.lit (.bool (neg))) Gd.none rfl ?_
    refine o_move (AV.lit (.bool (neg))) Gd.none rfl ?_
    refine o_split (b := neg) 21 rfl (fun h4 => ?_) (fun h4 => ?_)
    · refine o_move (nm .i64 (n)) (Gd.yes rfl rfl h4) rfl ?_
      refine n_gtr (n) (0) (Gd.yes rfl rfl h4) rfl rfl ?_
      refine o_pickT (b := neg) (bp ((0) < (n))) Gd.none rfl h4 rfl ?_
      refine o_move (AV.sl 1 (ns .u32 (xs))) Gd.none rfl ?_
      refine o_move (nm .i64 (n)) Gd.none rfl ?_
      refine o_move (nm .i64 (n)) Gd.none rfl ?_
      refine n_slice (xs) (0) (n) Gd.none Wa_tE87 rfl rfl (hi_nm rfl) (mx_nm rfl) (by omega) (by omega) ?_
      refine o_build [(bp ((0) < (n))), (AV.sl 1 (ns .u32 (((xs).drop (0)).take (n - 0))))] [(0, [(bp ((0) < (n)))]), (1, [(AV.sl 1 (ns .u32 (((xs).drop (0)).take (n - 0))))])] Gd.none Wa_tP89 Wa_tO89 rfl rfl rfl ?_
      refine o_store [(2, (AO.var 89 [(bp ((0) < (n))), (AV.sl 1 (ns .u32 (((xs).drop (0)).take (n - 0))))]))] Gd.none Wa_tZ89 rfl rfl rfl rfl rfl rfl ?_
      refine aops_end ?_
      refine hK6 _ ?_
      refine awp_ret ?_
      refine post_ret ⟨[(AV.agg [(bp ((0) < (n))), (AV.sl 1 (ns .u32 (((xs).drop (0)).take (n - 0))))])], And.intro ⟨2, (AO.var 89 [(bp ((0) < (n))), (AV.sl 1 (ns .u32 (((xs).drop (0)).take (n - 0))))]), rfl, rfl, rfl, Or.inl ⟨Wa_tA89, AV.le_refl _⟩⟩ (trivial), rfl, ?_⟩
      subst h4
      exact (trim_fin (k := .u32) (neg := true) hx hn hv (by first | (left; omega) | (right; assumption))).symm
    · refine o_skip (b := neg) rfl rfl h4 ?_
      refine o_skip (b := neg) rfl rfl h4 ?_
      refine o_pickF (b := neg) (AV.lit (.bool false)) Gd.none rfl h4 rfl ?_
      refine o_move (AV.sl 1 (ns .u32 (xs))) Gd.none rfl ?_
      refine o_move (nm .i64 (n)) Gd.none rfl ?_
      refine o_move (nm .i64 (n)) Gd.none rfl ?_
      refine n_slice (xs) (0) (n) Gd.none Wa_tE87 rfl rfl (hi_nm rfl) (mx_nm rfl) (by omega) (by omega) ?_
      refine o_build [(AV.lit (.bool false)), (AV.sl 1 (ns .u32 (((xs).drop (0)).take (n - 0))))] [(0, [(AV.lit (.bool false))]), (1, [(AV.sl 1 (ns .u32 (((xs).drop (0)).take (n - 0))))])] Gd.none Wa_tP89 Wa_tO89 rfl rfl rfl ?_
      refine o_store [(2, (AO.var 89 [(AV.lit (.bool false)), (AV.sl 1 (ns .u32 (((xs).drop (0)).take (n - 0))))]))] Gd.none Wa_tZ89 rfl rfl rfl rfl rfl rfl ?_
      refine aops_end ?_
      refine hK6 _ ?_
      refine awp_ret ?_
      refine post_ret ⟨[(AV.agg [(AV.lit (.bool false)), (AV.sl 1 (ns .u32 (((xs).drop (0)).take (n - 0))))])], And.intro ⟨2, (AO.var 89 [(AV.lit (.bool false)), (AV.sl 1 (ns .u32 (((xs).drop (0)).take (n - 0))))]), rfl, rfl, rfl, Or.inl ⟨Wa_tA89, AV.le_refl _⟩⟩ (trivial), rfl, ?_⟩
      subst h4
      exact (trim_fin (k := .u32) (neg := false) hx hn hv (by first | (left; omega) | (right; assumption))).symm

theorem c_rMinus (z : Int) : ECalls cx 81 [(intR (z))] (intR ((-z))) := by
  refine ecalls_of_awp Tryd.func81 (c := _) rfl (Nat.le_of_ble_eq_true rfl) ?_
  show awp cx 15 _ (postF cx Tryd.f81 _) ⟨[(0, (intR (z)))], []⟩
  refine awp_seq fun K0 hK0 => ?_
  refine awp_region rfl ?_
  refine o_box 2 [(bp (z < 0)), (AV.sl 1 (ns .i64 (digs (z).natAbs)))] Gd.none rfl rfl ?_
  refine o_alloc 3 [(AV.lit (.bool false)), (AV.lit (.slice none 0 0))] Gd.none Wa_tO36 rfl rfl rfl ?_
  refine aops_end ?_
  refine hK0 _ ?_
  refine awp_seq fun K1 hK1 => ?_
  refine awp_region rfl ?_
  refine o_fieldRef 0 Gd.none Wa_tF36_0 rfl rfl ?_
  refine o_loadS (bp (z < 0)) Gd.none Wa_tS4 rfl rfl rfl ?_
  refine o_notP (q := z < 0) Gd.none rfl ?_
  refine o_move (bp (¬ (z < 0))) Gd.none rfl ?_
  refine o_splitP (q := ¬ (z < 0)) 6 rfl (fun h1 => ?_) (fun h1 => ?_)
  · refine o_fieldRef 1 (Gd.yes rfl rfl (decide_eq_true h1)) Wa_tF36_1 rfl rfl ?_
    refine o_loadS (AV.sl 1 (ns .i64 (digs (z).natAbs))) (Gd.yes rfl rfl (decide_eq_true h1)) Wa_tS22 rfl rfl rfl ?_
    refine n_len (digs (z).natAbs) (Gd.yes rfl rfl (decide_eq_true h1)) Wa_tU22 rfl ?_
    refine n_gtr ((digs (z).natAbs).length) (0) (Gd.yes rfl rfl (decide_eq_true h1)) rfl rfl ?_
    refine o_pickT (b := decide (¬ (z < 0))) (bp ((0) < ((digs (z).natAbs).length))) Gd.none rfl (decide_eq_true h1) rfl ?_
    refine o_fieldRef 1 Gd.none Wa_tF36_1 rfl rfl ?_
    refine o_loadS (AV.sl 1 (ns .i64 (digs (z).natAbs))) Gd.none Wa_tS22 rfl rfl rfl ?_
    refine o_build [(bp ((0) < ((digs (z).natAbs).length))), (AV.sl 1 (ns .i64 (digs (z).natAbs)))] [(0, [(bp ((0) < ((digs (z).natAbs).length)))]), (1, [(AV.sl 1 (ns .i64 (digs (z).natAbs)))])] Gd.none Wa_tP36 Wa_tO36 rfl rfl rfl ?_
    refine o_store [(3, (AO.var 36 [(bp ((0) < ((digs (z).natAbs).length))), (AV.sl 1 (ns .i64 (digs (z).natAbs)))])), (2, (AO.var 36 [(bp (z < 0)), (AV.sl 1 (ns .i64 (digs (z).natAbs)))]))] Gd.none Wa_tZ36 rfl rfl rfl rfl rfl rfl ?_
    refine aops_end ?_
    refine hK1 _ ?_
    refine awp_ret ?_
    refine post_ret ⟨[(AV.agg [(bp ((0) < ((digs (z).natAbs).length))), (AV.sl 1 (ns .i64 (digs (z).natAbs)))])], And.intro ⟨3, (AO.var 36 [(bp ((0) < ((digs (z).natAbs).length))), (AV.sl 1 (ns .i64 (digs (z).natAbs)))]), rfl, rfl, rfl, Or.inl ⟨Wa_tA36, AV.le_refl _⟩⟩ (trivial), rfl, ?_⟩
    exact (minus_fin1 (k := .i64) h1).symm
  · refine o_skip (b := decide (¬ (z < 0))) rfl rfl (decide_eq_false h1) ?_
    refine o_skip (b := decide (¬ (z < 0))) rfl rfl (decide_eq_false h1) ?_
    refine o_skip (b := decide (¬ (z < 0))) rfl rfl (decide_eq_false h1) ?_
    refine o_skip (b := decide (¬ (z < 0))) rfl rfl (decide_eq_false h1) ?_
    refine o_pickF (b := decide (¬ (z < 0))) (AV.lit (.bool false)) Gd.none rfl (decide_eq_false h1) rfl ?_
    refine o_fieldRef 1 Gd.none Wa_tF36_1 rfl rfl ?_
    refine o_loadS (AV.sl 1 (ns .i64 (digs (z).natAbs))) Gd.none Wa_tS22 rfl rfl rfl ?_
    refine o_build [(AV.lit (.bool false)), (AV.sl 1 (ns .i64 (digs (z).natAbs)))] [(0, [(AV.lit (.bool false))]), (1, [(AV.sl 1 (ns .i64 (digs (z).natAbs)))])] Gd.none Wa_tP36 Wa_tO36 rfl rfl rfl ?_
    refine o_store [(3, (AO.var 36 [(AV.lit (.bool false)), (AV.sl 1 (ns .i64 (digs (z).natAbs)))])), (2, (AO.var 36 [(bp (z < 0)), (AV.sl 1 (ns .i64 (digs (z).natAbs)))]))] Gd.none Wa_tZ36 rfl rfl rfl rfl rfl rfl ?_
    refine aops_end ?_
    refine hK1 _ ?_
    refine awp_ret ?_
    refine post_ret ⟨[(AV.agg [(AV.lit (.bool false)), (AV.sl 1 (ns .i64 (digs (z).natAbs)))])], And.intro ⟨3, (AO.var 36 [(AV.lit (.bool false)), (AV.sl 1 (ns .i64 (digs (z).natAbs)))]), rfl, rfl, rfl, Or.inl ⟨Wa_tA36, AV.le_refl _⟩⟩ (trivial), rfl, ?_⟩
    exact (minus_fin2 (k := .i64) h1).symm

theorem c_wMinus (z : Int) : ECalls cx 108 [(intW (z))] (intW ((-z))) := by
  refine ecalls_of_awp Tryd.func108 (c := _) rfl (Nat.le_of_ble_eq_true rfl) ?_
  show awp cx 15 _ (postF cx Tryd.f108 _) ⟨[(0, (intW (z)))], []⟩
  refine awp_seq fun K0 hK0 => ?_
  refine awp_region rfl ?_
  refine o_box 2 [(bp (z < 0)), (AV.sl 1 (ns .u32 (digs (z).natAbs)))] Gd.none rfl rfl ?_
  refine o_alloc 3 [(AV.lit (.bool false)), (AV.lit (.slice none 0 0))] Gd.none Wa_tO89 rfl rfl rfl ?_
  refine aops_end ?_
  refine hK0 _ ?_
  refine awp_seq fun K1 hK1 => ?_
  refine awp_region rfl ?_
  refine o_fieldRef 0 Gd.none Wa_tF89_0 rfl rfl ?_
  refine o_loadS (bp (z < 0)) Gd.none Wa_tS4 rfl rfl rfl ?_
  refine o_notP (q := z < 0) Gd.none rfl ?_
  refine o_move (bp (¬ (z < 0))) Gd.none rfl ?_
  refine o_splitP (q := ¬ (z < 0)) 6 rfl (fun h1 => ?_) (fun h1 => ?_)
  · refine o_fieldRef 1 (Gd.yes rfl rfl (decide_eq_true h1)) Wa_tF89_1 rfl rfl ?_
    refine o_loadS (AV.sl 1 (ns .u32 (digs (z).natAbs))) (Gd.yes rfl rfl (decide_eq_true h1)) Wa_tS87 rfl rfl rfl ?_
    refine n_len (digs (z).natAbs) (Gd.yes rfl rfl (decide_eq_true h1)) Wa_tU87 rfl ?_
    refine n_gtr ((digs (z).natAbs).length) (0) (Gd.yes rfl rfl (decide_eq_true h1)) rfl rfl ?_
    refine o_pickT (b := decide (¬ (z < 0))) (bp ((0) < ((digs (z).natAbs).length))) Gd.none rfl (decide_eq_true h1) rfl ?_
    refine o_fieldRef 1 Gd.none Wa_tF89_1 rfl rfl ?_
    refine o_loadS (AV.sl 1 (ns .u32 (digs (z).natAbs))) Gd.none Wa_tS87 rfl rfl rfl ?_
    refine o_build [(bp ((0) < ((digs (z).natAbs).length))), (AV.sl 1 (ns .u32 (digs (z).natAbs)))] [(0, [(bp ((0) < ((digs (z).natAbs).length)))]), (1, [(AV.sl 1 (ns .u32 (digs (z).natAbs)))])] Gd.none Wa_tP89 Wa_tO89 rfl rfl rfl ?_
    refine o_store [(3, (AO.var 89 [(bp ((0) < ((digs (z).natAbs).length))), (AV.sl 1 (ns .u32 (digs (z).natAbs)))])), (2, (AO.var 89 [(bp (z < 0)), (AV.sl 1 (ns .u32 (digs (z).natAbs)))]))] Gd.none Wa_tZ89 rfl rfl rfl rfl rfl rfl ?_
    refine aops_end ?_
    refine hK1 _ ?_
    refine awp_ret ?_
    refine post_ret ⟨[(AV.agg [(bp ((0) < ((digs (z).natAbs).length))), (AV.sl 1 (ns .u32 (digs (z).natAbs)))])], And.intro ⟨3, (AO.var 89 [(bp ((0) < ((digs (z).natAbs).length))), (AV.sl 1 (ns .u32 (digs (z).natAbs)))]), rfl, rfl, rfl, Or.inl ⟨Wa_tA89, AV.le_refl _⟩⟩ (trivial), rfl, ?_⟩
    exact (minus_fin1 (k := .u32) h1).symm
  · refine o_skip (b := decide (¬ (z < 0))) rfl rfl (decide_eq_false h1) ?_
    refine o_skip (b := decide (¬ (z < 0))) rfl rfl (decide_eq_false h1) ?_
    refine o_skip (b := decide (¬ (z < 0))) rfl rfl (decide_eq_false h1) ?_
    refine o_skip (b := decide (¬ (z < 0))) rfl rfl (decide_eq_false h1) ?_
    refine o_pickF (b := decide (¬ (z < 0))) (AV.lit (.bool false)) Gd.none rfl (decide_eq_false h1) rfl ?_
    refine o_fieldRef 1 Gd.none Wa_tF89_1 rfl rfl ?_
    refine o_loadS (AV.sl 1 (ns .u32 (digs (z).natAbs))) Gd.none Wa_tS87 rfl rfl rfl ?_
    refine o_build [(AV.lit (.bool false)), (AV.sl 1 (ns .u32 (digs (z).natAbs)))] [(0, [(AV.lit (.bool false))]), (1, [(AV.sl 1 (ns .u32 (digs (z).natAbs)))])] Gd.none Wa_tP89 Wa_tO89 rfl rfl rfl ?_
    refine o_store [(3, (AO.var 89 [(AV.lit (.bool false)), (AV.sl 1 (ns .u32 (digs (z).natAbs)))])), (2, (AO.var 89 [(bp (z < 0)), (AV.sl 1 (ns .u32 (digs (z).natAbs)))]))] Gd.none Wa_tZ89 rfl rfl rfl rfl rfl rfl ?_
    refine aops_end ?_
    refine hK1 _ ?_
    refine awp_ret ?_
    refine post_ret ⟨[(AV.agg [(AV.lit (.bool false)), (AV.sl 1 (ns .u32 (digs (z).natAbs)))])], And.intro ⟨3, (AO.var 89 [(AV.lit (.bool false)), (AV.sl 1 (ns .u32 (digs (z).natAbs)))]), rfl, rfl, rfl, Or.inl ⟨Wa_tA89, AV.le_refl _⟩⟩ (trivial), rfl, ?_⟩
    exact (minus_fin2 (k := .u32) h1).symm

theorem c_rSize (m n : Nat) : ECalls cx 79 [(AV.sl 1 (ns .i64 (digs m))), (AV.sl 1 (ns .i64 (digs n)))] (.lit (.int .i64 (cmpN m n))) := by
  refine ecalls_of_awp Tryd.func79 (c := _) rfl (Nat.le_of_ble_eq_true rfl) ?_
  show awp cx 41 _ (postF cx Tryd.f79 _) ⟨[(0, (AV.sl 1 (ns .i64 (digs m)))), (1, (AV.sl 1 (ns .i64 (digs n))))], []⟩
  refine awp_bound (i := 0) rfl fun hb => ?_
  replace hb := n_bnd hb
  refine awp_bound (i := 1) rfl fun hb2 => ?_
  replace hb2 := n_bnd hb2
  refine awp_seq fun K0 hK0 => ?_
  refine awp_region rfl ?_
  refine o_assign (nm .i64 (0)) Gd.none rfl ?_
  refine aops_end ?_
  refine hK0 _ ?_
  refine awp_seq fun K1 hK1 => ?_
  refine awp_seq fun K2 hK2 => ?_
  refine awp_region rfl ?_
  refine o_move (AV.sl 1 (ns .i64 (digs m))) Gd.none rfl ?_
  refine n_len (digs m) Gd.none Wa_tU22 rfl ?_
  refine o_move (AV.sl 1 (ns .i64 (digs n))) Gd.none rfl ?_
  refine n_len (digs n) Gd.none Wa_tU22 rfl ?_
  refine n_neq ((digs m).length) ((digs n).length) Gd.none rfl rfl ?_
  refine aops_end ?_
  refine hK2 _ ?_
  refine awp_condQ (q := ((digs m).length) ≠ ((digs n).length)) rfl (fun h1 => ?_) (fun h1 => ?_)
  · refine awp_seq fun K3 hK3 => ?_
    refine awp_seq fun K4 hK4 => ?_
    refine awp_region rfl ?_
    refine o_move (AV.sl 1 (ns .i64 (digs m))) Gd.none rfl ?_
    refine n_len (digs m) Gd.none Wa_tU22 rfl ?_
    refine o_move (AV.sl 1 (ns .i64 (digs n))) Gd.none rfl ?_
    refine n_len (digs n) Gd.none Wa_tU22 rfl ?_
    refine n_lss ((digs m).length) ((digs n).length) Gd.none rfl rfl ?_
    refine aops_end ?_
    refine hK4 _ ?_
    refine awp_condQ (q := ((digs m).length) < ((digs n).length)) rfl (fun h2 => ?_) (fun h2 => ?_)
    · refine awp_seq fun K5 hK5 => ?_
      refine awp_region rfl ?_
      refine o_assign (AV.lit (.int .i64 ((-1)))) Gd.none rfl ?_
      refine aops_end ?_
      refine hK5 _ ?_
      refine awp_ret ?_
      refine post_ret ⟨[(AV.lit (.int .i64 ((-1))))], And.intro (AV.le_refl _) (trivial), rfl, ?_⟩
      refine int_eq (k := .i64) ?_
      rw [cmpN_len h1, if_pos h2]
    · refine awp_skip ?_
      refine hK3 _ ?_
      refine awp_seq fun K6 hK6 => ?_
      refine awp_region rfl ?_
      refine o_assign (nm .i64 (1)) Gd.none rfl ?_
      refine aops_end ?_
      refine hK6 _ ?_
      refine awp_ret ?_
      refine post_ret ⟨[(nm .i64 (1))], And.intro (AV.le_refl _) (trivial), rfl, ?_⟩
      refine int_eq (k := .i64) ?_
      rw [cmpN_len h1, if_neg h2]
      rfl
  · refine awp_skip ?_
    refine hK1 _ ?_
    refine awp_seq fun K7 hK7 => ?_
    refine awp_seq fun K8 hK8 => ?_
    refine awp_region rfl ?_
    refine o_move (AV.sl 1 (ns .i64 (digs m))) Gd.none rfl ?_
    refine n_len (digs m) Gd.none Wa_tU22 rfl ?_
    refine o_sub (a := ((((digs m).length : Nat) : Int))) (c := (((1 : Nat) : Int))) Gd.none rfl rfl (by exact wrap64 (by omega) (by omega)) ?_
    refine o_assign (AV.lit (.int .i64 (((((digs m).length : Nat) : Int)) - (((1 : Nat) : Int))))) Gd.none rfl ?_
    refine aops_end ?_
    refine hK8 _ ?_
    refine awp_block ?_
    refine awp_loopR (fun κ σ => ∃ (j : Nat), (j ≤ (digs m).length) ∧ (val ((digs m).drop j) = val ((digs n).drop j)) ∧ (j) = κ ∧ σ = ⟨[(0, (AV.sl 1 (ns .i64 (digs m)))), (1, (AV.sl 1 (ns .i64 (digs n)))), (5, (AV.lit (.int .i64 ((j : Int) - 1))))], []⟩) ⟨_, _, ⟨(digs m).length, (Nat.le_refl _), (by rw [val_drop_all (Nat.le_refl _), val_drop_all (by omega)]), rfl, rfl⟩, ?wk0⟩ ?rd0
    case wk0 =>
      exact Wk.sub (And.intro (by exact rfl) (And.intro (by exact rfl) (And.intro (by first | rfl | exact int_eq (by omega) | exact int_nm (by omega)) (trivial)))) (trivial)
    rintro κ _ ⟨j, hj, hv, rfl, rfl⟩
    refine awp_seq fun K9 hK9 => ?_
    refine awp_seq fun K10 hK10 => ?_
    refine awp_region rfl ?_
    refine o_move (AV.lit (.int .i64 ((j : Int) - 1))) Gd.none rfl ?_
    refine o_geq (a := ((j : Int) - 1)) (c := (((0 : Nat) : Int))) Gd.none rfl rfl ?_
    refine aops_end ?_
    refine hK10 _ ?_
    refine awp_condQ (q := (((0 : Nat) : Int)) ≤ ((j : Int) - 1)) rfl (fun h3 => ?_) (fun h3 => ?_)
    · refine awp_wk (Wk.slot (i := 5) (y := (nm .i64 (j - 1))) (AV.le_eq (by exact nm_int (by omega)))) ?_
      refine awp_skip ?_
      refine hK9 _ ?_
      refine awp_seq fun K11 hK11 => ?_
      refine awp_block ?_
      refine awp_seq fun K12 hK12 => ?_
      refine awp_seq fun K13 hK13 => ?_
      refine awp_regionD rfl ?_
      refine o_move (AV.sl 1 (ns .i64 (digs m))) Gd.none rfl ?_
      refine o_move (nm .i64 (j - 1)) Gd.none rfl ?_
      refine n_index (digs m) (j - 1) Gd.none Wa_tE22 rfl rfl (by omega) ?_
      refine n_loadI (digs m) (j - 1) Gd.none Wa_tS3 rfl (by omega) ?_
      refine o_move (AV.sl 1 (ns .i64 (digs n))) Gd.none rfl ?_
      refine o_move (nm .i64 (j - 1)) Gd.none rfl ?_
      refine n_index (digs n) (j - 1) Gd.none Wa_tE22 rfl rfl (by omega) ?_
      refine n_loadI (digs n) (j - 1) Gd.none Wa_tS3 rfl (by omega) ?_
      refine n_lss ((digs m).getD (j - 1) 0) ((digs n).getD (j - 1) 0) Gd.none rfl rfl ?_
      refine aops_end ⟨by kernel_rfl, ?_⟩
      refine hK13 _ ?_
      refine awp_condQ (q := ((digs m).getD (j - 1) 0) < ((digs n).getD (j - 1) 0)) rfl (fun h4 => ?_) (fun h4 => ?_)
      · refine awp_seq fun K14 hK14 => ?_
        refine awp_region rfl ?_
        refine o_assign (AV.lit (.int .i64 ((-1)))) Gd.none rfl ?_
        refine aops_end ?_
        refine hK14 _ ?_
        refine awp_ret ?_
        refine post_ret ⟨[(AV.lit (.int .i64 ((-1))))], And.intro (AV.le_refl _) (trivial), rfl, ?_⟩
        exact int_eq (k := .i64) (cmpN_lt (j := j - 1) (by omega) (by omega) (by rw [Nat.sub_add_cancel (by omega)]; exact hv) (by assumption))
      · refine awp_skip ?_
        refine hK12 _ ?_
        refine awp_seq fun K15 hK15 => ?_
        refine awp_regionD rfl ?_
        refine o_move (AV.sl 1 (ns .i64 (digs m))) Gd.none rfl ?_
        refine o_move (nm .i64 (j - 1)) Gd.none rfl ?_
        refine n_index (digs m) (j - 1) Gd.none Wa_tE22 rfl rfl (by omega) ?_
        refine n_loadI (digs m) (j - 1) Gd.none Wa_tS3 rfl (by omega) ?_
        refine o_move (AV.sl 1 (ns .i64 (digs n))) Gd.none rfl ?_
        refine o_move (nm .i64 (j - 1)) Gd.none rfl ?_
        refine n_index (digs n) (j - 1) Gd.none Wa_tE22 rfl rfl (by omega) ?_
        refine n_loadI (digs n) (j - 1) Gd.none Wa_tS3 rfl (by omega) ?_
        refine n_gtr ((digs m).getD (j - 1) 0) ((digs n).getD (j - 1) 0) Gd.none rfl rfl ?_
        refine aops_end ⟨by kernel_rfl, ?_⟩
        refine hK15 _ ?_
        refine awp_condQ (q := ((digs n).getD (j - 1) 0) < ((digs m).getD (j - 1) 0)) rfl (fun h5 => ?_) (fun h5 => ?_)
        · refine awp_seq fun K16 hK16 => ?_
          refine awp_region rfl ?_
          refine o_assign (nm .i64 (1)) Gd.none rfl ?_
          refine aops_end ?_
          refine hK16 _ ?_
          refine awp_ret ?_
          refine post_ret ⟨[(nm .i64 (1))], And.intro (AV.le_refl _) (trivial), rfl, ?_⟩
          exact int_eq (k := .i64) (cmpN_gt (j := j - 1) (by omega) (by omega) (by rw [Nat.sub_add_cancel (by omega)]; exact hv) (by assumption))
        · refine awp_skip ?_
          refine hK11 _ ?_
          refine awp_region rfl ?_
          refine o_move (nm .i64 (j - 1)) Gd.none rfl ?_
          refine o_sub (a := (((j - 1 : Nat) : Int))) (c := (((1 : Nat) : Int))) Gd.none rfl rfl (by exact wrap64 (by omega) (by omega)) ?_
          refine o_assign (AV.lit (.int .i64 ((((j - 1 : Nat) : Int)) - (((1 : Nat) : Int))))) Gd.none rfl ?_
          refine aops_end ?_
          refine ⟨_, _, ?lt, ⟨j - 1, (by omega), (by rw [val_drop_succ (xs := digs m) (j := j - 1) (by omega), val_drop_succ (xs := digs n) (j := j - 1) (by omega), Nat.sub_add_cancel (by omega), hv, show (digs m).getD (j - 1) 0 = (digs n).getD (j - 1) 0 by omega]), rfl, rfl⟩, ?wk⟩
          case lt => omega
          case wk => exact Wk.sub (And.intro (by exact rfl) (And.intro (by exact rfl) (And.intro (by first | rfl | exact int_eq (by omega) | exact int_nm (by omega)) (trivial)))) (trivial)
    · refine awp_exit ?_
      refine hK7 _ ?_
      refine awp_seq fun K17 hK17 => ?_
      refine awp_region rfl ?_
      refine o_assign (nm .i64 (0)) Gd.none rfl ?_
      refine aops_end ?_
      refine hK17 _ ?_
      refine awp_ret ?_
      refine post_ret ⟨[(nm .i64 (0))], And.intro (AV.le_refl _) (trivial), rfl, ?_⟩
      have : j = 0 := by omega
      subst this
      exact int_eq (k := .i64) (cmpN_eq hv)

theorem c_wSize (m n : Nat) : ECalls cx 103 [(AV.sl 1 (ns .u32 (digs m))), (AV.sl 1 (ns .u32 (digs n)))] (.lit (.int .i64 (cmpN m n))) := by
  refine ecalls_of_awp Tryd.func103 (c := _) rfl (Nat.le_of_ble_eq_true rfl) ?_
  show awp cx 45 _ (postF cx Tryd.f103 _) ⟨[(0, (AV.sl 1 (ns .u32 (digs m)))), (1, (AV.sl 1 (ns .u32 (digs n))))], []⟩
  refine awp_bound (i := 0) rfl fun hb => ?_
  replace hb := n_bnd hb
  refine awp_bound (i := 1) rfl fun hb2 => ?_
  replace hb2 := n_bnd hb2
  refine awp_seq fun K0 hK0 => ?_
  refine awp_region rfl ?_
  refine o_assign (nm .i64 (0)) Gd.none rfl ?_
  refine aops_end ?_
  refine hK0 _ ?_
  refine awp_seq fun K1 hK1 => ?_
  refine awp_seq fun K2 hK2 => ?_
  refine awp_region rfl ?_
  refine o_move (AV.sl 1 (ns .u32 (digs m))) Gd.none rfl ?_
  refine n_len (digs m) Gd.none Wa_tU87 rfl ?_
  refine o_move (AV.sl 1 (ns .u32 (digs n))) Gd.none rfl ?_
  refine n_len (digs n) Gd.none Wa_tU87 rfl ?_
  refine n_neq ((digs m).length) ((digs n).length) Gd.none rfl rfl ?_
  refine aops_end ?_
  refine hK2 _ ?_
  refine awp_condQ (q := ((digs m).length) ≠ ((digs n).length)) rfl (fun h1 => ?_) (fun h1 => ?_)
  · refine awp_seq fun K3 hK3 => ?_
    refine awp_region rfl ?_
    refine o_move (AV.sl 1 (ns .u32 (digs m))) Gd.none rfl ?_
    refine n_len (digs m) Gd.none Wa_tU87 rfl ?_
    refine o_move (AV.sl 1 (ns .u32 (digs n))) Gd.none rfl ?_
    refine n_len (digs n) Gd.none Wa_tU87 rfl ?_
    refine o_sub (a := ((((digs m).length : Nat) : Int))) (c := ((((digs n).length : Nat) : Int))) Gd.none rfl rfl (by exact wrap64 (by omega) (by omega)) ?_
    refine o_max (a := (-1)) (c := ((((digs m).length : Nat) : Int)) - ((((digs n).length : Nat) : Int))) Gd.none rfl rfl (fun w => run_max _ _ w) ?_
    refine o_min (a := ((1 : Nat) : Int)) (c := max ((-1)) (((((digs m).length : Nat) : Int)) - ((((digs n).length : Nat) : Int)))) Gd.none rfl rfl (fun w => run_min _ _ w) ?_
    refine o_assign (AV.lit (.int .i64 (min (((1 : Nat) : Int)) (max ((-1)) (((((digs m).length : Nat) : Int)) - ((((digs n).length : Nat) : Int))))))) Gd.none rfl ?_
    refine aops_end ?_
    refine hK3 _ ?_
    refine awp_ret ?_
    refine post_ret ⟨[(AV.lit (.int .i64 (min (((1 : Nat) : Int)) (max ((-1)) (((((digs m).length : Nat) : Int)) - ((((digs n).length : Nat) : Int)))))))], And.intro (AV.le_refl _) (trivial), rfl, ?_⟩
    refine int_eq (k := .i64) ?_
    rw [cmpN_len h1]
    split <;> omega
  · refine awp_skip ?_
    refine hK1 _ ?_
    refine awp_seq fun K4 hK4 => ?_
    refine awp_seq fun K5 hK5 => ?_
    refine awp_region rfl ?_
    refine o_move (AV.sl 1 (ns .u32 (digs m))) Gd.none rfl ?_
    refine n_len (digs m) Gd.none Wa_tU87 rfl ?_
    refine o_sub (a := ((((digs m).length : Nat) : Int))) (c := (((1 : Nat) : Int))) Gd.none rfl rfl (by exact wrap64 (by omega) (by omega)) ?_
    refine o_assign (AV.lit (.int .i64 (((((digs m).length : Nat) : Int)) - (((1 : Nat) : Int))))) Gd.none rfl ?_
    refine aops_end ?_
    refine hK5 _ ?_
    refine awp_block ?_
    refine awp_loopR (fun κ σ => ∃ (j : Nat), (j ≤ (digs m).length) ∧ (val ((digs m).drop j) = val ((digs n).drop j)) ∧ (j) = κ ∧ σ = ⟨[(0, (AV.sl 1 (ns .u32 (digs m)))), (1, (AV.sl 1 (ns .u32 (digs n)))), (5, (AV.lit (.int .i64 ((j : Int) - 1))))], []⟩) ⟨_, _, ⟨(digs m).length, (Nat.le_refl _), (by rw [val_drop_all (Nat.le_refl _), val_drop_all (by omega)]), rfl, rfl⟩, ?wk0⟩ ?rd0
    case wk0 =>
      exact Wk.sub (And.intro (by exact rfl) (And.intro (by exact rfl) (And.intro (by first | rfl | exact int_eq (by omega) | exact int_nm (by omega)) (trivial)))) (trivial)
    rintro κ _ ⟨j, hj, hv, rfl, rfl⟩
    refine awp_seq fun K6 hK6 => ?_
    refine awp_seq fun K7 hK7 => ?_
    refine awp_region rfl ?_
    refine o_move (AV.lit (.int .i64 ((j : Int) - 1))) Gd.none rfl ?_
    refine o_geq (a := ((j : Int) - 1)) (c := (((0 : Nat) : Int))) Gd.none rfl rfl ?_
    refine aops_end ?_
    refine hK7 _ ?_
    refine awp_condQ (q := (((0 : Nat) : Int)) ≤ ((j : Int) - 1)) rfl (fun h2 => ?_) (fun h2 => ?_)
    · refine awp_wk (Wk.slot (i := 5) (y := (nm .i64 (j - 1))) (AV.le_eq (by exact nm_int (by omega)))) ?_
      refine awp_skip ?_
      refine hK6 _ ?_
      refine awp_seq fun K8 hK8 => ?_
      refine awp_block ?_
      refine awp_block ?_
      refine awp_seq fun K9 hK9 => ?_
      refine awp_regionD rfl ?_
      refine o_move (AV.sl 1 (ns .u32 (digs m))) Gd.none rfl ?_
      refine o_move (nm .i64 (j - 1)) Gd.none rfl ?_
      refine n_index (digs m) (j - 1) Gd.none Wa_tE87 rfl rfl (by omega) ?_
      refine n_loadI (digs m) (j - 1) Gd.none Wa_tS122 rfl (by omega) ?_
      refine o_move (AV.sl 1 (ns .u32 (digs n))) Gd.none rfl ?_
      refine o_move (nm .i64 (j - 1)) Gd.none rfl ?_
      refine n_index (digs n) (j - 1) Gd.none Wa_tE87 rfl rfl (by omega) ?_
      refine n_loadI (digs n) (j - 1) Gd.none Wa_tS122 rfl (by omega) ?_
      refine n_lss ((digs m).getD (j - 1) 0) ((digs n).getD (j - 1) 0) Gd.none rfl rfl ?_
      refine o_assign (bp (((digs m).getD (j - 1) 0) < ((digs n).getD (j - 1) 0))) Gd.none rfl ?_
      refine aops_end ⟨by kernel_rfl, ?_⟩
      refine hK9 _ ?_
      refine awp_condQ (q := ((digs m).getD (j - 1) 0) < ((digs n).getD (j - 1) 0)) rfl (fun h3 => ?_) (fun h3 => ?_)
      · refine awp_seq fun K10 hK10 => ?_
        refine awp_region rfl ?_
        refine o_assign (AV.lit (.int .i64 ((-1)))) Gd.none rfl ?_
        refine aops_end ?_
        refine hK10 _ ?_
        refine awp_ret ?_
        refine post_ret ⟨[(AV.lit (.int .i64 ((-1))))], And.intro (AV.le_refl _) (trivial), rfl, ?_⟩
        exact int_eq (k := .i64) (cmpN_lt (j := j - 1) (by omega) (by omega) (by rw [Nat.sub_add_cancel (by omega)]; exact hv) (by assumption))
      · refine awp_seq fun K11 hK11 => ?_
        refine awp_regionD rfl ?_
        refine o_move (AV.sl 1 (ns .u32 (digs m))) Gd.none rfl ?_
        refine o_move (nm .i64 (j - 1)) Gd.none rfl ?_
        refine n_index (digs m) (j - 1) Gd.none Wa_tE87 rfl rfl (by omega) ?_
        refine n_loadI (digs m) (j - 1) Gd.none Wa_tS122 rfl (by omega) ?_
        refine o_move (AV.sl 1 (ns .u32 (digs n))) Gd.none rfl ?_
        refine o_move (nm .i64 (j - 1)) Gd.none rfl ?_
        refine n_index (digs n) (j - 1) Gd.none Wa_tE87 rfl rfl (by omega) ?_
        refine n_loadI (digs n) (j - 1) Gd.none Wa_tS122 rfl (by omega) ?_
        refine n_gtr ((digs m).getD (j - 1) 0) ((digs n).getD (j - 1) 0) Gd.none rfl rfl ?_
        refine o_assign (bp (((digs n).getD (j - 1) 0) < ((digs m).getD (j - 1) 0))) Gd.none rfl ?_
        refine aops_end ⟨by kernel_rfl, ?_⟩
        refine hK11 _ ?_
        refine awp_condQ (q := ((digs n).getD (j - 1) 0) < ((digs m).getD (j - 1) 0)) rfl (fun h4 => ?_) (fun h4 => ?_)
        · refine awp_seq fun K12 hK12 => ?_
          refine awp_region rfl ?_
          refine o_assign (nm .i64 (1)) Gd.none rfl ?_
          refine aops_end ?_
          refine hK12 _ ?_
          refine awp_ret ?_
          refine post_ret ⟨[(nm .i64 (1))], And.intro (AV.le_refl _) (trivial), rfl, ?_⟩
          exact int_eq (k := .i64) (cmpN_gt (j := j - 1) (by omega) (by omega) (by rw [Nat.sub_add_cancel (by omega)]; exact hv) (by assumption))
        · refine awp_skip ?_
          refine hK8 _ ?_
          refine awp_region rfl ?_
          refine o_move (nm .i64 (j - 1)) Gd.none rfl ?_
          refine o_sub (a := (((j - 1 : Nat) : Int))) (c := (((1 : Nat) : Int))) Gd.none rfl rfl (by exact wrap64 (by omega) (by omega)) ?_
          refine o_assign (AV.lit (.int .i64 ((((j - 1 : Nat) : Int)) - (((1 : Nat) : Int))))) Gd.none rfl ?_
          refine aops_end ?_
          refine ⟨_, _, ?lt, ⟨j - 1, (by omega), (by rw [val_drop_succ (xs := digs m) (j := j - 1) (by omega), val_drop_succ (xs := digs n) (j := j - 1) (by omega), Nat.sub_add_cancel (by omega), hv, show (digs m).getD (j - 1) 0 = (digs n).getD (j - 1) 0 by omega]), rfl, rfl⟩, ?wk⟩
          case lt => omega
          case wk => exact Wk.sub (And.intro (by exact rfl) (And.intro (by exact rfl) (And.intro (by first | rfl | exact int_eq (by omega) | exact int_nm (by omega)) (trivial)))) (trivial)
    · refine awp_exit ?_
      refine hK4 _ ?_
      refine awp_seq fun K13 hK13 => ?_
      refine awp_region rfl ?_
      refine o_assign (nm .i64 (0)) Gd.none rfl ?_
      refine aops_end ?_
      refine hK13 _ ?_
      refine awp_ret ?_
      refine post_ret ⟨[(nm .i64 (0))], And.intro (AV.le_refl _) (trivial), rfl, ?_⟩
      have : j = 0 := by omega
      subst this
      exact int_eq (k := .i64) (cmpN_eq hv)

theorem c_rCmp (x y : Int) : ECalls cx 34 [(intR (x)), (intR (y))] (.lit (.int .i64 (cmpZ x y))) := by
  refine ecalls_of_awp Tryd.func34 (c := _) rfl (Nat.le_of_ble_eq_true rfl) ?_
  show awp cx 27 _ (postF cx Tryd.f34 _) ⟨[(0, (intR (x))), (1, (intR (y)))], []⟩
  refine awp_seq fun K0 hK0 => ?_
  refine awp_region rfl ?_
  refine o_box 2 [(bp (x < 0)), (AV.sl 1 (ns .i64 (digs (x).natAbs)))] Gd.none rfl rfl ?_
  refine o_box 3 [(bp (y < 0)), (AV.sl 1 (ns .i64 (digs (y).natAbs)))] Gd.none rfl rfl ?_
  refine o_assign (nm .i64 (0)) Gd.none rfl ?_
  refine aops_end ?_
  refine hK0 _ ?_
  refine awp_seq fun K1 hK1 => ?_
  refine awp_seq fun K2 hK2 => ?_
  refine awp_regionD rfl ?_
  refine o_loadA [(bp (x < 0)), (AV.sl 1 (ns .i64 (digs (x).natAbs)))] Gd.none Wa_tA36 rfl rfl rfl rfl rfl ?_
  refine o_call [(AV.agg [(bp (x < 0)), (AV.sl 1 (ns .i64 (digs (x).natAbs)))])] (AV.lit (.int .i64 (sgn (x)))) Gd.none Wa_tC61 rfl (c_rSign (x)) ?_
  refine o_loadA [(bp (y < 0)), (AV.sl 1 (ns .i64 (digs (y).natAbs)))] Gd.none Wa_tA36 rfl rfl rfl rfl rfl ?_
  refine o_call [(AV.agg [(bp (y < 0)), (AV.sl 1 (ns .i64 (digs (y).natAbs)))])] (AV.lit (.int .i64 (sgn (y)))) Gd.none Wa_tC61 rfl (c_rSign (y)) ?_
  refine o_neq (a := (sgn (x))) (c := (sgn (y))) Gd.none rfl rfl ?_
  refine aops_end ⟨by kernel_rfl, ?_⟩
  refine hK2 _ ?_
  refine awp_condQ (q := (sgn (x)) ≠ (sgn (y))) rfl (fun h1 => ?_) (fun h1 => ?_)
  · refine awp_seq fun K3 hK3 => ?_
    refine awp_seq fun K4 hK4 => ?_
    refine awp_regionD rfl ?_
    refine o_loadA [(bp (x < 0)), (AV.sl 1 (ns .i64 (digs (x).natAbs)))] Gd.none Wa_tA36 rfl rfl rfl rfl rfl ?_
    refine o_call [(AV.agg [(bp (x < 0)), (AV.sl 1 (ns .i64 (digs (x).natAbs)))])] (AV.lit (.int .i64 (sgn (x)))) Gd.none Wa_tC61 rfl (c_rSign (x)) ?_
    refine o_loadA [(bp (y < 0)), (AV.sl 1 (ns .i64 (digs (y).natAbs)))] Gd.none Wa_tA36 rfl rfl rfl rfl rfl ?_
    refine o_call [(AV.agg [(bp (y < 0)), (AV.sl 1 (ns .i64 (digs (y).natAbs)))])] (AV.lit (.int .i64 (sgn (y)))) Gd.none Wa_tC61 rfl (c_rSign (y)) ?_
    refine o_lss (a := (sgn (x))) (c := (sgn (y))) Gd.none rfl rfl ?_
    refine aops_end ⟨by kernel_rfl, ?_⟩
    refine hK4 _ ?_
    refine awp_condQ (q := (sgn (x)) < (sgn (y))) rfl (fun h2 => ?_) (fun h2 => ?_)
    · refine awp_seq fun K5 hK5 => ?_
      refine awp_region rfl ?_
      refine o_assign (AV.lit (.int .i64 ((-1)))) Gd.none rfl ?_
      refine aops_end ?_
      refine hK5 _ ?_
      refine awp_ret ?_
      refine post_ret ⟨[(AV.lit (.int .i64 ((-1))))], And.intro (AV.le_refl _) (trivial), rfl, ?_⟩
      exact int_eq (k := .i64) (cmpZ_sgn_lt h2)
    · refine awp_skip ?_
      refine hK3 _ ?_
      refine awp_seq fun K6 hK6 => ?_
      refine awp_region rfl ?_
      refine o_assign (nm .i64 (1)) Gd.none rfl ?_
      refine aops_end ?_
      refine hK6 _ ?_
      refine awp_ret ?_
      refine post_ret ⟨[(nm .i64 (1))], And.intro (AV.le_refl _) (trivial), rfl, ?_⟩
      exact int_eq (k := .i64) (cmpZ_sgn_gt h1 h2)
  · refine awp_skip ?_
    refine hK1 _ ?_
    refine awp_seq fun K7 hK7 => ?_
    refine awp_seq fun K8 hK8 => ?_
    refine awp_region rfl ?_
    refine o_fieldRef 0 Gd.none Wa_tF36_0 rfl rfl ?_
    refine o_loadS (bp (x < 0)) Gd.none Wa_tS4 rfl rfl rfl ?_
    refine aops_end ?_
    refine hK8 _ ?_
    refine awp_condQ (q := x < 0) rfl (fun h3 => ?_) (fun h3 => ?_)
    · refine awp_seq fun K9 hK9 => ?_
      refine awp_region rfl ?_
      refine o_fieldRef 1 Gd.none Wa_tF36_1 rfl rfl ?_
      refine o_loadS (AV.sl 1 (ns .i64 (digs (y).natAbs))) Gd.none Wa_tS22 rfl rfl rfl ?_
      refine o_fieldRef 1 Gd.none Wa_tF36_1 rfl rfl ?_
      refine o_loadS (AV.sl 1 (ns .i64 (digs (x).natAbs))) Gd.none Wa_tS22 rfl rfl rfl ?_
      refine o_call [(AV.sl 1 (ns .i64 (digs (y).natAbs))), (AV.sl 1 (ns .i64 (digs (x).natAbs)))] (AV.lit (.int .i64 (cmpN ((y).natAbs) ((x).natAbs)))) Gd.none Wa_tC79 rfl (c_rSize ((y).natAbs) ((x).natAbs)) ?_
      refine o_assign (AV.lit (.int .i64 (cmpN ((y).natAbs) ((x).natAbs)))) Gd.none rfl ?_
      refine aops_end ?_
      refine hK9 _ ?_
      refine awp_ret ?_
      refine post_ret ⟨[(AV.lit (.int .i64 (cmpN ((y).natAbs) ((x).natAbs))))], And.intro (AV.le_refl _) (trivial), rfl, ?_⟩
      exact int_eq (k := .i64) (cmpZ_neg h3 (Decidable.not_not.1 h1))
    · refine awp_skip ?_
      refine hK7 _ ?_
      refine awp_seq fun K10 hK10 => ?_
      refine awp_region rfl ?_
      refine o_fieldRef 1 Gd.none Wa_tF36_1 rfl rfl ?_
      refine o_loadS (AV.sl 1 (ns .i64 (digs (x).natAbs))) Gd.none Wa_tS22 rfl rfl rfl ?_
      refine o_fieldRef 1 Gd.none Wa_tF36_1 rfl rfl ?_
      refine o_loadS (AV.sl 1 (ns .i64 (digs (y).natAbs))) Gd.none Wa_tS22 rfl rfl rfl ?_
      refine o_call [(AV.sl 1 (ns .i64 (digs (x).natAbs))), (AV.sl 1 (ns .i64 (digs (y).natAbs)))] (AV.lit (.int .i64 (cmpN ((x).natAbs) ((y).natAbs)))) Gd.none Wa_tC79 rfl (c_rSize ((x).natAbs) ((y).natAbs)) ?_
      refine o_assign (AV.lit (.int .i64 (cmpN ((x).natAbs) ((y).natAbs)))) Gd.none rfl ?_
      refine aops_end ?_
      refine hK10 _ ?_
      refine awp_ret ?_
      refine post_ret ⟨[(AV.lit (.int .i64 (cmpN ((x).natAbs) ((y).natAbs))))], And.intro (AV.le_refl _) (trivial), rfl, ?_⟩
      exact int_eq (k := .i64) (cmpZ_pos h3 (Decidable.not_not.1 h1))

theorem c_wCmp (x y : Int) : ECalls cx 76 [(intW (x)), (intW (y))] (.lit (.int .i64 (cmpZ x y))) := by
  refine ecalls_of_awp Tryd.func76 (c := _) rfl (Nat.le_of_ble_eq_true rfl) ?_
  show awp cx 31 _ (postF cx Tryd.f76 _) ⟨[(0, (intW (x))), (1, (intW (y)))], []⟩
  have hx := sgn_lo x
  have hy := sgn_lo y
  refine awp_seq fun K0 hK0 => ?_
  refine awp_region rfl ?_
  refine o_box 2 [(bp (x < 0)), (AV.sl 1 (ns .u32 (digs (x).natAbs)))] Gd.none rfl rfl ?_
  refine o_box 3 [(bp (y < 0)), (AV.sl 1 (ns .u32 (digs (y).natAbs)))] Gd.none rfl rfl ?_
  refine o_assign (nm .i64 (0)) Gd.none rfl ?_
  refine aops_end ?_
  refine hK0 _ ?_
  refine awp_seq fun K1 hK1 => ?_
  refine awp_block ?_
  refine awp_seq fun K2 hK2 => ?_
  refine awp_regionD rfl ?_
  refine o_loadA [(bp (x < 0)), (AV.sl 1 (ns .u32 (digs (x).natAbs)))] Gd.none Wa_tA89 rfl rfl rfl rfl rfl ?_
  refine o_call [(AV.agg [(bp (x < 0)), (AV.sl 1 (ns .u32 (digs (x).natAbs)))])] (AV.lit (.int .i64 (sgn (x)))) Gd.none Wa_tC94 rfl (c_wSign (x)) ?_
  refine o_loadA [(bp (y < 0)), (AV.sl 1 (ns .u32 (digs (y).natAbs)))] Gd.none Wa_tA89 rfl rfl rfl rfl rfl ?_
  refine o_call [(AV.agg [(bp (y < 0)), (AV.sl 1 (ns .u32 (digs (y).natAbs)))])] (AV.lit (.int .i64 (sgn (y)))) Gd.none Wa_tC94 rfl (c_wSign (y)) ?_
  refine o_neq (a := (sgn (x))) (c := (sgn (y))) Gd.none rfl rfl ?_
  refine o_assign (bp ((sgn (x)) ≠ (sgn (y)))) Gd.none rfl ?_
  refine aops_end ⟨by kernel_rfl, ?_⟩
  refine hK2 _ ?_
  refine awp_condQ (q := (sgn (x)) ≠ (sgn (y))) rfl (fun h1 => ?_) (fun h1 => ?_)
  · refine awp_seq fun K3 hK3 => ?_
    refine awp_regionD rfl ?_
    refine o_loadA [(bp (x < 0)), (AV.sl 1 (ns .u32 (digs (x).natAbs)))] Gd.none Wa_tA89 rfl rfl rfl rfl rfl ?_
    refine o_call [(AV.agg [(bp (x < 0)), (AV.sl 1 (ns .u32 (digs (x).natAbs)))])] (AV.lit (.int .i64 (sgn (x)))) Gd.none Wa_tC94 rfl (c_wSign (x)) ?_
    refine o_loadA [(bp (y < 0)), (AV.sl 1 (ns .u32 (digs (y).natAbs)))] Gd.none Wa_tA89 rfl rfl rfl rfl rfl ?_
    refine o_call [(AV.agg [(bp (y < 0)), (AV.sl 1 (ns .u32 (digs (y).natAbs)))])] (AV.lit (.int .i64 (sgn (y)))) Gd.none Wa_tC94 rfl (c_wSign (y)) ?_
    refine o_sub (a := (sgn (x))) (c := (sgn (y))) Gd.none rfl rfl (by exact wrap64 (by omega) (by omega)) ?_
    refine o_max (a := (-1)) (c := (sgn (x)) - (sgn (y))) Gd.none rfl rfl (fun w => run_max _ _ w) ?_
    refine o_min (a := ((1 : Nat) : Int)) (c := max ((-1)) ((sgn (x)) - (sgn (y)))) Gd.none rfl rfl (fun w => run_min _ _ w) ?_
    refine o_assign (AV.lit (.int .i64 (min (((1 : Nat) : Int)) (max ((-1)) ((sgn (x)) - (sgn (y))))))) Gd.none rfl ?_
    refine aops_end ⟨by kernel_rfl, ?_⟩
    refine hK3 _ ?_
    refine awp_ret ?_
    refine post_ret ⟨[(AV.lit (.int .i64 (min (((1 : Nat) : Int)) (max ((-1)) ((sgn (x)) - (sgn (y)))))))], And.intro (AV.le_refl _) (trivial), rfl, ?_⟩
    refine int_eq (k := .i64) ?_
    by_cases hh : sgn x < sgn y
    · rw [cmpZ_sgn_lt hh]; omega
    · rw [cmpZ_sgn_gt h1 hh]; omega
  · refine awp_seq fun K4 hK4 => ?_
    refine awp_region rfl ?_
    refine o_fieldRef 0 Gd.none Wa_tF89_0 rfl rfl ?_
    refine o_loadS (bp (x < 0)) Gd.none Wa_tS4 rfl rfl rfl ?_
    refine o_assign (bp (x < 0)) Gd.none rfl ?_
    refine aops_end ?_
    refine hK4 _ ?_
    refine awp_condQ (q := x < 0) rfl (fun h2 => ?_) (fun h2 => ?_)
    · refine awp_seq fun K5 hK5 => ?_
      refine awp_region rfl ?_
      refine o_fieldRef 1 Gd.none Wa_tF89_1 rfl rfl ?_
      refine o_loadS (AV.sl 1 (ns .u32 (digs (y).natAbs))) Gd.none Wa_tS87 rfl rfl rfl ?_
      refine o_fieldRef 1 Gd.none Wa_tF89_1 rfl rfl ?_
      refine o_loadS (AV.sl 1 (ns .u32 (digs (x).natAbs))) Gd.none Wa_tS87 rfl rfl rfl ?_
      refine o_call [(AV.sl 1 (ns .u32 (digs (y).natAbs))), (AV.sl 1 (ns .u32 (digs (x).natAbs)))] (AV.lit (.int .i64 (cmpN ((y).natAbs) ((x).natAbs)))) Gd.none Wa_tC103 rfl (c_wSize ((y).natAbs) ((x).natAbs)) ?_
      refine o_assign (AV.lit (.int .i64 (cmpN ((y).natAbs) ((x).natAbs)))) Gd.none rfl ?_
      refine aops_end ?_
      refine hK5 _ ?_
      refine awp_ret ?_
      refine post_ret ⟨[(AV.lit (.int .i64 (cmpN ((y).natAbs) ((x).natAbs))))], And.intro (AV.le_refl _) (trivial), rfl, ?_⟩
      exact int_eq (k := .i64) (cmpZ_neg h2 (Decidable.not_not.1 h1))
    · refine awp_skip ?_
      refine hK1 _ ?_
      refine awp_seq fun K6 hK6 => ?_
      refine awp_region rfl ?_
      refine o_fieldRef 1 Gd.none Wa_tF89_1 rfl rfl ?_
      refine o_loadS (AV.sl 1 (ns .u32 (digs (x).natAbs))) Gd.none Wa_tS87 rfl rfl rfl ?_
      refine o_fieldRef 1 Gd.none Wa_tF89_1 rfl rfl ?_
      refine o_loadS (AV.sl 1 (ns .u32 (digs (y).natAbs))) Gd.none Wa_tS87 rfl rfl rfl ?_
      refine o_call [(AV.sl 1 (ns .u32 (digs (x).natAbs))), (AV.sl 1 (ns .u32 (digs (y).natAbs)))] (AV.lit (.int .i64 (cmpN ((x).natAbs) ((y).natAbs)))) Gd.none Wa_tC103 rfl (c_wSize ((x).natAbs) ((y).natAbs)) ?_
      refine o_assign (AV.lit (.int .i64 (cmpN ((x).natAbs) ((y).natAbs)))) Gd.none rfl ?_
      refine aops_end ?_
      refine hK6 _ ?_
      refine awp_ret ?_
      refine post_ret ⟨[(AV.lit (.int .i64 (cmpN ((x).natAbs) ((y).natAbs))))], And.intro (AV.le_refl _) (trivial), rfl, ?_⟩
      exact int_eq (k := .i64) (cmpZ_pos h2 (Decidable.not_not.1 h1))

theorem c_rPart (xs : List Nat) (i : Nat) : ECalls cx 77 [(AV.sl 1 (ns .i64 (xs))), (nm .i64 (i))] (nm .i64 (xs.getD i 0)) := by
  refine ecalls_of_awp Tryd.func77 (c := _) rfl (Nat.le_of_ble_eq_true rfl) ?_
  show awp cx 13 _ (postF cx Tryd.f77 _) ⟨[(0, (AV.sl 1 (ns .i64 (xs)))), (1, (nm .i64 (i)))], []⟩
  refine awp_seq fun K0 hK0 => ?_
  refine awp_region rfl ?_
  refine o_assign (nm .i64 (0)) Gd.none rfl ?_
  refine aops_end ?_
  refine hK0 _ ?_
  refine awp_seq fun K1 hK1 => ?_
  refine awp_seq fun K2 hK2 => ?_
  refine awp_region rfl ?_
  refine o_move (nm .i64 (i)) Gd.none rfl ?_
  refine o_move (AV.sl 1 (ns .i64 (xs))) Gd.none rfl ?_
  refine n_len (xs) Gd.none Wa_tU22 rfl ?_
  refine n_lss (i) ((xs).length) Gd.none rfl rfl ?_
  refine aops_end ?_
  refine hK2 _ ?_
  refine awp_condQ (q := (i) < ((xs).length)) rfl (fun h1 => ?_) (fun h1 => ?_)
  · refine awp_seq fun K3 hK3 => ?_
    refine awp_region rfl ?_
    refine o_move (AV.sl 1 (ns .i64 (xs))) Gd.none rfl ?_
    refine o_move (nm .i64 (i)) Gd.none rfl ?_
    refine n_index (xs) (i) Gd.none Wa_tE22 rfl rfl (by omega) ?_
    refine n_loadI (xs) (i) Gd.none Wa_tS3 rfl (by omega) ?_
    refine o_assign (nm .i64 ((xs).getD (i) 0)) Gd.none rfl ?_
    refine aops_end ?_
    refine hK3 _ ?_
    refine awp_ret ?_
    refine post_ret ⟨[(nm .i64 ((xs).getD (i) 0))], And.intro (AV.le_refl _) (trivial), rfl, ?_⟩
    rfl
  · refine awp_skip ?_
    refine hK1 _ ?_
    refine awp_seq fun K4 hK4 => ?_
    refine awp_region rfl ?_
    refine o_assign (nm .i64 (0)) Gd.none rfl ?_
    refine aops_end ?_
    refine hK4 _ ?_
    refine awp_ret ?_
    refine post_ret ⟨[(nm .i64 (0))], And.intro (AV.le_refl _) (trivial), rfl, ?_⟩
    exact congrArg (nm .i64) (getD_ge (by omega))

theorem c_rMore (m n : Nat) (hm : (digs m).length ≤ 1000000000) (hn : (digs n).length ≤ 1000000000) : ECalls cx 78 [(AV.sl 1 (ns .i64 (digs m))), (AV.sl 1 (ns .i64 (digs n)))] (.sl 1 (ns .i64 (dgn (moreN m n) (m + n)))) := by
  refine ecalls_of_awp Tryd.func78 (c := _) rfl (Nat.le_of_ble_eq_true rfl) ?_
  show awp cx 42 _ (postF cx Tryd.f78 _) ⟨[(0, (AV.sl 1 (ns .i64 (digs m)))), (1, (AV.sl 1 (ns .i64 (digs n))))], []⟩
  refine awp_bound (i := 0) rfl fun hb => ?_
  replace hb := n_bnd hb
  refine awp_bound (i := 1) rfl fun hb2 => ?_
  replace hb2 := n_bnd hb2
  refine awp_seq fun K0 hK0 => ?_
  refine awp_region rfl ?_
  refine o_assign (AV.lit (.slice none 0 0)) Gd.none rfl ?_
  refine aops_end ?_
  refine hK0 _ ?_
  refine awp_seq fun K1 hK1 => ?_
  refine awp_region rfl ?_
  refine o_assign (AV.lit (.slice none 0 0)) Gd.none rfl ?_
  refine aops_end ?_
  refine hK1 _ ?_
  refine awp_seq fun K2 hK2 => ?_
  refine awp_region rfl ?_
  refine o_assign (nm .i64 (0)) Gd.none rfl ?_
  refine aops_end ?_
  refine hK2 _ ?_
  refine awp_seq fun K3 hK3 => ?_
  refine awp_seq fun K4 hK4 => ?_
  refine awp_region rfl ?_
  refine o_assign (nm .i64 (0)) Gd.none rfl ?_
  refine aops_end ?_
  refine hK4 _ ?_
  refine awp_block ?_
  refine awp_loopR (fun κ σ => ∃ (i : Nat), ∃ (r : List Nat), ∃ (c : Nat), (r.length = i) ∧ (Dig r) ∧ (c ≤ 1) ∧ (val r + 1000000000 ^ i * c = val ((digs m).take i) + val ((digs n).take i)) ∧ (i ≤ max (digs m).length (digs n).length ∨ (i = max (digs m).length (digs n).length + 1 ∧ c = 0 ∧ 1000000000 ^ (max (digs m).length (digs n).length) ≤ m + n)) ∧ (max (digs m).length (digs n).length + 2 - i) = κ ∧ σ = ⟨[(0, (AV.sl 1 (ns .i64 (digs m)))), (1, (AV.sl 1 (ns .i64 (digs n)))), (5, (AV.row 3)), (6, (nm .i64 (c))), (7, (nm .i64 (i)))], [(3, (AO.row 3 1 (ns .i64 (r))))]⟩) ⟨_, _, ⟨0, [], 0, rfl, Dig.nil, (by omega), (by simp [val]), (Or.inl (by omega)), rfl, rfl⟩, ?wk0⟩ ?rd0
  case wk0 =>
    exact Wk.trans (Wk.newNil (i := 5) (id := 502) (e := 3) (sz := 1) rfl rfl (by decide)) (Wk.trans (Wk.sub (σ' := ⟨[(0, (AV.sl 1 (ns .i64 (digs m)))), (1, (AV.sl 1 (ns .i64 (digs n)))), (5, (AV.row 502)), (6, (nm .i64 (0))), (7, (nm .i64 (0)))], [(502, (AO.row 3 1 (ns .i64 ([]))))]⟩) (And.intro rfl (And.intro rfl (And.intro rfl (And.intro rfl (And.intro rfl (trivial)))))) (And.intro rfl (trivial))) (Wk.trans (Wk.ren (id := 502) (id' := 3) rfl) (Wk.sub (And.intro (by exact rfl) (And.intro (by exact rfl) (And.intro (by first | rfl | (simp)) (And.intro (by first | rfl | exact congrArg (nm _) (by omega) | exact nm_int (by omega) | exact nm_int (by simp [IntKind.wrap, IntKind.bits, IntKind.signed]; omega)) (And.intro (by first | rfl | exact congrArg (nm _) (by omega) | exact nm_int (by omega) | exact nm_int (by simp [IntKind.wrap, IntKind.bits, IntKind.signed]; omega)) (trivial)))))) (And.intro (by first | rfl | exact row_ns (by simp) | exact congrArg (fun x => some (AO.blk (.stringIter _ x))) (by omega)) (trivial)))))
  rintro κ _ ⟨i, r, c, hl, hd, hc, hv, hi, rfl, rfl⟩
  have hA := Dig.getD (digs_dig m) i
  have hB := Dig.getD (digs_dig n) i
  refine awp_seq fun K5 hK5 => ?_
  refine awp_seq fun K6 hK6 => ?_
  refine awp_region rfl ?_
  refine o_move (nm .i64 (i)) Gd.none rfl ?_
  refine o_move (AV.sl 1 (ns .i64 (digs m))) Gd.none rfl ?_
  refine n_len (digs m) Gd.none Wa_tU22 rfl ?_
  refine n_lss (i) ((digs m).length) Gd.none rfl rfl ?_
  refine o_move (bp ((i) < ((digs m).length))) Gd.none rfl ?_
  refine o_splitP (q := (i) < ((digs m).length)) 13 rfl (fun h1 => ?_) (fun h1 => ?_)
  · refine o_skip (b := decide ((i) < ((digs m).length))) rfl rfl (decide_eq_true h1) ?_
    refine o_skip (b := decide ((i) < ((digs m).length))) rfl rfl (decide_eq_true h1) ?_
    refine o_skip (b := decide ((i) < ((digs m).length))) rfl rfl (decide_eq_true h1) ?_
    refine o_skip (b := decide ((i) < ((digs m).length))) rfl rfl (decide_eq_true h1) ?_
    refine o_pickT (b := decide ((i) < ((digs m).length))) (AV.lit (.bool true)) Gd.none rfl (decide_eq_true h1) rfl ?_
    refine o_move (AV.lit (.bool true)) Gd.none rfl ?_
    refine o_skip (b := true) rfl rfl rfl ?_
    refine o_skip (b := true) rfl rfl rfl ?_
    refine o_pickT (b := true) (AV.lit (.bool true)) Gd.none rfl rfl rfl ?_
    refine aops_end ?_
    refine hK6 _ ?_
    refine awp_condB (b := true) rfl (fun _ => ?_) (fun hh => absurd (hh.symm.trans rfl) (by decide))
    refine awp_skip ?_
    refine hK5 _ ?_
    refine awp_seq fun K7 hK7 => ?_
    refine awp_block ?_
    refine awp_seq fun K8 hK8 => ?_
    refine awp_region rfl ?_
    refine o_move (AV.sl 1 (ns .i64 (digs m))) Gd.none rfl ?_
    refine o_move (nm .i64 (i)) Gd.none rfl ?_
    refine o_call [(AV.sl 1 (ns .i64 (digs m))), (nm .i64 (i))] (nm .i64 ((digs m).getD (i) 0)) Gd.none Wa_tC77 rfl (c_rPart (digs m) (i)) ?_
    refine o_move (AV.sl 1 (ns .i64 (digs n))) Gd.none rfl ?_
    refine o_move (nm .i64 (i)) Gd.none rfl ?_
    refine o_call [(AV.sl 1 (ns .i64 (digs n))), (nm .i64 (i))] (nm .i64 ((digs n).getD (i) 0)) Gd.none Wa_tC77 rfl (c_rPart (digs n) (i)) ?_
    refine n_add ((digs m).getD (i) 0) ((digs n).getD (i) 0) Gd.none rfl rfl (by simp only [topOf]; omega) ?_
    refine o_move (nm .i64 (c)) Gd.none rfl ?_
    refine n_add (((digs m).getD (i) 0) + ((digs n).getD (i) 0)) (c) Gd.none rfl rfl (by simp only [topOf]; omega) ?_
    refine o_assign (nm .i64 ((((digs m).getD (i) 0) + ((digs n).getD (i) 0)) + (c))) Gd.none rfl ?_
    refine aops_end ?_
    refine hK8 _ ?_
    refine awp_seq fun K9 hK9 => ?_
    refine awp_region rfl ?_
    refine o_move (AV.row 3) Gd.none rfl ?_
    refine o_move (nm .i64 ((((digs m).getD (i) 0) + ((digs n).getD (i) 0)) + (c))) Gd.none rfl ?_
    refine n_rem ((((digs m).getD (i) 0) + ((digs n).getD (i) 0)) + (c)) (1000000000) Gd.none rfl rfl (by omega) ?_
    refine o_buildSlice 101 (ns .i64 ([((((digs m).getD (i) 0) + ((digs n).getD (i) 0)) + (c)) % (1000000000)])) [(0, [(nm .i64 (((((digs m).getD (i) 0) + ((digs n).getD (i) 0)) + (c)) % (1000000000)))])] Gd.none Wa_tE22 rfl Wa_tO3 rfl rfl rfl rfl rfl rfl rfl ?_
    refine n_append 102 (r) ([((((digs m).getD (i) 0) + ((digs n).getD (i) 0)) + (c)) % (1000000000)]) [(101, (AO.row 3 1 (ns .i64 ([((((digs m).getD (i) 0) + ((digs n).getD (i) 0)) + (c)) % (1000000000)]))))] Gd.none Wa_tE22 Wa_tO3 rfl rfl rfl rfl rfl (by simp only [List.length_append, List.length_cons, List.length_nil]; omega) (by decide) rfl rfl ?_
    refine o_assign (AV.row 102) Gd.none rfl ?_
    refine aops_end ?_
    refine hK9 _ ?_
    refine awp_region rfl ?_
    refine o_move (nm .i64 ((((digs m).getD (i) 0) + ((digs n).getD (i) 0)) + (c))) Gd.none rfl ?_
    refine n_quo ((((digs m).getD (i) 0) + ((digs n).getD (i) 0)) + (c)) (1000000000) Gd.none rfl rfl (by omega) (by simp only [topOf]; omega) ?_
    refine o_assign (nm .i64 (((((digs m).getD (i) 0) + ((digs n).getD (i) 0)) + (c)) / (1000000000))) Gd.none rfl ?_
    refine aops_end ?_
    refine hK7 _ ?_
    refine awp_region rfl ?_
    refine o_move (nm .i64 (i)) Gd.none rfl ?_
    refine n_add (i) (1) Gd.none rfl rfl (by simp only [topOf]; omega) ?_
    refine o_assign (nm .i64 ((i) + (1))) Gd.none rfl ?_
    refine aops_end ?_
    refine ⟨_, _, ?lt, ⟨i + 1, (r) ++ ([((((digs m).getD (i) 0) + ((digs n).getD (i) 0)) + (c)) % (1000000000)]), ((((digs m).getD (i) 0) + ((digs n).getD (i) 0)) + (c)) / (1000000000), (by simp [hl]), (hd.snoc (Nat.mod_lt _ (by decide))), (by omega), (add_step hl hv rfl), (more_hi hc hv hi (by omega)), rfl, rfl⟩, ?wk⟩
    case lt => omega
    case wk => exact Wk.trans (Wk.sub (σ' := ⟨[(0, (AV.sl 1 (ns .i64 (digs m)))), (1, (AV.sl 1 (ns .i64 (digs n)))), (5, (AV.row 102)), (6, (nm .i64 (((((digs m).getD (i) 0) + ((digs n).getD (i) 0)) + (c)) / (1000000000)))), (7, (nm .i64 ((i) + (1))))], [(102, (AO.row 3 1 (ns .i64 ((r) ++ ([((((digs m).getD (i) 0) + ((digs n).getD (i) 0)) + (c)) % (1000000000)])))))]⟩) (And.intro rfl (And.intro rfl (And.intro rfl (And.intro rfl (And.intro rfl (trivial)))))) (And.intro rfl (trivial))) (Wk.trans (Wk.ren (id := 102) (id' := 3) rfl) (Wk.sub (And.intro (by exact rfl) (And.intro (by exact rfl) (And.intro (by first | rfl | (simp)) (And.intro (by first | rfl | exact congrArg (nm _) (by omega) | exact nm_int (by omega) | exact nm_int (by simp [IntKind.wrap, IntKind.bits, IntKind.signed]; omega)) (And.intro (by first | rfl | exact congrArg (nm _) (by omega) | exact nm_int (by omega) | exact nm_int (by simp [IntKind.wrap, IntKind.bits, IntKind.signed]; omega)) (trivial)))))) (And.intro (by first | rfl | exact row_ns (by simp) | exact congrArg (fun x => some (AO.blk (.stringIter _ x))) (by omega)) (trivial))))
  · refine o_move (nm .i64 (i)) (Gd.yes rfl rfl (decide_eq_false h1)) rfl ?_
    refine o_move (AV.sl 1 (ns .i64 (digs n))) (Gd.yes rfl rfl (decide_eq_false h1)) rfl ?_
    refine n_len (digs n) (Gd.yes rfl rfl (decide_eq_false h1)) Wa_tU22 rfl ?_
    refine n_lss (i) ((digs n).length) (Gd.yes rfl rfl (decide_eq_false h1)) rfl rfl ?_
    refine o_pickF (b := decide ((i) < ((digs m).length))) (bp ((i) < ((digs n).length))) Gd.none rfl (decide_eq_false h1) rfl ?_
    refine o_move (bp ((i) < ((digs n).length))) Gd.none rfl ?_
    refine o_splitP (q := (i) < ((digs n).length)) 19 rfl (fun h2 => ?_) (fun h2 => ?_)
    · refine o_skip (b := decide ((i) < ((digs n).length))) rfl rfl (decide_eq_true h2) ?_
      refine o_skip (b := decide ((i) < ((digs n).length))) rfl rfl (decide_eq_true h2) ?_
      refine o_pickT (b := decide ((i) < ((digs n).length))) (AV.lit (.bool true)) Gd.none rfl (decide_eq_true h2) rfl ?_
      refine aops_end ?_
      refine hK6 _ ?_
      refine awp_condB (b := true) rfl (fun _ => ?_) (fun hh => absurd (hh.symm.trans rfl) (by decide))
      refine awp_skip ?_
      refine hK5 _ ?_
      refine awp_seq fun K10 hK10 => ?_
      refine awp_block ?_
      refine awp_seq fun K11 hK11 => ?_
      refine awp_region rfl ?_
      refine o_move (AV.sl 1 (ns .i64 (digs m))) Gd.none rfl ?_
      refine o_move (nm .i64 (i)) Gd.none rfl ?_
      refine o_call [(AV.sl 1 (ns .i64 (digs m))), (nm .i64 (i))] (nm .i64 ((digs m).getD (i) 0)) Gd.none Wa_tC77 rfl (c_rPart (digs m) (i)) ?_
      refine o_move (AV.sl 1 (ns .i64 (digs n))) Gd.none rfl ?_
      refine o_move (nm .i64 (i)) Gd.none rfl ?_
      refine o_call [(AV.sl 1 (ns .i64 (digs n))), (nm .i64 (i))] (nm .i64 ((digs n).getD (i) 0)) Gd.none Wa_tC77 rfl (c_rPart (digs n) (i)) ?_
      refine n_add ((digs m).getD (i) 0) ((digs n).getD (i) 0) Gd.none rfl rfl (by simp only [topOf]; omega) ?_
      refine o_move (nm .i64 (c)) Gd.none rfl ?_
      refine n_add (((digs m).getD (i) 0) + ((digs n).getD (i) 0)) (c) Gd.none rfl rfl (by simp only [topOf]; omega) ?_
      refine o_assign (nm .i64 ((((digs m).getD (i) 0) + ((digs n).getD (i) 0)) + (c))) Gd.none rfl ?_
      refine aops_end ?_
      refine hK11 _ ?_
      refine awp_seq fun K12 hK12 => ?_
      refine awp_region rfl ?_
      refine o_move (AV.row 3) Gd.none rfl ?_
      refine o_move (nm .i64 ((((digs m).getD (i) 0) + ((digs n).getD (i) 0)) + (c))) Gd.none rfl ?_
      refine n_rem ((((digs m).getD (i) 0) + ((digs n).getD (i) 0)) + (c)) (1000000000) Gd.none rfl rfl (by omega) ?_
      refine o_buildSlice 101 (ns .i64 ([((((digs m).getD (i) 0) + ((digs n).getD (i) 0)) + (c)) % (1000000000)])) [(0, [(nm .i64 (((((digs m).getD (i) 0) + ((digs n).getD (i) 0)) + (c)) % (1000000000)))])] Gd.none Wa_tE22 rfl Wa_tO3 rfl rfl rfl rfl rfl rfl rfl ?_
      refine n_append 102 (r) ([((((digs m).getD (i) 0) + ((digs n).getD (i) 0)) + (c)) % (1000000000)]) [(101, (AO.row 3 1 (ns .i64 ([((((digs m).getD (i) 0) + ((digs n).getD (i) 0)) + (c)) % (1000000000)]))))] Gd.none Wa_tE22 Wa_tO3 rfl rfl rfl rfl rfl (by simp only [List.length_append, List.length_cons, List.length_nil]; omega) (by decide) rfl rfl ?_
      refine o_assign (AV.row 102) Gd.none rfl ?_
      refine aops_end ?_
      refine hK12 _ ?_
      refine awp_region rfl ?_
      refine o_move (nm .i64 ((((digs m).getD (i) 0) + ((digs n).getD (i) 0)) + (c))) Gd.none rfl ?_
      refine n_quo ((((digs m).getD (i) 0) + ((digs n).getD (i) 0)) + (c)) (1000000000) Gd.none rfl rfl (by omega) (by simp only [topOf]; omega) ?_
      refine o_assign (nm .i64 (((((digs m).getD (i) 0) + ((digs n).getD (i) 0)) + (c)) / (1000000000))) Gd.none rfl ?_
      refine aops_end ?_
      refine hK10 _ ?_
      refine awp_region rfl ?_
      refine o_move (nm .i64 (i)) Gd.none rfl ?_
      refine n_add (i) (1) Gd.none rfl rfl (by simp only [topOf]; omega) ?_
      refine o_assign (nm .i64 ((i) + (1))) Gd.none rfl ?_
      refine aops_end ?_
      refine ⟨_, _, ?lt, ⟨i + 1, (r) ++ ([((((digs m).getD (i) 0) + ((digs n).getD (i) 0)) + (c)) % (1000000000)]), ((((digs m).getD (i) 0) + ((digs n).getD (i) 0)) + (c)) / (1000000000), (by simp [hl]), (hd.snoc (Nat.mod_lt _ (by decide))), (by omega), (add_step hl hv rfl), (more_hi hc hv hi (by omega)), rfl, rfl⟩, ?wk⟩
      case lt => omega
      case wk => exact Wk.trans (Wk.sub (σ' := ⟨[(0, (AV.sl 1 (ns .i64 (digs m)))), (1, (AV.sl 1 (ns .i64 (digs n)))), (5, (AV.row 102)), (6, (nm .i64 (((((digs m).getD (i) 0) + ((digs n).getD (i) 0)) + (c)) / (1000000000)))), (7, (nm .i64 ((i) + (1))))], [(102, (AO.row 3 1 (ns .i64 ((r) ++ ([((((digs m).getD (i) 0) + ((digs n).getD (i) 0)) + (c)) % (1000000000)])))))]⟩) (And.intro rfl (And.intro rfl (And.intro rfl (And.intro rfl (And.intro rfl (trivial)))))) (And.intro rfl (trivial))) (Wk.trans (Wk.ren (id := 102) (id' := 3) rfl) (Wk.sub (And.intro (by exact rfl) (And.intro (by exact rfl) (And.intro (by first | rfl | (simp)) (And.intro (by first | rfl | exact congrArg (nm _) (by omega) | exact nm_int (by omega) | exact nm_int (by simp [IntKind.wrap, IntKind.bits, IntKind.signed]; omega)) (And.intro (by first | rfl | exact congrArg (nm _) (by omega) | exact nm_int (by omega) | exact nm_int (by simp [IntKind.wrap, IntKind.bits, IntKind.signed]; omega)) (trivial)))))) (And.intro (by first | rfl | exact row_ns (by simp) | exact congrArg (fun x => some (AO.blk (.stringIter _ x))) (by omega)) (trivial))))
    · refine o_move (nm .i64 (c)) (Gd.yes rfl rfl (decide_eq_false h2)) rfl ?_
      refine n_gtr (c) (0) (Gd.yes rfl rfl (decide_eq_false h2)) rfl rfl ?_
      refine o_pickF (b := decide ((i) < ((digs n).length))) (bp ((0) < (c))) Gd.none rfl (decide_eq_false h2) rfl ?_
      refine aops_end ?_
      refine hK6 _ ?_
      refine awp_condQ (q := (0) < (c)) rfl (fun h3 => ?_) (fun h3 => ?_)
      · refine awp_skip ?_
        refine hK5 _ ?_
        refine awp_seq fun K13 hK13 => ?_
        refine awp_block ?_
        refine awp_seq fun K14 hK14 => ?_
        refine awp_region rfl ?_
        refine o_move (AV.sl 1 (ns .i64 (digs m))) Gd.none rfl ?_
        refine o_move (nm .i64 (i)) Gd.none rfl ?_
        refine o_call [(AV.sl 1 (ns .i64 (digs m))), (nm .i64 (i))] (nm .i64 ((digs m).getD (i) 0)) Gd.none Wa_tC77 rfl (c_rPart (digs m) (i)) ?_
        refine o_move (AV.sl 1 (ns .i64 (digs n))) Gd.none rfl ?_
        refine o_move (nm .i64 (i)) Gd.none rfl ?_
        refine o_call [(AV.sl 1 (ns .i64 (digs n))), (nm .i64 (i))] (nm .i64 ((digs n).getD (i) 0)) Gd.none Wa_tC77 rfl (c_rPart (digs n) (i)) ?_
        refine n_add ((digs m).getD (i) 0) ((digs n).getD (i) 0) Gd.none rfl rfl (by simp only [topOf]; omega) ?_
        refine o_move (nm .i64 (c)) Gd.none rfl ?_
        refine n_add (((digs m).getD (i) 0) + ((digs n).getD (i) 0)) (c) Gd.none rfl rfl (by simp only [topOf]; omega) ?_
        refine o_assign (nm .i64 ((((digs m).getD (i) 0) + ((digs n).getD (i) 0)) + (c))) Gd.none rfl ?_
        refine aops_end ?_
        refine hK14 _ ?_
        refine awp_seq fun K15 hK15 => ?_
        refine awp_region rfl ?_
        refine o_move (AV.row 3) Gd.none rfl ?_
        refine o_move (nm .i64 ((((digs m).getD (i) 0) + ((digs n).getD (i) 0)) + (c))) Gd.none rfl ?_
        refine n_rem ((((digs m).getD (i) 0) + ((digs n).getD (i) 0)) + (c)) (1000000000) Gd.none rfl rfl (by omega) ?_
        refine o_buildSlice 101 (ns .i64 ([((((digs m).getD (i) 0) + ((digs n).getD (i) 0)) + (c)) % (1000000000)])) [(0, [(nm .i64 (((((digs m).getD (i) 0) + ((digs n).getD (i) 0)) + (c)) % (1000000000)))])] Gd.none Wa_tE22 rfl Wa_tO3 rfl rfl rfl rfl rfl rfl rfl ?_
        refine n_append 102 (r) ([((((digs m).getD (i) 0) + ((digs n).getD (i) 0)) + (c)) % (1000000000)]) [(101, (AO.row 3 1 (ns .i64 ([((((digs m).getD (i) 0) + ((digs n).getD (i) 0)) + (c)) % (1000000000)]))))] Gd.none Wa_tE22 Wa_tO3 rfl rfl rfl rfl rfl (by simp only [List.length_append, List.length_cons, List.length_nil]; omega) (by decide) rfl rfl ?_
        refine o_assign (AV.row 102) Gd.none rfl ?_
        refine aops_end ?_
        refine hK15 _ ?_
        refine awp_region rfl ?_
        refine o_move (nm .i64 ((((digs m).getD (i) 0) + ((digs n).getD (i) 0)) + (c))) Gd.none rfl ?_
        refine n_quo ((((digs m).getD (i) 0) + ((digs n).getD (i) 0)) + (c)) (1000000000) Gd.none rfl rfl (by omega) (by simp only [topOf]; omega) ?_
        refine o_assign (nm .i64 (((((digs m).getD (i) 0) + ((digs n).getD (i) 0)) + (c)) / (1000000000))) Gd.none rfl ?_
        refine aops_end ?_
        refine hK13 _ ?_
        refine awp_region rfl ?_
        refine o_move (nm .i64 (i)) Gd.none rfl ?_
        refine n_add (i) (1) Gd.none rfl rfl (by simp only [topOf]; omega) ?_
        refine o_assign (nm .i64 ((i) + (1))) Gd.none rfl ?_
        refine aops_end ?_
        refine ⟨_, _, ?lt, ⟨i + 1, (r) ++ ([((((digs m).getD (i) 0) + ((digs n).getD (i) 0)) + (c)) % (1000000000)]), ((((digs m).getD (i) 0) + ((digs n).getD (i) 0)) + (c)) / (1000000000), (by simp [hl]), (hd.snoc (Nat.mod_lt _ (by decide))), (by omega), (add_step hl hv rfl), (more_hi hc hv hi (by omega)), rfl, rfl⟩, ?wk⟩
        case lt => omega
        case wk => exact Wk.trans (Wk.sub (σ' := ⟨[(0, (AV.sl 1 (ns .i64 (digs m)))), (1, (AV.sl 1 (ns .i64 (digs n)))), (5, (AV.row 102)), (6, (nm .i64 (((((digs m).getD (i) 0) + ((digs n).getD (i) 0)) + (c)) / (1000000000)))), (7, (nm .i64 ((i) + (1))))], [(102, (AO.row 3 1 (ns .i64 ((r) ++ ([((((digs m).getD (i) 0) + ((digs n).getD (i) 0)) + (c)) % (1000000000)])))))]⟩) (And.intro rfl (And.intro rfl (And.intro rfl (And.intro rfl (And.intro rfl (trivial)))))) (And.intro rfl (trivial))) (Wk.trans (Wk.ren (id := 102) (id' := 3) rfl) (Wk.sub (And.intro (by exact rfl) (And.intro (by exact rfl) (And.intro (by first | rfl | (simp)) (And.intro (by first | rfl | exact congrArg (nm _) (by omega) | exact nm_int (by omega) | exact nm_int (by simp [IntKind.wrap, IntKind.bits, IntKind.signed]; omega)) (And.intro (by first | rfl | exact congrArg (nm _) (by omega) | exact nm_int (by omega) | exact nm_int (by simp [IntKind.wrap, IntKind.bits, IntKind.signed]; omega)) (trivial)))))) (And.intro (by first | rfl | exact row_ns (by simp) | exact congrArg (fun x => some (AO.blk (.stringIter _ x))) (by omega)) (trivial))))
      · refine awp_exit ?_
        refine hK3 _ ?_
        refine awp_seq fun K16 hK16 => ?_
        refine awp_region rfl ?_
        refine o_move (AV.row 3) Gd.none rfl ?_
        refine o_assign (AV.row 3) Gd.none rfl ?_
        refine aops_end ?_
        refine hK16 _ ?_
        refine awp_wk (σ' := ⟨[(4, (AV.row 3))], [(3, (AO.row 3 1 (ns .i64 (r))))]⟩) (Wk.sub (And.intro rfl (trivial)) (And.intro rfl (trivial))) ?_
        refine awp_wk (σ' := ⟨[(4, (AV.sl 1 (ns .i64 (r))))], []⟩) (Wk.freeze (id := 3) (e := 3) (sz := 1) (cs := (ns .i64 (r))) rfl) ?_
        refine awp_ret ?_
        refine post_ret ⟨[(AV.sl 1 (ns .i64 (r)))], And.intro (AV.le_refl _) (trivial), rfl, ?_⟩
        have hc0 : c = 0 := by omega
        subst hc0
        exact ns_congr (more_fin hl hd (by omega) (by omega) hv (by rcases hi with h | ⟨h, _, h'⟩; exact Or.inl h; exact Or.inr ⟨h, h'⟩)).symm

theorem c_rLess (m n : Nat) (hnm : n ≤ m) (hm : (digs m).length ≤ 1000000000) (hn : (digs n).length ≤ 1000000000) : ECalls cx 80 [(AV.sl 1 (ns .i64 (digs m))), (AV.sl 1 (ns .i64 (digs n)))] (.sl 1 (ns .i64 (dgn (digs m).length (m - n)))) := by
  refine ecalls_of_awp Tryd.func80 (c := _) rfl (Nat.le_of_ble_eq_true rfl) ?_
  show awp cx 34 _ (postF cx Tryd.f80 _) ⟨[(0, (AV.sl 1 (ns .i64 (digs m)))), (1, (AV.sl 1 (ns .i64 (digs n))))], []⟩
  refine awp_bound (i := 0) rfl fun hb => ?_
  replace hb := n_bnd hb
  refine awp_bound (i := 1) rfl fun hb2 => ?_
  replace hb2 := n_bnd hb2
  refine awp_seq fun K0 hK0 => ?_
  refine awp_region rfl ?_
  refine o_assign (AV.lit (.slice none 0 0)) Gd.none rfl ?_
  refine aops_end ?_
  refine hK0 _ ?_
  refine awp_seq fun K1 hK1 => ?_
  refine awp_region rfl ?_
  refine o_assign (AV.lit (.slice none 0 0)) Gd.none rfl ?_
  refine aops_end ?_
  refine hK1 _ ?_
  refine awp_seq fun K2 hK2 => ?_
  refine awp_region rfl ?_
  refine o_assign (nm .i64 (0)) Gd.none rfl ?_
  refine aops_end ?_
  refine hK2 _ ?_
  refine awp_seq fun K3 hK3 => ?_
  refine awp_seq fun K4 hK4 => ?_
  refine awp_region rfl ?_
  refine o_assign (nm .i64 (0)) Gd.none rfl ?_
  refine aops_end ?_
  refine hK4 _ ?_
  refine awp_block ?_
  refine awp_loopR (fun κ σ => ∃ (i : Nat), ∃ (r : List Nat), ∃ (c : Nat), (r.length = i) ∧ (i ≤ (digs m).length) ∧ (Dig r) ∧ (c ≤ 1) ∧ (val r + val ((digs n).take i) = val ((digs m).take i) + 1000000000 ^ i * c) ∧ ((digs m).length - i) = κ ∧ σ = ⟨[(0, (AV.sl 1 (ns .i64 (digs m)))), (1, (AV.sl 1 (ns .i64 (digs n)))), (5, (AV.row 3)), (6, (nm .i64 (c))), (7, (nm .i64 (i)))], [(3, (AO.row 3 1 (ns .i64 (r))))]⟩) ⟨_, _, ⟨0, [], 0, rfl, (by omega), Dig.nil, (by omega), (by simp [val]), rfl, rfl⟩, ?wk0⟩ ?rd0
  case wk0 =>
    exact Wk.trans (Wk.newNil (i := 5) (id := 502) (e := 3) (sz := 1) rfl rfl (by decide)) (Wk.trans (Wk.sub (σ' := ⟨[(0, (AV.sl 1 (ns .i64 (digs m)))), (1, (AV.sl 1 (ns .i64 (digs n)))), (5, (AV.row 502)), (6, (nm .i64 (0))), (7, (nm .i64 (0)))], [(502, (AO.row 3 1 (ns .i64 ([]))))]⟩) (And.intro rfl (And.intro rfl (And.intro rfl (And.intro rfl (And.intro rfl (trivial)))))) (And.intro rfl (trivial))) (Wk.trans (Wk.ren (id := 502) (id' := 3) rfl) (Wk.sub (And.intro (by exact rfl) (And.intro (by exact rfl) (And.intro (by first | rfl | (simp)) (And.intro (by first | rfl | exact congrArg (nm _) (by omega) | exact nm_int (by omega) | exact nm_int (by simp [IntKind.wrap, IntKind.bits, IntKind.signed]; omega)) (And.intro (by first | rfl | exact congrArg (nm _) (by omega) | exact nm_int (by omega) | exact nm_int (by simp [IntKind.wrap, IntKind.bits, IntKind.signed]; omega)) (trivial)))))) (And.intro (by first | rfl | exact row_ns (by simp) | exact congrArg (fun x => some (AO.blk (.stringIter _ x))) (by omega)) (trivial)))))
  rintro κ _ ⟨i, r, c, hl, hi, hd, hc, hv, rfl, rfl⟩
  have hA := Dig.getD (digs_dig m) i
  have hB := Dig.getD (digs_dig n) i
  refine awp_seq fun K5 hK5 => ?_
  refine awp_seq fun K6 hK6 => ?_
  refine awp_region rfl ?_
  refine o_move (nm .i64 (i)) Gd.none rfl ?_
  refine o_move (AV.sl 1 (ns .i64 (digs m))) Gd.none rfl ?_
  refine n_len (digs m) Gd.none Wa_tU22 rfl ?_
  refine n_lss (i) ((digs m).length) Gd.none rfl rfl ?_
  refine aops_end ?_
  refine hK6 _ ?_
  refine awp_condQ (q := (i) < ((digs m).length)) rfl (fun h1 => ?_) (fun h1 => ?_)
  · refine awp_skip ?_
    refine hK5 _ ?_
    refine awp_seq fun K7 hK7 => ?_
    refine awp_block ?_
    refine awp_seq fun K8 hK8 => ?_
    refine awp_regionD rfl ?_
    refine o_move (AV.sl 1 (ns .i64 (digs m))) Gd.none rfl ?_
    refine o_move (nm .i64 (i)) Gd.none rfl ?_
    refine n_index (digs m) (i) Gd.none Wa_tE22 rfl rfl (by omega) ?_
    refine n_loadI (digs m) (i) Gd.none Wa_tS3 rfl (by omega) ?_
    refine o_move (AV.sl 1 (ns .i64 (digs n))) Gd.none rfl ?_
    refine o_move (nm .i64 (i)) Gd.none rfl ?_
    refine o_call [(AV.sl 1 (ns .i64 (digs n))), (nm .i64 (i))] (nm .i64 ((digs n).getD (i) 0)) Gd.none Wa_tC77 rfl (c_rPart (digs n) (i)) ?_
    refine o_sub (a := ((((digs m).getD (i) 0 : Nat) : Int))) (c := ((((digs n).getD (i) 0 : Nat) : Int))) Gd.none rfl rfl (by exact wrap64 (by omega) (by omega)) ?_
    refine o_move (nm .i64 (c)) Gd.none rfl ?_
    refine o_sub (a := (((((digs m).getD (i) 0 : Nat) : Int)) - ((((digs n).getD (i) 0 : Nat) : Int)))) (c := (((c : Nat) : Int))) Gd.none rfl rfl (by exact wrap64 (by omega) (by omega)) ?_
    refine o_assign (AV.lit (.int .i64 ((((((digs m).getD (i) 0 : Nat) : Int)) - ((((digs n).getD (i) 0 : Nat) : Int))) - (((c : Nat) : Int))))) Gd.none rfl ?_
    refine aops_end ⟨by kernel_rfl, ?_⟩
    refine hK8 _ ?_
    refine awp_seq fun K9 hK9 => ?_
    refine awp_region rfl ?_
    refine o_assign (nm .i64 (0)) Gd.none rfl ?_
    refine aops_end ?_
    refine hK9 _ ?_
    refine awp_seqJ (J := fun σ => ∃ (x : Nat), ∃ (c' : Nat), (x + ((digs n).getD (i) 0) + c = ((digs m).getD (i) 0) + 1000000000 * c') ∧ (x < 1000000000) ∧ (c' ≤ 1) ∧ True ∧ σ = ⟨[(0, (AV.sl 1 (ns .i64 (digs m)))), (1, (AV.sl 1 (ns .i64 (digs n)))), (5, (AV.row 3)), (6, (nm .i64 (c'))), (7, (nm .i64 (i))), (8, (nm .i64 (x)))], [(3, (AO.row 3 1 (ns .i64 (r))))]⟩) ?ja1 ?jb1
    case ja1 =>
      refine awp_seq fun K10 hK10 => ?_
      refine awp_region rfl ?_
      refine o_move (AV.lit (.int .i64 ((((((digs m).getD (i) 0 : Nat) : Int)) - ((((digs n).getD (i) 0 : Nat) : Int))) - (((c : Nat) : Int))))) Gd.none rfl ?_
      refine o_lss (a := ((((((digs m).getD (i) 0 : Nat) : Int)) - ((((digs n).getD (i) 0 : Nat) : Int))) - (((c : Nat) : Int)))) (c := (((0 : Nat) : Int))) Gd.none rfl rfl ?_
      refine aops_end ?_
      refine hK10 _ ?_
      refine awp_condQ (q := ((((((digs m).getD (i) 0 : Nat) : Int)) - ((((digs n).getD (i) 0 : Nat) : Int))) - (((c : Nat) : Int))) < (((0 : Nat) : Int))) rfl (fun h2 => ?_) (fun h2 => ?_)
      · refine awp_seq fun K11 hK11 => ?_
        refine awp_region rfl ?_
        refine o_move (AV.lit (.int .i64 ((((((digs m).getD (i) 0 : Nat) : Int)) - ((((digs n).getD (i) 0 : Nat) : Int))) - (((c : Nat) : Int))))) Gd.none rfl ?_
        refine o_add (a := ((((((digs m).getD (i) 0 : Nat) : Int)) - ((((digs n).getD (i) 0 : Nat) : Int))) - (((c : Nat) : Int)))) (c := (((1000000000 : Nat) : Int))) Gd.none rfl rfl (by exact wrap64 (by omega) (by omega)) ?_
        refine o_assign (AV.lit (.int .i64 (((((((digs m).getD (i) 0 : Nat) : Int)) - ((((digs n).getD (i) 0 : Nat) : Int))) - (((c : Nat) : Int))) + (((1000000000 : Nat) : Int))))) Gd.none rfl ?_
        refine aops_end ?_
        refine hK11 _ ?_
        refine awp_region rfl ?_
        refine o_assign (nm .i64 (1)) Gd.none rfl ?_
        refine aops_end ?_
        exact ⟨_, ⟨((digs m).getD (i) 0) + 1000000000 - ((digs n).getD (i) 0) - c, 1, (by omega), (by omega), (by omega), trivial, rfl⟩, Wk.sub (And.intro (by exact rfl) (And.intro (by exact rfl) (And.intro (by exact rfl) (And.intro (by first | rfl | exact congrArg (nm _) (by omega) | exact nm_int (by omega) | exact nm_int (by simp [IntKind.wrap, IntKind.bits, IntKind.signed]; omega)) (And.intro (by exact rfl) (And.intro (by first | rfl | exact congrArg (nm _) (by omega) | exact nm_int (by omega) | exact nm_int (by simp [IntKind.wrap, IntKind.bits, IntKind.signed]; omega)) (trivial))))))) (And.intro (by first | rfl | exact row_ns (by simp) | exact congrArg (fun x => some (AO.blk (.stringIter _ x))) (by omega)) (trivial))⟩
      · refine awp_skip ?_
        exact ⟨_, ⟨((digs m).getD (i) 0) - ((digs n).getD (i) 0) - c, 0, (by omega), (by omega), (by omega), trivial, rfl⟩, Wk.sub (And.intro (by exact rfl) (And.intro (by exact rfl) (And.intro (by exact rfl) (And.intro (by first | rfl | exact congrArg (nm _) (by omega) | exact nm_int (by omega) | exact nm_int (by simp [IntKind.wrap, IntKind.bits, IntKind.signed]; omega)) (And.intro (by exact rfl) (And.intro (by first | rfl | exact congrArg (nm _) (by omega) | exact nm_int (by omega) | exact nm_int (by simp [IntKind.wrap, IntKind.bits, IntKind.signed]; omega)) (trivial))))))) (And.intro (by first | rfl | exact row_ns (by simp) | exact congrArg (fun x => some (AO.blk (.stringIter _ x))) (by omega)) (trivial))⟩
    rintro _ ⟨x, c', hs, hx, hc', -, rfl⟩
    refine awp_region rfl ?_
    refine o_move (AV.row 3) Gd.none rfl ?_
    refine o_move (nm .i64 (x)) Gd.none rfl ?_
    refine o_buildSlice 201 (ns .i64 ([x])) [(0, [(nm .i64 (x))])] Gd.none Wa_tE22 rfl Wa_tO3 rfl rfl rfl rfl rfl rfl rfl ?_
    refine n_append 202 (r) ([x]) [(201, (AO.row 3 1 (ns .i64 ([x]))))] Gd.none Wa_tE22 Wa_tO3 rfl rfl rfl rfl rfl (by simp only [List.length_append, List.length_cons, List.length_nil]; omega) (by decide) rfl rfl ?_
    refine o_assign (AV.row 202) Gd.none rfl ?_
    refine aops_end ?_
    refine hK7 _ ?_
    refine awp_region rfl ?_
    refine o_move (nm .i64 (i)) Gd.none rfl ?_
    refine n_add (i) (1) Gd.none rfl rfl (by simp only [topOf]; omega) ?_
    refine o_assign (nm .i64 ((i) + (1))) Gd.none rfl ?_
    refine aops_end ?_
    refine ⟨_, _, ?lt, ⟨i + 1, (r) ++ ([x]), c', (by simp [hl]), (by omega), (hd.snoc hx), hc', (sub_step hl hv hs), rfl, rfl⟩, ?wk⟩
    case lt => omega
    case wk => exact Wk.trans (Wk.sub (σ' := ⟨[(0, (AV.sl 1 (ns .i64 (digs m)))), (1, (AV.sl 1 (ns .i64 (digs n)))), (5, (AV.row 202)), (6, (nm .i64 (c'))), (7, (nm .i64 ((i) + (1))))], [(202, (AO.row 3 1 (ns .i64 ((r) ++ ([x])))))]⟩) (And.intro rfl (And.intro rfl (And.intro rfl (And.intro rfl (And.intro rfl (trivial)))))) (And.intro rfl (trivial))) (Wk.trans (Wk.ren (id := 202) (id' := 3) rfl) (Wk.sub (And.intro (by exact rfl) (And.intro (by exact rfl) (And.intro (by first | rfl | (simp)) (And.intro (by first | rfl | exact congrArg (nm _) (by omega) | exact nm_int (by omega) | exact nm_int (by simp [IntKind.wrap, IntKind.bits, IntKind.signed]; omega)) (And.intro (by first | rfl | exact congrArg (nm _) (by omega) | exact nm_int (by omega) | exact nm_int (by simp [IntKind.wrap, IntKind.bits, IntKind.signed]; omega)) (trivial)))))) (And.intro (by first | rfl | exact row_ns (by simp) | exact congrArg (fun x => some (AO.blk (.stringIter _ x))) (by omega)) (trivial))))
  · refine awp_exit ?_
    refine hK3 _ ?_
    refine awp_seq fun K12 hK12 => ?_
    refine awp_region rfl ?_
    refine o_move (AV.row 3) Gd.none rfl ?_
    refine o_assign (AV.row 3) Gd.none rfl ?_
    refine aops_end ?_
    refine hK12 _ ?_
    refine awp_wk (σ' := ⟨[(4, (AV.row 3))], [(3, (AO.row 3 1 (ns .i64 (r))))]⟩) (Wk.sub (And.intro rfl (trivial)) (And.intro rfl (trivial))) ?_
    refine awp_wk (σ' := ⟨[(4, (AV.sl 1 (ns .i64 (r))))], []⟩) (Wk.freeze (id := 3) (e := 3) (sz := 1) (cs := (ns .i64 (r))) rfl) ?_
    refine awp_ret ?_
    refine post_ret ⟨[(AV.sl 1 (ns .i64 (r)))], And.intro (AV.le_refl _) (trivial), rfl, ?_⟩
    have hil : i = (digs m).length := by omega
    subst hil
    exact ns_congr (less_fin hl hd hnm hv).symm

theorem c_wPlus (m n : Nat) (hm : (digs m).length ≤ 1000000000) (hn : (digs n).length ≤ 1000000000) : ECalls cx 106 [(AV.sl 1 (ns .u32 (digs m))), (AV.sl 1 (ns .u32 (digs n)))] (.sl 1 (ns .u32 (dgn (max (digs m).length (digs n).length + 1) (m + n)))) := by
  refine ecalls_of_awp Tryd.func106 (c := _) rfl (Nat.le_of_ble_eq_true rfl) ?_
  show awp cx 53 _ (postF cx Tryd.f106 _) ⟨[(0, (AV.sl 1 (ns .u32 (digs m)))), (1, (AV.sl 1 (ns .u32 (digs n))))], []⟩
  refine awp_bound (i := 0) rfl fun hb => ?_
  replace hb := n_bnd hb
  refine awp_bound (i := 1) rfl fun hb2 => ?_
  replace hb2 := n_bnd hb2
  refine awp_seq fun K0 hK0 => ?_
  refine awp_region rfl ?_
  refine o_assign (AV.lit (.slice none 0 0)) Gd.none rfl ?_
  refine aops_end ?_
  refine hK0 _ ?_
  refine awp_seqJ (J := fun σ => ∃ (m' : Nat), ∃ (n' : Nat), (m' + n' = m + n) ∧ ((digs n').length ≤ (digs m').length) ∧ ((digs m').length = max (digs m).length (digs n).length) ∧ True ∧ σ = ⟨[(0, (AV.sl 1 (ns .u32 (digs m')))), (1, (AV.sl 1 (ns .u32 (digs n'))))], []⟩) ?ja0 ?jb0
  case ja0 =>
    refine awp_seq fun K1 hK1 => ?_
    refine awp_region rfl ?_
    refine o_move (AV.sl 1 (ns .u32 (digs m))) Gd.none rfl ?_
    refine n_len (digs m) Gd.none Wa_tU87 rfl ?_
    refine o_move (AV.sl 1 (ns .u32 (digs n))) Gd.none rfl ?_
    refine n_len (digs n) Gd.none Wa_tU87 rfl ?_
    refine n_lss ((digs m).length) ((digs n).length) Gd.none rfl rfl ?_
    refine aops_end ?_
    refine hK1 _ ?_
    refine awp_condQ (q := ((digs m).length) < ((digs n).length)) rfl (fun h1 => ?_) (fun h1 => ?_)
    · refine awp_region rfl ?_
      refine o_move (AV.sl 1 (ns .u32 (digs n))) Gd.none rfl ?_
      refine o_move (AV.sl 1 (ns .u32 (digs m))) Gd.none rfl ?_
      refine o_assign (AV.sl 1 (ns .u32 (digs n))) Gd.none rfl ?_
      refine o_assign (AV.sl 1 (ns .u32 (digs m))) Gd.none rfl ?_
      refine aops_end ?_
      exact ⟨_, ⟨n, m, (by omega), (by omega), (by omega), trivial, rfl⟩, Wk.sub (And.intro (by first | rfl | (simp)) (And.intro (by first | rfl | (simp)) (trivial))) (trivial)⟩
    · refine awp_skip ?_
      exact ⟨_, ⟨m, n, (by omega), (by omega), (by omega), trivial, rfl⟩, Wk.sub (And.intro (by first | rfl | (simp)) (And.intro (by first | rfl | (simp)) (trivial))) (trivial)⟩
  rintro _ ⟨m', n', hs, hle, hmx, -, rfl⟩
  refine awp_seq fun K2 hK2 => ?_
  refine awp_region rfl ?_
  refine o_move (AV.sl 1 (ns .u32 (digs m'))) Gd.none rfl ?_
  refine n_len (digs m') Gd.none Wa_tU87 rfl ?_
  refine n_add ((digs m').length) (1) Gd.none rfl rfl (by simp only [topOf]; omega) ?_
  refine n_make0 .u32 101 (((digs m').length) + (1)) Gd.none Wa_tE87 Wa_tO122 rfl rfl (by omega) (by omega) rfl ?_
  refine o_assign (AV.row 101) Gd.none rfl ?_
  refine aops_end ?_
  refine hK2 _ ?_
  refine awp_seq fun K3 hK3 => ?_
  refine awp_region rfl ?_
  refine o_assign (nm .u32 (0)) Gd.none rfl ?_
  refine aops_end ?_
  refine hK3 _ ?_
  refine awp_seq fun K4 hK4 => ?_
  refine awp_seq fun K5 hK5 => ?_
  refine awp_region rfl ?_
  refine o_move (AV.sl 1 (ns .u32 (digs m'))) Gd.none rfl ?_
  refine n_len (digs m') Gd.none Wa_tU87 rfl ?_
  refine o_move (nm .i64 (0)) Gd.none rfl ?_
  refine aops_end ?_
  refine hK5 _ ?_
  refine awp_block ?_
  refine awp_loopR (fun κ σ => ∃ (i : Nat), ∃ (r : List Nat), ∃ (c : Nat), (r.length = i) ∧ (i ≤ (digs m').length) ∧ (Dig r) ∧ (c ≤ 1) ∧ (val r + 1000000000 ^ i * c = val ((digs m').take i) + val ((digs n').take i)) ∧ ((digs m').length - i) = κ ∧ σ = ⟨[(0, (AV.sl 1 (ns .u32 (digs m')))), (1, (AV.sl 1 (ns .u32 (digs n')))), (5, (AV.row 3)), (6, (nm .u32 (c))), (21, (nm .i64 ((digs m').length))), (22, (nm .i64 (i)))], [(3, (AO.row 122 1 (ns .u32 (r))))]⟩) ⟨_, _, ⟨0, [], 0, rfl, (by omega), Dig.nil, (by omega), (by simp [val]), rfl, rfl⟩, ?wk1⟩ ?rd1
  case wk1 =>
    exact Wk.trans (Wk.sub (σ' := ⟨[(0, (AV.sl 1 (ns .u32 (digs m')))), (1, (AV.sl 1 (ns .u32 (digs n')))), (5, (AV.row 101)), (6, (nm .u32 (0))), (21, (nm .i64 ((digs m').length))), (22, (nm .i64 (0)))], [(101, (AO.row 122 1 (ns .u32 ([]))))]⟩) (And.intro rfl (And.intro rfl (And.intro rfl (And.intro rfl (And.intro rfl (And.intro rfl (trivial))))))) (And.intro rfl (trivial))) (Wk.trans (Wk.ren (id := 101) (id' := 3) rfl) (Wk.sub (And.intro (by exact rfl) (And.intro (by exact rfl) (And.intro (by first | rfl | (simp)) (And.intro (by first | rfl | exact congrArg (nm _) (by omega) | exact nm_int (by omega) | exact nm_int (by simp [IntKind.wrap, IntKind.bits, IntKind.signed]; omega)) (And.intro (by exact rfl) (And.intro (by first | rfl | exact congrArg (nm _) (by omega) | exact nm_int (by omega) | exact nm_int (by simp [IntKind.wrap, IntKind.bits, IntKind.signed]; omega)) (trivial))))))) (And.intro (by first | rfl | exact row_ns (by simp) | exact congrArg (fun x => some (AO.blk (.stringIter _ x))) (by omega)) (trivial))))
  rintro κ _ ⟨i, r, c, hl, hi, hd, hc, hv, rfl, rfl⟩
  have hA := Dig.getD (digs_dig m') i
  have hB := Dig.getD (digs_dig n') i
  refine awp_seq fun K6 hK6 => ?_
  refine awp_region rfl ?_
  refine n_lss (i) ((digs m').length) Gd.none rfl rfl ?_
  refine aops_end ?_
  refine hK6 _ ?_
  refine awp_seq fun K7 hK7 => ?_
  refine awp_condQ (q := (i) < ((digs m').length)) rfl (fun h2 => ?_) (fun h2 => ?_)
  · refine awp_skip ?_
    refine hK7 _ ?_
    refine awp_seq fun K8 hK8 => ?_
    refine awp_block ?_
    refine awp_seq fun K9 hK9 => ?_
    refine awp_region rfl ?_
    refine o_move (nm .i64 (i)) Gd.none rfl ?_
    refine o_assign (nm .i64 (i)) Gd.none rfl ?_
    refine aops_end ?_
    refine hK9 _ ?_
    refine awp_seq fun K10 hK10 => ?_
    refine awp_region rfl ?_
    refine o_move (AV.sl 1 (ns .u32 (digs m'))) Gd.none rfl ?_
    refine o_move (nm .i64 (i)) Gd.none rfl ?_
    refine n_index (digs m') (i) Gd.none Wa_tE87 rfl rfl (by omega) ?_
    refine n_loadI (digs m') (i) Gd.none Wa_tS122 rfl (by omega) ?_
    refine o_move (nm .u32 (c)) Gd.none rfl ?_
    refine n_add ((digs m').getD (i) 0) (c) Gd.none rfl rfl (by simp only [topOf]; omega) ?_
    refine o_assign (nm .u32 (((digs m').getD (i) 0) + (c))) Gd.none rfl ?_
    refine aops_end ?_
    refine hK10 _ ?_
    refine awp_seq fun K11 hK11 => ?_
    refine awp_seq fun K12 hK12 => ?_
    refine awp_region rfl ?_
    refine o_move (nm .i64 (i)) Gd.none rfl ?_
    refine o_move (AV.sl 1 (ns .u32 (digs n'))) Gd.none rfl ?_
    refine n_len (digs n') Gd.none Wa_tU87 rfl ?_
    refine n_lss (i) ((digs n').length) Gd.none rfl rfl ?_
    refine aops_end ?_
    refine hK12 _ ?_
    refine awp_condQ (q := (i) < ((digs n').length)) rfl (fun h3 => ?_) (fun h3 => ?_)
    · refine awp_region rfl ?_
      refine o_move (nm .u32 (((digs m').getD (i) 0) + (c))) Gd.none rfl ?_
      refine o_move (AV.sl 1 (ns .u32 (digs n'))) Gd.none rfl ?_
      refine o_move (nm .i64 (i)) Gd.none rfl ?_
      refine n_index (digs n') (i) Gd.none Wa_tE87 rfl rfl (by omega) ?_
      refine n_loadI (digs n') (i) Gd.none Wa_tS122 rfl (by omega) ?_
      refine n_add (((digs m').getD (i) 0) + (c)) ((digs n').getD (i) 0) Gd.none rfl rfl (by simp only [topOf]; omega) ?_
      refine o_assign (nm .u32 ((((digs m').getD (i) 0) + (c)) + ((digs n').getD (i) 0))) Gd.none rfl ?_
      refine aops_end ?_
      refine hK11 _ ?_
      refine awp_seq fun K13 hK13 => ?_
      refine awp_region rfl ?_
      refine o_move (nm .u32 ((((digs m').getD (i) 0) + (c)) + ((digs n').getD (i) 0))) Gd.none rfl ?_
      refine n_quo ((((digs m').getD (i) 0) + (c)) + ((digs n').getD (i) 0)) (1000000000) Gd.none rfl rfl (by omega) (by simp only [topOf]; omega) ?_
      refine o_assign (nm .u32 (((((digs m').getD (i) 0) + (c)) + ((digs n').getD (i) 0)) / (1000000000))) Gd.none rfl ?_
      refine aops_end ?_
      refine hK13 _ ?_
      refine awp_region rfl ?_
      refine o_move (AV.row 3) Gd.none rfl ?_
      refine o_move (nm .u32 ((((digs m').getD (i) 0) + (c)) + ((digs n').getD (i) 0))) Gd.none rfl ?_
      refine n_rem ((((digs m').getD (i) 0) + (c)) + ((digs n').getD (i) 0)) (1000000000) Gd.none rfl rfl (by omega) ?_
      refine o_buildSlice 201 (ns .u32 ([((((digs m').getD (i) 0) + (c)) + ((digs n').getD (i) 0)) % (1000000000)])) [(0, [(nm .u32 (((((digs m').getD (i) 0) + (c)) + ((digs n').getD (i) 0)) % (1000000000)))])] Gd.none Wa_tE87 rfl Wa_tO122 rfl rfl rfl rfl rfl rfl rfl ?_
      refine n_append 202 (r) ([((((digs m').getD (i) 0) + (c)) + ((digs n').getD (i) 0)) % (1000000000)]) [(201, (AO.row 122 1 (ns .u32 ([((((digs m').getD (i) 0) + (c)) + ((digs n').getD (i) 0)) % (1000000000)]))))] Gd.none Wa_tE87 Wa_tO122 rfl rfl rfl rfl rfl (by simp only [List.length_append, List.length_cons, List.length_nil]; omega) (by decide) rfl rfl ?_
      refine o_assign (AV.row 202) Gd.none rfl ?_
      refine aops_end ?_
      refine hK8 _ ?_
      refine awp_region rfl ?_
      refine n_add (i) (1) Gd.none rfl rfl (by simp only [topOf]; omega) ?_
      refine o_move (nm .i64 ((i) + (1))) Gd.none rfl ?_
      refine aops_end ?_
      refine ⟨_, _, ?lt, ⟨i + 1, (r) ++ ([((((digs m').getD (i) 0) + (c)) + ((digs n').getD (i) 0)) % (1000000000)]), ((((digs m').getD (i) 0) + (c)) + ((digs n').getD (i) 0)) / (1000000000), (by simp [hl]), (by omega), (hd.snoc (Nat.mod_lt _ (by decide))), (by omega), (add_step hl hv (by omega)), rfl, rfl⟩, ?wk⟩
      case lt => omega
      case wk => exact Wk.trans (Wk.sub (σ' := ⟨[(0, (AV.sl 1 (ns .u32 (digs m')))), (1, (AV.sl 1 (ns .u32 (digs n')))), (5, (AV.row 202)), (6, (nm .u32 (((((digs m').getD (i) 0) + (c)) + ((digs n').getD (i) 0)) / (1000000000)))), (21, (nm .i64 ((digs m').length))), (22, (nm .i64 ((i) + (1))))], [(202, (AO.row 122 1 (ns .u32 ((r) ++ ([((((digs m').getD (i) 0) + (c)) + ((digs n').getD (i) 0)) % (1000000000)])))))]⟩) (And.intro rfl (And.intro rfl (And.intro rfl (And.intro rfl (And.intro rfl (And.intro rfl (trivial))))))) (And.intro rfl (trivial))) (Wk.trans (Wk.ren (id := 202) (id' := 3) rfl) (Wk.sub (And.intro (by exact rfl) (And.intro (by exact rfl) (And.intro (by first | rfl | (simp)) (And.intro (by first | rfl | exact congrArg (nm _) (by omega) | exact nm_int (by omega) | exact nm_int (by simp [IntKind.wrap, IntKind.bits, IntKind.signed]; omega)) (And.intro (by exact rfl) (And.intro (by first | rfl | exact congrArg (nm _) (by omega) | exact nm_int (by omega) | exact nm_int (by simp [IntKind.wrap, IntKind.bits, IntKind.signed]; omega)) (trivial))))))) (And.intro (by first | rfl | exact row_ns (by simp) | exact congrArg (fun x => some (AO.blk (.stringIter _ x))) (by omega)) (trivial))))
    · refine awp_skip ?_
      refine hK11 _ ?_
      refine awp_seq fun K14 hK14 => ?_
      refine awp_region rfl ?_
      refine o_move (nm .u32 (((digs m').getD (i) 0) + (c))) Gd.none rfl ?_
      refine n_quo (((digs m').getD (i) 0) + (c)) (1000000000) Gd.none rfl rfl (by omega) (by simp only [topOf]; omega) ?_
      refine o_assign (nm .u32 ((((digs m').getD (i) 0) + (c)) / (1000000000))) Gd.none rfl ?_
      refine aops_end ?_
      refine hK14 _ ?_
      refine awp_region rfl ?_
      refine o_move (AV.row 3) Gd.none rfl ?_
      refine o_move (nm .u32 (((digs m').getD (i) 0) + (c))) Gd.none rfl ?_
      refine n_rem (((digs m').getD (i) 0) + (c)) (1000000000) Gd.none rfl rfl (by omega) ?_
      refine o_buildSlice 201 (ns .u32 ([(((digs m').getD (i) 0) + (c)) % (1000000000)])) [(0, [(nm .u32 ((((digs m').getD (i) 0) + (c)) % (1000000000)))])] Gd.none Wa_tE87 rfl Wa_tO122 rfl rfl rfl rfl rfl rfl rfl ?_
      refine n_append 202 (r) ([(((digs m').getD (i) 0) + (c)) % (1000000000)]) [(201, (AO.row 122 1 (ns .u32 ([(((digs m').getD (i) 0) + (c)) % (1000000000)]))))] Gd.none Wa_tE87 Wa_tO122 rfl rfl rfl rfl rfl (by simp only [List.length_append, List.length_cons, List.length_nil]; omega) (by decide) rfl rfl ?_
      refine o_assign (AV.row 202) Gd.none rfl ?_
      refine aops_end ?_
      refine hK8 _ ?_
      refine awp_region rfl ?_
      refine n_add (i) (1) Gd.none rfl rfl (by simp only [topOf]; omega) ?_
      refine o_move (nm .i64 ((i) + (1))) Gd.none rfl ?_
      refine aops_end ?_
      refine ⟨_, _, ?lt, ⟨i + 1, (r) ++ ([(((digs m').getD (i) 0) + (c)) % (1000000000)]), (((digs m').getD (i) 0) + (c)) / (1000000000), (by simp [hl]), (by omega), (hd.snoc (Nat.mod_lt _ (by decide))), (by omega), (add_step hl hv (by rw [getD_ge (xs := digs n') (by omega)]; omega)), rfl, rfl⟩, ?wk⟩
      case lt => omega
      case wk => exact Wk.trans (Wk.sub (σ' := ⟨[(0, (AV.sl 1 (ns .u32 (digs m')))), (1, (AV.sl 1 (ns .u32 (digs n')))), (5, (AV.row 202)), (6, (nm .u32 ((((digs m').getD (i) 0) + (c)) / (1000000000)))), (21, (nm .i64 ((digs m').length))), (22, (nm .i64 ((i) + (1))))], [(202, (AO.row 122 1 (ns .u32 ((r) ++ ([(((digs m').getD (i) 0) + (c)) % (1000000000)])))))]⟩) (And.intro rfl (And.intro rfl (And.intro rfl (And.intro rfl (And.intro rfl (And.intro rfl (trivial))))))) (And.intro rfl (trivial))) (Wk.trans (Wk.ren (id := 202) (id' := 3) rfl) (Wk.sub (And.intro (by exact rfl) (And.intro (by exact rfl) (And.intro (by first | rfl | (simp)) (And.intro (by first | rfl | exact congrArg (nm _) (by omega) | exact nm_int (by omega) | exact nm_int (by simp [IntKind.wrap, IntKind.bits, IntKind.signed]; omega)) (And.intro (by exact rfl) (And.intro (by first | rfl | exact congrArg (nm _) (by omega) | exact nm_int (by omega) | exact nm_int (by simp [IntKind.wrap, IntKind.bits, IntKind.signed]; omega)) (trivial))))))) (And.intro (by first | rfl | exact row_ns (by simp) | exact congrArg (fun x => some (AO.blk (.stringIter _ x))) (by omega)) (trivial))))
  · refine awp_exit ?_
    refine hK4 _ ?_
    refine awp_seq fun K15 hK15 => ?_
    refine awp_region rfl ?_
    refine o_move (AV.row 3) Gd.none rfl ?_
    refine o_move (nm .u32 (c)) Gd.none rfl ?_
    refine o_buildSlice 201 (ns .u32 ([c])) [(0, [(nm .u32 (c))])] Gd.none Wa_tE87 rfl Wa_tO122 rfl rfl rfl rfl rfl rfl rfl ?_
    refine n_append 202 (r) ([c]) [(201, (AO.row 122 1 (ns .u32 ([c]))))] Gd.none Wa_tE87 Wa_tO122 rfl rfl rfl rfl rfl (by simp only [List.length_append, List.length_cons, List.length_nil]; omega) (by decide) rfl rfl ?_
    refine o_assign (AV.row 202) Gd.none rfl ?_
    refine aops_end ?_
    refine hK15 _ ?_
    refine awp_wk (σ' := ⟨[(4, (AV.row 202))], [(202, (AO.row 122 1 (ns .u32 ((r) ++ ([c])))))]⟩) (Wk.sub (And.intro rfl (trivial)) (And.intro rfl (trivial))) ?_
    refine awp_wk (σ' := ⟨[(4, (AV.sl 1 (ns .u32 ((r) ++ ([c])))))], []⟩) (Wk.freeze (id := 202) (e := 122) (sz := 1) (cs := (ns .u32 ((r) ++ ([c])))) rfl) ?_
    refine awp_ret ?_
    refine post_ret ⟨[(AV.sl 1 (ns .u32 ((r) ++ ([c]))))], And.intro (AV.le_refl _) (trivial), rfl, ?_⟩
    have hil : i = (digs m').length := by omega
    subst hil
    rw [val_take_all (xs := digs m') (Nat.le_refl _), val_take_all (xs := digs n') hle, val_digs, val_digs] at hv
    exact ns_congr (dgn_eq (hd.snoc (by omega)) (by simp; omega) (by rw [val_snoc, hl]; omega)).symm

theorem c_wLess (m n : Nat) (hnm : n ≤ m) (hm : (digs m).length ≤ 1000000000) (hn : (digs n).length ≤ 1000000000) : ECalls cx 107 [(AV.sl 1 (ns .u32 (digs m))), (AV.sl 1 (ns .u32 (digs n)))] (.sl 1 (ns .u32 (dgn (digs m).length (m - n)))) := by
  refine ecalls_of_awp Tryd.func107 (c := _) rfl (Nat.le_of_ble_eq_true rfl) ?_
  show awp cx 46 _ (postF cx Tryd.f107 _) ⟨[(0, (AV.sl 1 (ns .u32 (digs m)))), (1, (AV.sl 1 (ns .u32 (digs n))))], []⟩
  refine awp_bound (i := 0) rfl fun hb => ?_
  replace hb := n_bnd hb
  refine awp_bound (i := 1) rfl fun hb2 => ?_
  replace hb2 := n_bnd hb2
  refine awp_seq fun K0 hK0 => ?_
  refine awp_region rfl ?_
  refine o_assign (AV.lit (.slice none 0 0)) Gd.none rfl ?_
  refine aops_end ?_
  refine hK0 _ ?_
  refine awp_seq fun K1 hK1 => ?_
  refine awp_region rfl ?_
  refine o_move (AV.sl 1 (ns .u32 (digs m))) Gd.none rfl ?_
  refine n_len (digs m) Gd.none Wa_tU87 rfl ?_
  refine n_make0 .u32 2 ((digs m).length) Gd.none Wa_tE87 Wa_tO122 rfl rfl (by omega) (by omega) rfl ?_
  refine o_assign (AV.row 2) Gd.none rfl ?_
  refine aops_end ?_
  refine hK1 _ ?_
  refine awp_seq fun K2 hK2 => ?_
  refine awp_region rfl ?_
  refine o_assign (nm .i64 (0)) Gd.none rfl ?_
  refine aops_end ?_
  refine hK2 _ ?_
  refine awp_seq fun K3 hK3 => ?_
  refine awp_seq fun K4 hK4 => ?_
  refine awp_region rfl ?_
  refine o_move (AV.sl 1 (ns .u32 (digs m))) Gd.none rfl ?_
  refine n_len (digs m) Gd.none Wa_tU87 rfl ?_
  refine o_move (nm .i64 (0)) Gd.none rfl ?_
  refine aops_end ?_
  refine hK4 _ ?_
  refine awp_block ?_
  refine awp_loopR (fun κ σ => ∃ (i : Nat), ∃ (r : List Nat), ∃ (c : Nat), (r.length = i) ∧ (i ≤ (digs m).length) ∧ (Dig r) ∧ (c ≤ 1) ∧ (val r + val ((digs n).take i) = val ((digs m).take i) + 1000000000 ^ i * c) ∧ ((digs m).length - i) = κ ∧ σ = ⟨[(0, (AV.sl 1 (ns .u32 (digs m)))), (1, (AV.sl 1 (ns .u32 (digs n)))), (5, (AV.row 3)), (6, (nm .i64 (c))), (13, (nm .i64 ((digs m).length))), (14, (nm .i64 (i)))], [(3, (AO.row 122 1 (ns .u32 (r))))]⟩) ⟨_, _, ⟨0, [], 0, rfl, (by omega), Dig.nil, (by omega), (by simp [val]), rfl, rfl⟩, ?wk0⟩ ?rd0
  case wk0 =>
    exact Wk.trans (Wk.sub (σ' := ⟨[(0, (AV.sl 1 (ns .u32 (digs m)))), (1, (AV.sl 1 (ns .u32 (digs n)))), (5, (AV.row 2)), (6, (nm .i64 (0))), (13, (nm .i64 ((digs m).length))), (14, (nm .i64 (0)))], [(2, (AO.row 122 1 (ns .u32 ([]))))]⟩) (And.intro rfl (And.intro rfl (And.intro rfl (And.intro rfl (And.intro rfl (And.intro rfl (trivial))))))) (And.intro rfl (trivial))) (Wk.trans (Wk.ren (id := 2) (id' := 3) rfl) (Wk.sub (And.intro (by exact rfl) (And.intro (by exact rfl) (And.intro (by first | rfl | (simp)) (And.intro (by first | rfl | exact congrArg (nm _) (by omega) | exact nm_int (by omega) | exact nm_int (by simp [IntKind.wrap, IntKind.bits, IntKind.signed]; omega)) (And.intro (by exact rfl) (And.intro (by first | rfl | exact congrArg (nm _) (by omega) | exact nm_int (by omega) | exact nm_int (by simp [IntKind.wrap, IntKind.bits, IntKind.signed]; omega)) (trivial))))))) (And.intro (by first | rfl | exact row_ns (by simp) | exact congrArg (fun x => some (AO.blk (.stringIter _ x))) (by omega)) (trivial))))
  rintro κ _ ⟨i, r, c, hl, hi, hd, hc, hv, rfl, rfl⟩
  have hA := Dig.getD (digs_dig m) i
  have hB := Dig.getD (digs_dig n) i
  refine awp_seq fun K5 hK5 => ?_
  refine awp_region rfl ?_
  refine n_lss (i) ((digs m).length) Gd.none rfl rfl ?_
  refine aops_end ?_
  refine hK5 _ ?_
  refine awp_seq fun K6 hK6 => ?_
  refine awp_condQ (q := (i) < ((digs m).length)) rfl (fun h1 => ?_) (fun h1 => ?_)
  · refine awp_skip ?_
    refine hK6 _ ?_
    refine awp_seq fun K7 hK7 => ?_
    refine awp_block ?_
    refine awp_seq fun K8 hK8 => ?_
    refine awp_region rfl ?_
    refine o_move (nm .i64 (i)) Gd.none rfl ?_
    refine o_assign (nm .i64 (i)) Gd.none rfl ?_
    refine aops_end ?_
    refine hK8 _ ?_
    refine awp_seq fun K9 hK9 => ?_
    refine awp_region rfl ?_
    refine o_move (AV.sl 1 (ns .u32 (digs m))) Gd.none rfl ?_
    refine o_move (nm .i64 (i)) Gd.none rfl ?_
    refine n_index (digs m) (i) Gd.none Wa_tE87 rfl rfl (by omega) ?_
    refine n_loadI (digs m) (i) Gd.none Wa_tS122 rfl (by omega) ?_
    refine n_conv ((digs m).getD (i) 0) Gd.none rfl Wa_tI122 Wa_tI2 (by simp only [topOf]; omega) ?_
    refine o_move (nm .i64 (c)) Gd.none rfl ?_
    refine o_sub (a := ((((digs m).getD (i) 0 : Nat) : Int))) (c := (((c : Nat) : Int))) Gd.none rfl rfl (by exact wrap64 (by omega) (by omega)) ?_
    refine o_assign (AV.lit (.int .i64 (((((digs m).getD (i) 0 : Nat) : Int)) - (((c : Nat) : Int))))) Gd.none rfl ?_
    refine aops_end ?_
    refine hK9 _ ?_
    refine awp_seqJ (J := fun σ => ∃ (y : Int), (y = (((digs m).getD (i) 0) : Int) - c - ((digs n).getD (i) 0)) ∧ True ∧ σ = ⟨[(0, (AV.sl 1 (ns .u32 (digs m)))), (1, (AV.sl 1 (ns .u32 (digs n)))), (5, (AV.row 3)), (7, (nm .i64 (i))), (8, (AV.lit (.int .i64 (y)))), (13, (nm .i64 ((digs m).length))), (14, (nm .i64 (i)))], [(3, (AO.row 122 1 (ns .u32 (r))))]⟩) ?ja1 ?jb1
    case ja1 =>
      refine awp_seq fun K10 hK10 => ?_
      refine awp_region rfl ?_
      refine o_move (nm .i64 (i)) Gd.none rfl ?_
      refine o_move (AV.sl 1 (ns .u32 (digs n))) Gd.none rfl ?_
      refine n_len (digs n) Gd.none Wa_tU87 rfl ?_
      refine n_lss (i) ((digs n).length) Gd.none rfl rfl ?_
      refine aops_end ?_
      refine hK10 _ ?_
      refine awp_condQ (q := (i) < ((digs n).length)) rfl (fun h2 => ?_) (fun h2 => ?_)
      · refine awp_region rfl ?_
        refine o_move (AV.lit (.int .i64 (((((digs m).getD (i) 0 : Nat) : Int)) - (((c : Nat) : Int))))) Gd.none rfl ?_
        refine o_move (AV.sl 1 (ns .u32 (digs n))) Gd.none rfl ?_
        refine o_move (nm .i64 (i)) Gd.none rfl ?_
        refine n_index (digs n) (i) Gd.none Wa_tE87 rfl rfl (by omega) ?_
        refine n_loadI (digs n) (i) Gd.none Wa_tS122 rfl (by omega) ?_
        refine n_conv ((digs n).getD (i) 0) Gd.none rfl Wa_tI122 Wa_tI2 (by simp only [topOf]; omega) ?_
        refine o_sub (a := (((((digs m).getD (i) 0 : Nat) : Int)) - (((c : Nat) : Int)))) (c := ((((digs n).getD (i) 0 : Nat) : Int))) Gd.none rfl rfl (by exact wrap64 (by omega) (by omega)) ?_
        refine o_assign (AV.lit (.int .i64 ((((((digs m).getD (i) 0 : Nat) : Int)) - (((c : Nat) : Int))) - ((((digs n).getD (i) 0 : Nat) : Int))))) Gd.none rfl ?_
        refine aops_end ?_
        exact ⟨_, ⟨(((((digs m).getD (i) 0 : Nat) : Int)) - (((c : Nat) : Int))) - ((((digs n).getD (i) 0 : Nat) : Int)), (by omega), trivial, rfl⟩, Wk.sub (And.intro (by exact rfl) (And.intro (by exact rfl) (And.intro (by exact rfl) (And.intro (by exact rfl) (And.intro (by first | rfl | exact int_eq (by omega) | exact int_nm (by omega)) (And.intro (by exact rfl) (And.intro (by exact rfl) (trivial)))))))) (And.intro (by first | rfl | exact row_ns (by simp) | exact congrArg (fun x => some (AO.blk (.stringIter _ x))) (by omega)) (trivial))⟩
      · refine awp_skip ?_
        exact ⟨_, ⟨((((digs m).getD (i) 0 : Nat) : Int)) - (((c : Nat) : Int)), (by rw [getD_ge (xs := digs n) (by omega)]; omega), trivial, rfl⟩, Wk.sub (And.intro (by exact rfl) (And.intro (by exact rfl) (And.intro (by exact rfl) (And.intro (by exact rfl) (And.intro (by first | rfl | exact int_eq (by omega) | exact int_nm (by omega)) (And.intro (by exact rfl) (And.intro (by exact rfl) (trivial)))))))) (And.intro (by first | rfl | exact row_ns (by simp) | exact congrArg (fun x => some (AO.blk (.stringIter _ x))) (by omega)) (trivial))⟩
    rintro _ ⟨y, hy, -, rfl⟩
    refine awp_seq fun K11 hK11 => ?_
    refine awp_region rfl ?_
    refine o_assign (nm .i64 (0)) Gd.none rfl ?_
    refine aops_end ?_
    refine hK11 _ ?_
    refine awp_seqJ (J := fun σ => ∃ (x : Nat), ∃ (c' : Nat), (x + ((digs n).getD (i) 0) + c = ((digs m).getD (i) 0) + 1000000000 * c') ∧ (x < 1000000000) ∧ (c' ≤ 1) ∧ True ∧ σ = ⟨[(0, (AV.sl 1 (ns .u32 (digs m)))), (1, (AV.sl 1 (ns .u32 (digs n)))), (5, (AV.row 3)), (6, (nm .i64 (c'))), (8, (nm .i64 (x))), (13, (nm .i64 ((digs m).length))), (14, (nm .i64 (i)))], [(3, (AO.row 122 1 (ns .u32 (r))))]⟩) ?ja2 ?jb2
    case ja2 =>
      refine awp_seq fun K12 hK12 => ?_
      refine awp_region rfl ?_
      refine o_move (AV.lit (.int .i64 (y))) Gd.none rfl ?_
      refine o_lss (a := (y)) (c := (((0 : Nat) : Int))) Gd.none rfl rfl ?_
      refine aops_end ?_
      refine hK12 _ ?_
      refine awp_condQ (q := (y) < (((0 : Nat) : Int))) rfl (fun h3 => ?_) (fun h3 => ?_)
      · refine awp_seq fun K13 hK13 => ?_
        refine awp_region rfl ?_
        refine o_move (AV.lit (.int .i64 (y))) Gd.none rfl ?_
        refine o_add (a := (y)) (c := (((1000000000 : Nat) : Int))) Gd.none rfl rfl (by exact wrap64 (by omega) (by omega)) ?_
        refine o_assign (AV.lit (.int .i64 ((y) + (((1000000000 : Nat) : Int))))) Gd.none rfl ?_
        refine aops_end ?_
        refine hK13 _ ?_
        refine awp_region rfl ?_
        refine o_assign (nm .i64 (1)) Gd.none rfl ?_
        refine aops_end ?_
        exact ⟨_, ⟨((digs m).getD (i) 0) + 1000000000 - ((digs n).getD (i) 0) - c, 1, (by omega), (by omega), (by omega), trivial, rfl⟩, Wk.sub (And.intro (by exact rfl) (And.intro (by exact rfl) (And.intro (by exact rfl) (And.intro (by first | rfl | exact congrArg (nm _) (by omega) | exact nm_int (by omega) | exact nm_int (by simp [IntKind.wrap, IntKind.bits, IntKind.signed]; omega)) (And.intro (by first | rfl | exact congrArg (nm _) (by omega) | exact nm_int (by omega) | exact nm_int (by simp [IntKind.wrap, IntKind.bits, IntKind.signed]; omega)) (And.intro (by exact rfl) (And.intro (by exact rfl) (trivial)))))))) (And.intro (by first | rfl | exact row_ns (by simp) | exact congrArg (fun x => some (AO.blk (.stringIter _ x))) (by omega)) (trivial))⟩
      · refine awp_skip ?_
        exact ⟨_, ⟨((digs m).getD (i) 0) - ((digs n).getD (i) 0) - c, 0, (by omega), (by omega), (by omega), trivial, rfl⟩, Wk.sub (And.intro (by exact rfl) (And.intro (by exact rfl) (And.intro (by exact rfl) (And.intro (by first | rfl | exact congrArg (nm _) (by omega) | exact nm_int (by omega) | exact nm_int (by simp [IntKind.wrap, IntKind.bits, IntKind.signed]; omega)) (And.intro (by first | rfl | exact congrArg (nm _) (by omega) | exact nm_int (by omega) | exact nm_int (by simp [IntKind.wrap, IntKind.bits, IntKind.signed]; omega)) (And.intro (by exact rfl) (And.intro (by exact rfl) (trivial)))))))) (And.intro (by first | rfl | exact row_ns (by simp) | exact congrArg (fun x => some (AO.blk (.stringIter _ x))) (by omega)) (trivial))⟩
    rintro _ ⟨x, c', hs, hx, hc', -, rfl⟩
    refine awp_region rfl ?_
    refine o_move (AV.row 3) Gd.none rfl ?_
    refine o_move (nm .i64 (x)) Gd.none rfl ?_
    refine n_conv (x) Gd.none rfl Wa_tI2 Wa_tI122 (by simp only [topOf]; omega) ?_
    refine o_buildSlice 301 (ns .u32 ([x])) [(0, [(nm .u32 (x))])] Gd.none Wa_tE87 rfl Wa_tO122 rfl rfl rfl rfl rfl rfl rfl ?_
    refine n_append 302 (r) ([x]) [(301, (AO.row 122 1 (ns .u32 ([x]))))] Gd.none Wa_tE87 Wa_tO122 rfl rfl rfl rfl rfl (by simp only [List.length_append, List.length_cons, List.length_nil]; omega) (by decide) rfl rfl ?_
    refine o_assign (AV.row 302) Gd.none rfl ?_
    refine aops_end ?_
    refine hK7 _ ?_
    refine awp_region rfl ?_
    refine n_add (i) (1) Gd.none rfl rfl (by simp only [topOf]; omega) ?_
    refine o_move (nm .i64 ((i) + (1))) Gd.none rfl ?_
    refine aops_end ?_
    refine ⟨_, _, ?lt, ⟨i + 1, (r) ++ ([x]), c', (by simp [hl]), (by omega), (hd.snoc hx), hc', (sub_step hl hv hs), rfl, rfl⟩, ?wk⟩
    case lt => omega
    case wk => exact Wk.trans (Wk.sub (σ' := ⟨[(0, (AV.sl 1 (ns .u32 (digs m)))), (1, (AV.sl 1 (ns .u32 (digs n)))), (5, (AV.row 302)), (6, (nm .i64 (c'))), (13, (nm .i64 ((digs m).length))), (14, (nm .i64 ((i) + (1))))], [(302, (AO.row 122 1 (ns .u32 ((r) ++ ([x])))))]⟩) (And.intro rfl (And.intro rfl (And.intro rfl (And.intro rfl (And.intro rfl (And.intro rfl (trivial))))))) (And.intro rfl (trivial))) (Wk.trans (Wk.ren (id := 302) (id' := 3) rfl) (Wk.sub (And.intro (by exact rfl) (And.intro (by exact rfl) (And.intro (by first | rfl | (simp)) (And.intro (by first | rfl | exact congrArg (nm _) (by omega) | exact nm_int (by omega) | exact nm_int (by simp [IntKind.wrap, IntKind.bits, IntKind.signed]; omega)) (And.intro (by exact rfl) (And.intro (by first | rfl | exact congrArg (nm _) (by omega) | exact nm_int (by omega) | exact nm_int (by simp [IntKind.wrap, IntKind.bits, IntKind.signed]; omega)) (trivial))))))) (And.intro (by first | rfl | exact row_ns (by simp) | exact congrArg (fun x => some (AO.blk (.stringIter _ x))) (by omega)) (trivial))))
  · refine awp_exit ?_
    refine hK3 _ ?_
    refine awp_seq fun K14 hK14 => ?_
    refine awp_region rfl ?_
    refine o_move (AV.row 3) Gd.none rfl ?_
    refine o_assign (AV.row 3) Gd.none rfl ?_
    refine aops_end ?_
    refine hK14 _ ?_
    refine awp_wk (σ' := ⟨[(4, (AV.row 3))], [(3, (AO.row 122 1 (ns .u32 (r))))]⟩) (Wk.sub (And.intro rfl (trivial)) (And.intro rfl (trivial))) ?_
    refine awp_wk (σ' := ⟨[(4, (AV.sl 1 (ns .u32 (r))))], []⟩) (Wk.freeze (id := 3) (e := 122) (sz := 1) (cs := (ns .u32 (r))) rfl) ?_
    refine awp_ret ?_
    refine post_ret ⟨[(AV.sl 1 (ns .u32 (r)))], And.intro (AV.le_refl _) (trivial), rfl, ?_⟩
    have hil : i = (digs m).length := by omega
    subst hil
    exact ns_congr (less_fin hl hd hnm hv).symm

theorem c_rAdd (x y : Int) (hx : (digs x.natAbs).length ≤ 1000000000) (hy : (digs y.natAbs).length ≤ 1000000000) : ECalls cx 32 [(intR (x)), (intR (y))] (intR ((x + y))) := by
  refine ecalls_of_awp Tryd.func32 (c := _) rfl (Nat.le_of_ble_eq_true rfl) ?_
  show awp cx 40 _ (postF cx Tryd.f32 _) ⟨[(0, (intR (x))), (1, (intR (y)))], []⟩
  refine awp_seq fun K0 hK0 => ?_
  refine awp_region rfl ?_
  refine o_box 2 [(bp (x < 0)), (AV.sl 1 (ns .i64 (digs (x).natAbs)))] Gd.none rfl rfl ?_
  refine o_box 3 [(bp (y < 0)), (AV.sl 1 (ns .i64 (digs (y).natAbs)))] Gd.none rfl rfl ?_
  refine o_alloc 4 [(AV.lit (.bool false)), (AV.lit (.slice none 0 0))] Gd.none Wa_tO36 rfl rfl rfl ?_
  refine aops_end ?_
  refine hK0 _ ?_
  refine awp_seq fun K1 hK1 => ?_
  refine awp_seq fun K2 hK2 => ?_
  refine awp_region rfl ?_
  refine o_fieldRef 0 Gd.none Wa_tF36_0 rfl rfl ?_
  refine o_loadS (bp (x < 0)) Gd.none Wa_tS4 rfl rfl rfl ?_
  refine o_fieldRef 0 Gd.none Wa_tF36_0 rfl rfl ?_
  refine o_loadS (bp (y < 0)) Gd.none Wa_tS4 rfl rfl rfl ?_
  refine o_eqlB (a := (decide (x < 0))) (c := (decide (y < 0))) Gd.none rfl rfl Wa_tB4 ?_
  refine aops_end ?_
  refine hK2 _ ?_
  refine awp_condQ (q := (decide (x < 0)) = (decide (y < 0))) rfl (fun h1 => ?_) (fun h1 => ?_)
  · refine awp_seq fun K3 hK3 => ?_
    refine awp_regionD rfl ?_
    refine o_fieldRef 0 Gd.none Wa_tF36_0 rfl rfl ?_
    refine o_loadS (bp (x < 0)) Gd.none Wa_tS4 rfl rfl rfl ?_
    refine o_fieldRef 1 Gd.none Wa_tF36_1 rfl rfl ?_
    refine o_loadS (AV.sl 1 (ns .i64 (digs (x).natAbs))) Gd.none Wa_tS22 rfl rfl rfl ?_
    refine o_fieldRef 1 Gd.none Wa_tF36_1 rfl rfl ?_
    refine o_loadS (AV.sl 1 (ns .i64 (digs (y).natAbs))) Gd.none Wa_tS22 rfl rfl rfl ?_
    refine o_call [(AV.sl 1 (ns .i64 (digs (x).natAbs))), (AV.sl 1 (ns .i64 (digs (y).natAbs)))] (AV.sl 1 (ns .i64 (dgn (moreN ((x).natAbs) ((y).natAbs)) ((x).natAbs + (y).natAbs)))) Gd.none Wa_tC78 rfl (c_rMore ((x).natAbs) ((y).natAbs) (by omega) (by omega)) ?_
    refine o_call [(bp (x < 0)), (AV.sl 1 (ns .i64 (dgn (moreN ((x).natAbs) ((y).natAbs)) ((x).natAbs + (y).natAbs))))] (intR ((sg (decide (x < 0)) (val (dgn (moreN ((x).natAbs) ((y).natAbs)) ((x).natAbs + (y).natAbs)))))) Gd.none Wa_tC74 rfl (c_rTrim (decide (x < 0)) (dgn (moreN ((x).natAbs) ((y).natAbs)) ((x).natAbs + (y).natAbs)) (by first | assumption | exact dgn_dig _ _ | exact digs_dig _)) ?_
    refine o_store [(4, (AO.var 36 [(bp ((sg (decide (x < 0)) (val (dgn (moreN ((x).natAbs) ((y).natAbs)) ((x).natAbs + (y).natAbs)))) < 0)), (AV.sl 1 (ns .i64 (digs ((sg (decide (x < 0)) (val (dgn (moreN ((x).natAbs) ((y).natAbs)) ((x).natAbs + (y).natAbs))))).natAbs)))])), (3, (AO.var 36 [(bp (y < 0)), (AV.sl 1 (ns .i64 (digs (y).natAbs)))])), (2, (AO.var 36 [(bp (x < 0)), (AV.sl 1 (ns .i64 (digs (x).natAbs)))]))] Gd.none Wa_tZ36 rfl rfl rfl rfl rfl rfl ?_
    refine aops_end ⟨by kernel_rfl, ?_⟩
    refine hK3 _ ?_
    refine awp_ret ?_
    refine post_ret ⟨[(AV.agg [(bp ((sg (decide (x < 0)) (val (dgn (moreN ((x).natAbs) ((y).natAbs)) ((x).natAbs + (y).natAbs)))) < 0)), (AV.sl 1 (ns .i64 (digs ((sg (decide (x < 0)) (val (dgn (moreN ((x).natAbs) ((y).natAbs)) ((x).natAbs + (y).natAbs))))).natAbs)))])], And.intro ⟨4, (AO.var 36 [(bp ((sg (decide (x < 0)) (val (dgn (moreN ((x).natAbs) ((y).natAbs)) ((x).natAbs + (y).natAbs)))) < 0)), (AV.sl 1 (ns .i64 (digs ((sg (decide (x < 0)) (val (dgn (moreN ((x).natAbs) ((y).natAbs)) ((x).natAbs + (y).natAbs))))).natAbs)))]), rfl, rfl, rfl, Or.inl ⟨Wa_tA36, AV.le_refl _⟩⟩ (trivial), rfl, ?_⟩
    refine congrArg (intK .i64) ?_
    rw [val_more]
    exact sg_add h1
  · refine awp_skip ?_
    refine hK1 _ ?_
    refine awp_seq fun K4 hK4 => ?_
    refine awp_seq fun K5 hK5 => ?_
    refine awp_region rfl ?_
    refine o_fieldRef 1 Gd.none Wa_tF36_1 rfl rfl ?_
    refine o_loadS (AV.sl 1 (ns .i64 (digs (x).natAbs))) Gd.none Wa_tS22 rfl rfl rfl ?_
    refine o_fieldRef 1 Gd.none Wa_tF36_1 rfl rfl ?_
    refine o_loadS (AV.sl 1 (ns .i64 (digs (y).natAbs))) Gd.none Wa_tS22 rfl rfl rfl ?_
    refine o_call [(AV.sl 1 (ns .i64 (digs (x).natAbs))), (AV.sl 1 (ns .i64 (digs (y).natAbs)))] (AV.lit (.int .i64 (cmpN ((x).natAbs) ((y).natAbs)))) Gd.none Wa_tC79 rfl (c_rSize ((x).natAbs) ((y).natAbs)) ?_
    refine o_geq (a := (cmpN ((x).natAbs) ((y).natAbs))) (c := (((0 : Nat) : Int))) Gd.none rfl rfl ?_
    refine aops_end ?_
    refine hK5 _ ?_
    refine awp_condQ (q := (((0 : Nat) : Int)) ≤ (cmpN ((x).natAbs) ((y).natAbs))) rfl (fun h2 => ?_) (fun h2 => ?_)
    · have hc := cmpN_ge h2
      refine awp_seq fun K6 hK6 => ?_
      refine awp_regionD rfl ?_
      refine o_fieldRef 0 Gd.none Wa_tF36_0 rfl rfl ?_
      refine o_loadS (bp (x < 0)) Gd.none Wa_tS4 rfl rfl rfl ?_
      refine o_fieldRef 1 Gd.none Wa_tF36_1 rfl rfl ?_
      refine o_loadS (AV.sl 1 (ns .i64 (digs (x).natAbs))) Gd.none Wa_tS22 rfl rfl rfl ?_
      refine o_fieldRef 1 Gd.none Wa_tF36_1 rfl rfl ?_
      refine o_loadS (AV.sl 1 (ns .i64 (digs (y).natAbs))) Gd.none Wa_tS22 rfl rfl rfl ?_
      refine o_call [(AV.sl 1 (ns .i64 (digs (x).natAbs))), (AV.sl 1 (ns .i64 (digs (y).natAbs)))] (AV.sl 1 (ns .i64 (dgn (digs ((x).natAbs)).length ((x).natAbs - (y).natAbs)))) Gd.none Wa_tC80 rfl (c_rLess ((x).natAbs) ((y).natAbs) (by omega) (by omega) (by omega)) ?_
      refine o_call [(bp (x < 0)), (AV.sl 1 (ns .i64 (dgn (digs ((x).natAbs)).length ((x).natAbs - (y).natAbs))))] (intR ((sg (decide (x < 0)) (val (dgn (digs ((x).natAbs)).length ((x).natAbs - (y).natAbs)))))) Gd.none Wa_tC74 rfl (c_rTrim (decide (x < 0)) (dgn (digs ((x).natAbs)).length ((x).natAbs - (y).natAbs)) (by first | assumption | exact dgn_dig _ _ | exact digs_dig _)) ?_
      refine o_store [(4, (AO.var 36 [(bp ((sg (decide (x < 0)) (val (dgn (digs ((x).natAbs)).length ((x).natAbs - (y).natAbs)))) < 0)), (AV.sl 1 (ns .i64 (digs ((sg (decide (x < 0)) (val (dgn (digs ((x).natAbs)).length ((x).natAbs - (y).natAbs))))).natAbs)))])), (3, (AO.var 36 [(bp (y < 0)), (AV.sl 1 (ns .i64 (digs (y).natAbs)))])), (2, (AO.var 36 [(bp (x < 0)), (AV.sl 1 (ns .i64 (digs (x).natAbs)))]))] Gd.none Wa_tZ36 rfl rfl rfl rfl rfl rfl ?_
      refine aops_end ⟨by kernel_rfl, ?_⟩
      refine hK6 _ ?_
      refine awp_ret ?_
      refine post_ret ⟨[(AV.agg [(bp ((sg (decide (x < 0)) (val (dgn (digs ((x).natAbs)).length ((x).natAbs - (y).natAbs)))) < 0)), (AV.sl 1 (ns .i64 (digs ((sg (decide (x < 0)) (val (dgn (digs ((x).natAbs)).length ((x).natAbs - (y).natAbs))))).natAbs)))])], And.intro ⟨4, (AO.var 36 [(bp ((sg (decide (x < 0)) (val (dgn (digs ((x).natAbs)).length ((x).natAbs - (y).natAbs)))) < 0)), (AV.sl 1 (ns .i64 (digs ((sg (decide (x < 0)) (val (dgn (digs ((x).natAbs)).length ((x).natAbs - (y).natAbs))))).natAbs)))]), rfl, rfl, rfl, Or.inl ⟨Wa_tA36, AV.le_refl _⟩⟩ (trivial), rfl, ?_⟩
      refine congrArg (intK .i64) ?_
      rw [val_minus]
      exact sg_sub1 h1 hc
    · have hc := cmpN_ng h2
      refine awp_skip ?_
      refine hK4 _ ?_
      refine awp_seq fun K7 hK7 => ?_
      refine awp_regionD rfl ?_
      refine o_fieldRef 0 Gd.none Wa_tF36_0 rfl rfl ?_
      refine o_loadS (bp (y < 0)) Gd.none Wa_tS4 rfl rfl rfl ?_
      refine o_fieldRef 1 Gd.none Wa_tF36_1 rfl rfl ?_
      refine o_loadS (AV.sl 1 (ns .i64 (digs (y).natAbs))) Gd.none Wa_tS22 rfl rfl rfl ?_
      refine o_fieldRef 1 Gd.none Wa_tF36_1 rfl rfl ?_
      refine o_loadS (AV.sl 1 (ns .i64 (digs (x).natAbs))) Gd.none Wa_tS22 rfl rfl rfl ?_
      refine o_call [(AV.sl 1 (ns .i64 (digs (y).natAbs))), (AV.sl 1 (ns .i64 (digs (x).natAbs)))] (AV.sl 1 (ns .i64 (dgn (digs ((y).natAbs)).length ((y).natAbs - (x).natAbs)))) Gd.none Wa_tC80 rfl (c_rLess ((y).natAbs) ((x).natAbs) (by omega) (by omega) (by omega)) ?_
      refine o_call [(bp (y < 0)), (AV.sl 1 (ns .i64 (dgn (digs ((y).natAbs)).length ((y).natAbs - (x).natAbs))))] (intR ((sg (decide (y < 0)) (val (dgn (digs ((y).natAbs)).length ((y).natAbs - (x).natAbs)))))) Gd.none Wa_tC74 rfl (c_rTrim (decide (y < 0)) (dgn (digs ((y).natAbs)).length ((y).natAbs - (x).natAbs)) (by first | assumption | exact dgn_dig _ _ | exact digs_dig _)) ?_
      refine o_store [(4, (AO.var 36 [(bp ((sg (decide (y < 0)) (val (dgn (digs ((y).natAbs)).length ((y).natAbs - (x).natAbs)))) < 0)), (AV.sl 1 (ns .i64 (digs ((sg (decide (y < 0)) (val (dgn (digs ((y).natAbs)).length ((y).natAbs - (x).natAbs))))).natAbs)))])), (3, (AO.var 36 [(bp (y < 0)), (AV.sl 1 (ns .i64 (digs (y).natAbs)))])), (2, (AO.var 36 [(bp (x < 0)), (AV.sl 1 (ns .i64 (digs (x).natAbs)))]))] Gd.none Wa_tZ36 rfl rfl rfl rfl rfl rfl ?_
      refine aops_end ⟨by kernel_rfl, ?_⟩
      refine hK7 _ ?_
      refine awp_ret ?_
      refine post_ret ⟨[(AV.agg [(bp ((sg (decide (y < 0)) (val (dgn (digs ((y).natAbs)).length ((y).natAbs - (x).natAbs)))) < 0)), (AV.sl 1 (ns .i64 (digs ((sg (decide (y < 0)) (val (dgn (digs ((y).natAbs)).length ((y).natAbs - (x).natAbs))))).natAbs)))])], And.intro ⟨4, (AO.var 36 [(bp ((sg (decide (y < 0)) (val (dgn (digs ((y).natAbs)).length ((y).natAbs - (x).natAbs)))) < 0)), (AV.sl 1 (ns .i64 (digs ((sg (decide (y < 0)) (val (dgn (digs ((y).natAbs)).length ((y).natAbs - (x).natAbs))))).natAbs)))]), rfl, rfl, rfl, Or.inl ⟨Wa_tA36, AV.le_refl _⟩⟩ (trivial), rfl, ?_⟩
      refine congrArg (intK .i64) ?_
      rw [val_minus]
      exact sg_sub2 h1 hc

theorem c_wAdd (x y : Int) (hx : (digs x.natAbs).length ≤ 1000000000) (hy : (digs y.natAbs).length ≤ 1000000000) : ECalls cx 92 [(intW (x)), (intW (y))] (intW ((x + y))) := by
  refine ecalls_of_awp Tryd.func92 (c := _) rfl (Nat.le_of_ble_eq_true rfl) ?_
  show awp cx 40 _ (postF cx Tryd.f92 _) ⟨[(0, (intW (x))), (1, (intW (y)))], []⟩
  refine awp_seq fun K0 hK0 => ?_
  refine awp_region rfl ?_
  refine o_box 2 [(bp (x < 0)), (AV.sl 1 (ns .u32 (digs (x).natAbs)))] Gd.none rfl rfl ?_
  refine o_box 3 [(bp (y < 0)), (AV.sl 1 (ns .u32 (digs (y).natAbs)))] Gd.none rfl rfl ?_
  refine o_alloc 4 [(AV.lit (.bool false)), (AV.lit (.slice none 0 0))] Gd.none Wa_tO89 rfl rfl rfl ?_
  refine aops_end ?_
  refine hK0 _ ?_
  refine awp_seq fun K1 hK1 => ?_
  refine awp_seq fun K2 hK2 => ?_
  refine awp_region rfl ?_
  refine o_fieldRef 0 Gd.none Wa_tF89_0 rfl rfl ?_
  refine o_loadS (bp (x < 0)) Gd.none Wa_tS4 rfl rfl rfl ?_
  refine o_fieldRef 0 Gd.none Wa_tF89_0 rfl rfl ?_
  refine o_loadS (bp (y < 0)) Gd.none Wa_tS4 rfl rfl rfl ?_
  refine o_eqlB (a := (decide (x < 0))) (c := (decide (y < 0))) Gd.none rfl rfl Wa_tB4 ?_
  refine aops_end ?_
  refine hK2 _ ?_
  refine awp_condQ (q := (decide (x < 0)) = (decide (y < 0))) rfl (fun h1 => ?_) (fun h1 => ?_)
  · refine awp_seq fun K3 hK3 => ?_
    refine awp_regionD rfl ?_
    refine o_fieldRef 0 Gd.none Wa_tF89_0 rfl rfl ?_
    refine o_loadS (bp (x < 0)) Gd.none Wa_tS4 rfl rfl rfl ?_
    refine o_fieldRef 1 Gd.none Wa_tF89_1 rfl rfl ?_
    refine o_loadS (AV.sl 1 (ns .u32 (digs (x).natAbs))) Gd.none Wa_tS87 rfl rfl rfl ?_
    refine o_fieldRef 1 Gd.none Wa_tF89_1 rfl rfl ?_
    refine o_loadS (AV.sl 1 (ns .u32 (digs (y).natAbs))) Gd.none Wa_tS87 rfl rfl rfl ?_
    refine o_call [(AV.sl 1 (ns .u32 (digs (x).natAbs))), (AV.sl 1 (ns .u32 (digs (y).natAbs)))] (AV.sl 1 (ns .u32 (dgn (max (digs ((x).natAbs)).length (digs ((y).natAbs)).length + 1) ((x).natAbs + (y).natAbs)))) Gd.none Wa_tC106 rfl (c_wPlus ((x).natAbs) ((y).natAbs) (by omega) (by omega)) ?_
    refine o_call [(bp (x < 0)), (AV.sl 1 (ns .u32 (dgn (max (digs ((x).natAbs)).length (digs ((y).natAbs)).length + 1) ((x).natAbs + (y).natAbs))))] (intW ((sg (decide (x < 0)) (val (dgn (max (digs ((x).natAbs)).length (digs ((y).natAbs)).length + 1) ((x).natAbs + (y).natAbs)))))) Gd.none Wa_tC101 rfl (c_wTrim (decide (x < 0)) (dgn (max (digs ((x).natAbs)).length (digs ((y).natAbs)).length + 1) ((x).natAbs + (y).natAbs)) (by first | assumption | exact dgn_dig _ _ | exact digs_dig _)) ?_
    refine o_store [(4, (AO.var 89 [(bp ((sg (decide (x < 0)) (val (dgn (max (digs ((x).natAbs)).length (digs ((y).natAbs)).length + 1) ((x).natAbs + (y).natAbs)))) < 0)), (AV.sl 1 (ns .u32 (digs ((sg (decide (x < 0)) (val (dgn (max (digs ((x).natAbs)).length (digs ((y).natAbs)).length + 1) ((x).natAbs + (y).natAbs))))).natAbs)))])), (3, (AO.var 89 [(bp (y < 0)), (AV.sl 1 (ns .u32 (digs (y).natAbs)))])), (2, (AO.var 89 [(bp (x < 0)), (AV.sl 1 (ns .u32 (digs (x).natAbs)))]))] Gd.none Wa_tZ89 rfl rfl rfl rfl rfl rfl ?_
    refine aops_end ⟨by kernel_rfl, ?_⟩
    refine hK3 _ ?_
    refine awp_ret ?_
    refine post_ret ⟨[(AV.agg [(bp ((sg (decide (x < 0)) (val (dgn (max (digs ((x).natAbs)).length (digs ((y).natAbs)).length + 1) ((x).natAbs + (y).natAbs)))) < 0)), (AV.sl 1 (ns .u32 (digs ((sg (decide (x < 0)) (val (dgn (max (digs ((x).natAbs)).length (digs ((y).natAbs)).length + 1) ((x).natAbs + (y).natAbs))))).natAbs)))])], And.intro ⟨4, (AO.var 89 [(bp ((sg (decide (x < 0)) (val (dgn (max (digs ((x).natAbs)).length (digs ((y).natAbs)).length + 1) ((x).natAbs + (y).natAbs)))) < 0)), (AV.sl 1 (ns .u32 (digs ((sg (decide (x < 0)) (val (dgn (max (digs ((x).natAbs)).length (digs ((y).natAbs)).length + 1) ((x).natAbs + (y).natAbs))))).natAbs)))]), rfl, rfl, rfl, Or.inl ⟨Wa_tA89, AV.le_refl _⟩⟩ (trivial), rfl, ?_⟩
    refine congrArg (intK .u32) ?_
    rw [val_plus]
    exact sg_add h1
  · refine awp_skip ?_
    refine hK1 _ ?_
    refine awp_seq fun K4 hK4 => ?_
    refine awp_seq fun K5 hK5 => ?_
    refine awp_region rfl ?_
    refine o_fieldRef 1 Gd.none Wa_tF89_1 rfl rfl ?_
    refine o_loadS (AV.sl 1 (ns .u32 (digs (x).natAbs))) Gd.none Wa_tS87 rfl rfl rfl ?_
    refine o_fieldRef 1 Gd.none Wa_tF89_1 rfl rfl ?_
    refine o_loadS (AV.sl 1 (ns .u32 (digs (y).natAbs))) Gd.none Wa_tS87 rfl rfl rfl ?_
    refine o_call [(AV.sl 1 (ns .u32 (digs (x).natAbs))), (AV.sl 1 (ns .u32 (digs (y).natAbs)))] (AV.lit (.int .i64 (cmpN ((x).natAbs) ((y).natAbs)))) Gd.none Wa_tC103 rfl (c_wSize ((x).natAbs) ((y).natAbs)) ?_
    refine o_geq (a := (cmpN ((x).natAbs) ((y).natAbs))) (c := (((0 : Nat) : Int))) Gd.none rfl rfl ?_
    refine aops_end ?_
    refine hK5 _ ?_
    refine awp_condQ (q := (((0 : Nat) : Int)) ≤ (cmpN ((x).natAbs) ((y).natAbs))) rfl (fun h2 => ?_) (fun h2 => ?_)
    · have hc := cmpN_ge h2
      refine awp_seq fun K6 hK6 => ?_
      refine awp_regionD rfl ?_
      refine o_fieldRef 0 Gd.none Wa_tF89_0 rfl rfl ?_
      refine o_loadS (bp (x < 0)) Gd.none Wa_tS4 rfl rfl rfl ?_
      refine o_fieldRef 1 Gd.none Wa_tF89_1 rfl rfl ?_
      refine o_loadS (AV.sl 1 (ns .u32 (digs (x).natAbs))) Gd.none Wa_tS87 rfl rfl rfl ?_
      refine o_fieldRef 1 Gd.none Wa_tF89_1 rfl rfl ?_
      refine o_loadS (AV.sl 1 (ns .u32 (digs (y).natAbs))) Gd.none Wa_tS87 rfl rfl rfl ?_
      refine o_call [(AV.sl 1 (ns .u32 (digs (x).natAbs))), (AV.sl 1 (ns .u32 (digs (y).natAbs)))] (AV.sl 1 (ns .u32 (dgn (digs ((x).natAbs)).length ((x).natAbs - (y).natAbs)))) Gd.none Wa_tC107 rfl (c_wLess ((x).natAbs) ((y).natAbs) (by omega) (by omega) (by omega)) ?_
      refine o_call [(bp (x < 0)), (AV.sl 1 (ns .u32 (dgn (digs ((x).natAbs)).length ((x).natAbs - (y).natAbs))))] (intW ((sg (decide (x < 0)) (val (dgn (digs ((x).natAbs)).length ((x).natAbs - (y).natAbs)))))) Gd.none Wa_tC101 rfl (c_wTrim (decide (x < 0)) (dgn (digs ((x).natAbs)).length ((x).natAbs - (y).natAbs)) (by first | assumption | exact dgn_dig _ _ | exact digs_dig _)) ?_
      refine o_store [(4, (AO.var 89 [(bp ((sg (decide (x < 0)) (val (dgn (digs ((x).natAbs)).length ((x).natAbs - (y).natAbs)))) < 0)), (AV.sl 1 (ns .u32 (digs ((sg (decide (x < 0)) (val (dgn (digs ((x).natAbs)).length ((x).natAbs - (y).natAbs))))).natAbs)))])), (3, (AO.var 89 [(bp (y < 0)), (AV.sl 1 (ns .u32 (digs (y).natAbs)))])), (2, (AO.var 89 [(bp (x < 0)), (AV.sl 1 (ns .u32 (digs (x).natAbs)))]))] Gd.none Wa_tZ89 rfl rfl rfl rfl rfl rfl ?_
      refine aops_end ⟨by kernel_rfl, ?_⟩
      refine hK6 _ ?_
      refine awp_ret ?_
      refine post_ret ⟨[(AV.agg [(bp ((sg (decide (x < 0)) (val (dgn (digs ((x).natAbs)).length ((x).natAbs - (y).natAbs)))) < 0)), (AV.sl 1 (ns .u32 (digs ((sg (decide (x < 0)) (val (dgn (digs ((x).natAbs)).length ((x).natAbs - (y).natAbs))))).natAbs)))])], And.intro ⟨4, (AO.var 89 [(bp ((sg (decide (x < 0)) (val (dgn (digs ((x).natAbs)).length ((x).natAbs - (y).natAbs)))) < 0)), (AV.sl 1 (ns .u32 (digs ((sg (decide (x < 0)) (val (dgn (digs ((x).natAbs)).length ((x).natAbs - (y).natAbs))))).natAbs)))]), rfl, rfl, rfl, Or.inl ⟨Wa_tA89, AV.le_refl _⟩⟩ (trivial), rfl, ?_⟩
      refine congrArg (intK .u32) ?_
      rw [val_minus]
      exact sg_sub1 h1 hc
    · have hc := cmpN_ng h2
      refine awp_skip ?_
      refine hK4 _ ?_
      refine awp_seq fun K7 hK7 => ?_
      refine awp_regionD rfl ?_
      refine o_fieldRef 0 Gd.none Wa_tF89_0 rfl rfl ?_
      refine o_loadS (bp (y < 0)) Gd.none Wa_tS4 rfl rfl rfl ?_
      refine o_fieldRef 1 Gd.none Wa_tF89_1 rfl rfl ?_
      refine o_loadS (AV.sl 1 (ns .u32 (digs (y).natAbs))) Gd.none Wa_tS87 rfl rfl rfl ?_
      refine o_fieldRef 1 Gd.none Wa_tF89_1 rfl rfl ?_
      refine o_loadS (AV.sl 1 (ns .u32 (digs (x).natAbs))) Gd.none Wa_tS87 rfl rfl rfl ?_
      refine o_call [(AV.sl 1 (ns .u32 (digs (y).natAbs))), (AV.sl 1 (ns .u32 (digs (x).natAbs)))] (AV.sl 1 (ns .u32 (dgn (digs ((y).natAbs)).length ((y).natAbs - (x).natAbs)))) Gd.none Wa_tC107 rfl (c_wLess ((y).natAbs) ((x).natAbs) (by omega) (by omega) (by omega)) ?_
      refine o_call [(bp (y < 0)), (AV.sl 1 (ns .u32 (dgn (digs ((y).natAbs)).length ((y).natAbs - (x).natAbs))))] (intW ((sg (decide (y < 0)) (val (dgn (digs ((y).natAbs)).length ((y).natAbs - (x).natAbs)))))) Gd.none Wa_tC101 rfl (c_wTrim (decide (y < 0)) (dgn (digs ((y).natAbs)).length ((y).natAbs - (x).natAbs)) (by first | assumption | exact dgn_dig _ _ | exact digs_dig _)) ?_
      refine o_store [(4, (AO.var 89 [(bp ((sg (decide (y < 0)) (val (dgn (digs ((y).natAbs)).length ((y).natAbs - (x).natAbs)))) < 0)), (AV.sl 1 (ns .u32 (digs ((sg (decide (y < 0)) (val (dgn (digs ((y).natAbs)).length ((y).natAbs - (x).natAbs))))).natAbs)))])), (3, (AO.var 89 [(bp (y < 0)), (AV.sl 1 (ns .u32 (digs (y).natAbs)))])), (2, (AO.var 89 [(bp (x < 0)), (AV.sl 1 (ns .u32 (digs (x).natAbs)))]))] Gd.none Wa_tZ89 rfl rfl rfl rfl rfl rfl ?_
      refine aops_end ⟨by kernel_rfl, ?_⟩
      refine hK7 _ ?_
      refine awp_ret ?_
      refine post_ret ⟨[(AV.agg [(bp ((sg (decide (y < 0)) (val (dgn (digs ((y).natAbs)).length ((y).natAbs - (x).natAbs)))) < 0)), (AV.sl 1 (ns .u32 (digs ((sg (decide (y < 0)) (val (dgn (digs ((y).natAbs)).length ((y).natAbs - (x).natAbs))))).natAbs)))])], And.intro ⟨4, (AO.var 89 [(bp ((sg (decide (y < 0)) (val (dgn (digs ((y).natAbs)).length ((y).natAbs - (x).natAbs)))) < 0)), (AV.sl 1 (ns .u32 (digs ((sg (decide (y < 0)) (val (dgn (digs ((y).natAbs)).length ((y).natAbs - (x).natAbs))))).natAbs)))]), rfl, rfl, rfl, Or.inl ⟨Wa_tA89, AV.le_refl _⟩⟩ (trivial), rfl, ?_⟩
      refine congrArg (intK .u32) ?_
      rw [val_minus]
      exact sg_sub2 h1 hc

theorem c_rSub (x y : Int) (hx : (digs x.natAbs).length ≤ 1000000000) (hy : (digs y.natAbs).length ≤ 1000000000) : ECalls cx 35 [(intR (x)), (intR (y))] (intR ((x - y))) := by
  refine ecalls_of_awp Tryd.func35 (c := _) rfl (Nat.le_of_ble_eq_true rfl) ?_
  show awp cx 9 _ (postF cx Tryd.f35 _) ⟨[(0, (intR (x))), (1, (intR (y)))], []⟩
  refine awp_seq fun K0 hK0 => ?_
  refine awp_region rfl ?_
  refine o_box 2 [(bp (x < 0)), (AV.sl 1 (ns .i64 (digs (x).natAbs)))] Gd.none rfl rfl ?_
  refine o_box 3 [(bp (y < 0)), (AV.sl 1 (ns .i64 (digs (y).natAbs)))] Gd.none rfl rfl ?_
  refine o_alloc 4 [(AV.lit (.bool false)), (AV.lit (.slice none 0 0))] Gd.none Wa_tO36 rfl rfl rfl ?_
  refine aops_end ?_
  refine hK0 _ ?_
  refine awp_seq fun K1 hK1 => ?_
  refine awp_regionD rfl ?_
  refine o_loadA [(bp (x < 0)), (AV.sl 1 (ns .i64 (digs (x).natAbs)))] Gd.none Wa_tA36 rfl rfl rfl rfl rfl ?_
  refine o_loadA [(bp (y < 0)), (AV.sl 1 (ns .i64 (digs (y).natAbs)))] Gd.none Wa_tA36 rfl rfl rfl rfl rfl ?_
  refine o_call [(AV.agg [(bp (y < 0)), (AV.sl 1 (ns .i64 (digs (y).natAbs)))])] (intR ((-y))) Gd.none Wa_tC81 rfl (c_rMinus (y)) ?_
  refine o_call [(AV.agg [(bp (x < 0)), (AV.sl 1 (ns .i64 (digs (x).natAbs)))]), (intR ((-y)))] (intR ((x + (-y)))) Gd.none Wa_tC32 rfl (c_rAdd (x) ((-y)) (by first | assumption | omega | (simp only [Int.natAbs_neg]; omega)) (by first | assumption | omega | (simp only [Int.natAbs_neg]; omega))) ?_
  refine o_store [(4, (AO.var 36 [(bp ((x + (-y)) < 0)), (AV.sl 1 (ns .i64 (digs ((x + (-y))).natAbs)))])), (3, (AO.var 36 [(bp (y < 0)), (AV.sl 1 (ns .i64 (digs (y).natAbs)))])), (2, (AO.var 36 [(bp (x < 0)), (AV.sl 1 (ns .i64 (digs (x).natAbs)))]))] Gd.none Wa_tZ36 rfl rfl rfl rfl rfl rfl ?_
  refine aops_end ⟨by kernel_rfl, ?_⟩
  refine hK1 _ ?_
  refine awp_ret ?_
  refine post_ret ⟨[(AV.agg [(bp ((x + (-y)) < 0)), (AV.sl 1 (ns .i64 (digs ((x + (-y))).natAbs)))])], And.intro ⟨4, (AO.var 36 [(bp ((x + (-y)) < 0)), (AV.sl 1 (ns .i64 (digs ((x + (-y))).natAbs)))]), rfl, rfl, rfl, Or.inl ⟨Wa_tA36, AV.le_refl _⟩⟩ (trivial), rfl, ?_⟩
  exact congrArg (intK .i64) (Int.sub_eq_add_neg)

theorem c_wSub (x y : Int) (hx : (digs x.natAbs).length ≤ 1000000000) (hy : (digs y.natAbs).length ≤ 1000000000) : ECalls cx 93 [(intW (x)), (intW (y))] (intW ((x - y))) := by
  refine ecalls_of_awp Tryd.func93 (c := _) rfl (Nat.le_of_ble_eq_true rfl) ?_
  show awp cx 9 _ (postF cx Tryd.f93 _) ⟨[(0, (intW (x))), (1, (intW (y)))], []⟩
  refine awp_seq fun K0 hK0 => ?_
  refine awp_region rfl ?_
  refine o_box 2 [(bp (x < 0)), (AV.sl 1 (ns .u32 (digs (x).natAbs)))] Gd.none rfl rfl ?_
  refine o_box 3 [(bp (y < 0)), (AV.sl 1 (ns .u32 (digs (y).natAbs)))] Gd.none rfl rfl ?_
  refine o_alloc 4 [(AV.lit (.bool false)), (AV.lit (.slice none 0 0))] Gd.none Wa_tO89 rfl rfl rfl ?_
  refine aops_end ?_
  refine hK0 _ ?_
  refine awp_seq fun K1 hK1 => ?_
  refine awp_regionD rfl ?_
  refine o_loadA [(bp (x < 0)), (AV.sl 1 (ns .u32 (digs (x).natAbs)))] Gd.none Wa_tA89 rfl rfl rfl rfl rfl ?_
  refine o_loadA [(bp (y < 0)), (AV.sl 1 (ns .u32 (digs (y).natAbs)))] Gd.none Wa_tA89 rfl rfl rfl rfl rfl ?_
  refine o_call [(AV.agg [(bp (y < 0)), (AV.sl 1 (ns .u32 (digs (y).natAbs)))])] (intW ((-y))) Gd.none Wa_tC108 rfl (c_wMinus (y)) ?_
  refine o_call [(AV.agg [(bp (x < 0)), (AV.sl 1 (ns .u32 (digs (x).natAbs)))]), (intW ((-y)))] (intW ((x + (-y)))) Gd.none Wa_tC92 rfl (c_wAdd (x) ((-y)) (by first | assumption | omega | (simp only [Int.natAbs_neg]; omega)) (by first | assumption | omega | (simp only [Int.natAbs_neg]; omega))) ?_
  refine o_store [(4, (AO.var 89 [(bp ((x + (-y)) < 0)), (AV.sl 1 (ns .u32 (digs ((x + (-y))).natAbs)))])), (3, (AO.var 89 [(bp (y < 0)), (AV.sl 1 (ns .u32 (digs (y).natAbs)))])), (2, (AO.var 89 [(bp (x < 0)), (AV.sl 1 (ns .u32 (digs (x).natAbs)))]))] Gd.none Wa_tZ89 rfl rfl rfl rfl rfl rfl ?_
  refine aops_end ⟨by kernel_rfl, ?_⟩
  refine hK1 _ ?_
  refine awp_ret ?_
  refine post_ret ⟨[(AV.agg [(bp ((x + (-y)) < 0)), (AV.sl 1 (ns .u32 (digs ((x + (-y))).natAbs)))])], And.intro ⟨4, (AO.var 89 [(bp ((x + (-y)) < 0)), (AV.sl 1 (ns .u32 (digs ((x + (-y))).natAbs)))]), rfl, rfl, rfl, Or.inl ⟨Wa_tA89, AV.le_refl _⟩⟩ (trivial), rfl, ?_⟩
  exact congrArg (intK .u32) (Int.sub_eq_add_neg)

end Go.Proofs.YtkngglpnejdicaaDoor
