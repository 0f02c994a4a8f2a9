import Derived.Test.YtkngglpnejdicaaDoorWc
set_option linter.unusedVariables false
set_option linter.unusedSimpArgs false
namespace Go.Proofs.YtkngglpnejdicaaDoor
open Go Go.Ab Go.Mth
theorem Wd_tA36 : tyAgg cx.P 36 = some 2 := by kernel_rfl
theorem Wd_tC75 : callable cx.P 75 = true := by kernel_rfl
theorem Wd_tF36_1 : tyField cx.P 36 1 = some (1, 22) := by kernel_rfl
theorem Wd_tS22 : tySc cx.P 22 = true := by kernel_rfl
theorem Wd_tU22 : cx.P.underlying 22 = some (.slice 3) := by kernel_rfl
theorem Wd_tE22 : tyElem cx.P 22 = some (3, 1, 8) := by kernel_rfl
theorem Wd_tS3 : tySc cx.P 3 = true := by kernel_rfl
theorem Wd_tI3 : tyInt cx.P 3 = some .i64 := by kernel_rfl
theorem Wd_tI5 : tyInt cx.P 5 = some .u8 := by kernel_rfl
theorem Wd_tE96 : tyElem cx.P 96 = some (5, 1, 1) := by kernel_rfl
theorem Wd_tO5 : tyZero cx.P 5 = some [(Go.Value.int IntKind.u8 0)] := by kernel_rfl
theorem Wd_tF36_0 : tyField cx.P 36 0 = some (0, 4) := by kernel_rfl
theorem Wd_tS4 : tySc cx.P 4 = true := by kernel_rfl
theorem Wd_tU96 : cx.P.underlying 96 = some (.slice 5) := by kernel_rfl
theorem Wd_tS5 : tySc cx.P 5 = true := by kernel_rfl
theorem Wd_tQ5 : cx.P.underlying 5 = some (.int .u8) := by kernel_rfl
theorem Wd_tT9 : cx.P.underlying 9 = some .string := by kernel_rfl
theorem Wd_tC25 : callable cx.P 25 = true := by kernel_rfl
theorem Wd_tC26 : callable cx.P 26 = true := by kernel_rfl
theorem c_rFits (z : Int) (hz : (digs z.natAbs).length ≤ 1000000000) : ECalls cx 25 [(intR (z))] (bp (Fit z)) := by
  refine ecalls_of_awp Tryd.func25 (c := _) rfl (Nat.le_of_ble_eq_true rfl) ?_
  show awp cx 6 _ (postF cx Tryd.f25 _) ⟨[(0, (intR (z)))], []⟩
  refine awp_seq fun K0 hK0 => ?_
  refine awp_region rfl ?_
  refine o_box 2 [(bp (z < 0)), (AV.sl 1 (ns .i64 (digs (z).natAbs)))] Gd.none rfl rfl ?_
  refine o_assign (AV.lit (.bool false)) Gd.none rfl ?_
  refine aops_end ?_
  refine hK0 _ ?_
  refine awp_seq fun K1 hK1 => ?_
  refine awp_region rfl ?_
  refine o_loadA [(bp (z < 0)), (AV.sl 1 (ns .i64 (digs (z).natAbs)))] Gd.none Wd_tA36 rfl rfl rfl rfl rfl ?_
  refine o_call [(AV.agg [(bp (z < 0)), (AV.sl 1 (ns .i64 (digs (z).natAbs)))])] (nm .i64 (ndig (z).natAbs)) Gd.none Wd_tC75 rfl (c_rDigits (z) (by first | assumption | omega | (simp only [Int.natAbs_neg]; omega))) ?_
  refine n_leq (ndig (z).natAbs) (2000) Gd.none rfl rfl ?_
  refine o_assign (bp ((ndig (z).natAbs) ≤ (2000))) Gd.none rfl ?_
  refine aops_end ?_
  refine hK1 _ ?_
  refine awp_ret ?_
  refine post_ret ⟨[(bp ((ndig (z).natAbs) ≤ (2000)))], And.intro (AV.le_refl _) (trivial), rfl, ?_⟩
  rfl

theorem c_rText (z : Int) (hz : (digs z.natAbs).length ≤ 1000000000) : ECalls cx 26 [(intR (z))] (.lit (.string (txt z))) := by
  refine ecalls_of_awp Tryd.func26 (c := _) rfl (Nat.le_of_ble_eq_true rfl) ?_
  show awp cx 71 _ (postF cx Tryd.f26 _) ⟨[(0, (intR (z)))], []⟩
  refine awp_seq fun K0 hK0 => ?_
  refine awp_region rfl ?_
  refine o_box 2 [(bp (z < 0)), (AV.sl 1 (ns .i64 (digs (z).natAbs)))] Gd.none rfl rfl ?_
  refine o_assign (AV.lit (.string (({data := #[]} : ByteArray)))) Gd.none rfl ?_
  refine aops_end ?_
  refine hK0 _ ?_
  refine awp_seq fun K1 hK1 => ?_
  refine awp_seq fun K2 hK2 => ?_
  refine awp_region rfl ?_
  refine o_fieldRef 1 Gd.none Wd_tF36_1 rfl rfl ?_
  refine o_loadS (AV.sl 1 (ns .i64 (digs (z).natAbs))) Gd.none Wd_tS22 rfl rfl rfl ?_
  refine n_len (digs (z).natAbs) Gd.none Wd_tU22 rfl ?_
  refine n_eql ((digs (z).natAbs).length) (0) Gd.none rfl rfl ?_
  refine aops_end ?_
  refine hK2 _ ?_
  refine awp_condQ (q := ((digs (z).natAbs).length) = (0)) rfl (fun h1 => ?_) (fun h1 => ?_)
  · refine awp_seq fun K3 hK3 => ?_
    refine awp_region rfl ?_
    refine o_assign (AV.lit (.string (({data := #[48]} : ByteArray)))) Gd.none rfl ?_
    refine aops_end ?_
    refine hK3 _ ?_
    refine awp_ret ?_
    refine post_ret ⟨[(AV.lit (.string (({data := #[48]} : ByteArray))))], And.intro (AV.le_refl _) (trivial), rfl, ?_⟩
    rw [show z = 0 by have := digs_len_zero.1 h1; omega]
    rfl
  · have hz0 : z.natAbs ≠ 0 := fun e => h1 (digs_len_zero.2 e)
    have hdl := decs_len_le z.natAbs
    refine awp_skip ?_
    refine hK1 _ ?_
    refine awp_seq fun K4 hK4 => ?_
    refine awp_region rfl ?_
    refine o_assign (AV.lit (.slice none 0 0)) Gd.none rfl ?_
    refine aops_end ?_
    refine hK4 _ ?_
    refine awp_seq fun K5 hK5 => ?_
    refine awp_seq fun K6 hK6 => ?_
    refine awp_region rfl ?_
    refine o_assign (nm .i64 (0)) Gd.none rfl ?_
    refine aops_end ?_
    refine hK6 _ ?_
    refine awp_block ?_
    refine awp_loopR (fun κ σ => ∃ (i : Nat), ∃ (bk : List Nat), (i ≤ (digs z.natAbs).length) ∧ (bk ++ decs (val ((digs z.natAbs).drop i)) = decs z.natAbs) ∧ ((digs z.natAbs).length - i) = κ ∧ σ = ⟨[(1, (AV.ref 2 (0))), (3, (AV.row 3)), (4, (nm .i64 (i)))], [(2, (AO.var 36 [(bp (z < 0)), (AV.sl 1 (ns .i64 (digs (z).natAbs)))])), (3, (AO.row 5 1 (ns .u8 (bk))))]⟩) ⟨_, _, ⟨0, [], (by omega), (by simp [val_digs]), rfl, rfl⟩, ?wk0⟩ ?rd0
    case wk0 =>
      exact Wk.trans (Wk.newNil (i := 3) (id := 503) (e := 5) (sz := 1) rfl rfl (by decide)) (Wk.trans (Wk.sub (σ' := ⟨[(1, (AV.ref 2 (0))), (3, (AV.row 503)), (4, (nm .i64 (0)))], [(2, (AO.var 36 [(bp (z < 0)), (AV.sl 1 (ns .i64 (digs (z).natAbs)))])), (503, (AO.row 5 1 (ns .u8 ([]))))]⟩) (And.intro rfl (And.intro rfl (And.intro rfl (trivial)))) (And.intro rfl (And.intro rfl (trivial)))) (Wk.trans (Wk.ren (id := 503) (id' := 3) rfl) (Wk.sub (And.intro (by exact rfl) (And.intro (by first | rfl | (simp)) (And.intro (by first | rfl | exact congrArg (nm _) (by omega) | exact nm_int (by omega) | exact nm_int (by simp [IntKind.wrap, IntKind.bits, IntKind.signed]; omega)) (trivial)))) (And.intro (by first | rfl | exact row_ns (by simp) | exact congrArg (fun x => some (AO.blk (.stringIter _ x))) (by omega)) (And.intro (by first | rfl | exact row_ns (by simp) | exact congrArg (fun x => some (AO.blk (.stringIter _ x))) (by omega)) (trivial))))))
    rintro κ _ ⟨i, bk, hi, hv, rfl, rfl⟩
    have hA := (digs_dig z.natAbs).getD i
    refine awp_seq fun K7 hK7 => ?_
    refine awp_seq fun K8 hK8 => ?_
    refine awp_region rfl ?_
    refine o_move (nm .i64 (i)) Gd.none rfl ?_
    refine o_fieldRef 1 Gd.none Wd_tF36_1 rfl rfl ?_
    refine o_loadS (AV.sl 1 (ns .i64 (digs (z).natAbs))) Gd.none Wd_tS22 rfl rfl rfl ?_
    refine n_len (digs (z).natAbs) Gd.none Wd_tU22 rfl ?_
    refine n_lss (i) ((digs (z).natAbs).length) Gd.none rfl rfl ?_
    refine aops_end ?_
    refine hK8 _ ?_
    refine awp_condQ (q := (i) < ((digs (z).natAbs).length)) rfl (fun h2 => ?_) (fun h2 => ?_)
    · refine awp_skip ?_
      refine hK7 _ ?_
      refine awp_seq fun K9 hK9 => ?_
      refine awp_block ?_
      refine awp_seq fun K10 hK10 => ?_
      refine awp_region rfl ?_
      refine o_fieldRef 1 Gd.none Wd_tF36_1 rfl rfl ?_
      refine o_loadS (AV.sl 1 (ns .i64 (digs (z).natAbs))) Gd.none Wd_tS22 rfl rfl rfl ?_
      refine o_move (nm .i64 (i)) Gd.none rfl ?_
      refine n_index (digs (z).natAbs) (i) Gd.none Wd_tE22 rfl rfl (by omega) ?_
      refine n_loadI (digs (z).natAbs) (i) Gd.none Wd_tS3 rfl (by omega) ?_
      refine o_assign (nm .i64 ((digs (z).natAbs).getD (i) 0)) Gd.none rfl ?_
      refine aops_end ?_
      refine hK10 _ ?_
      refine awp_seq fun K11 hK11 => ?_
      refine awp_region rfl ?_
      refine o_assign (nm .i64 (0)) Gd.none rfl ?_
      refine aops_end ?_
      refine hK11 _ ?_
      refine awp_block ?_
      refine awp_loopR (fun κ σ => ∃ (k : Nat), ∃ (p : Nat), ∃ (bk : List Nat), (k ≤ 9) ∧ (p < 10 ^ (9 - k)) ∧ (p < 1000000000) ∧ (bk ++ decs (p + 10 ^ (9 - k) * val ((digs z.natAbs).drop (i + 1))) = decs z.natAbs) ∧ (9 - k) = κ ∧ σ = ⟨[(1, (AV.ref 2 (0))), (3, (AV.row 3)), (4, (nm .i64 (i))), (5, (nm .i64 (p))), (6, (nm .i64 (k)))], [(2, (AO.var 36 [(bp (z < 0)), (AV.sl 1 (ns .i64 (digs (z).natAbs)))])), (3, (AO.row 5 1 (ns .u8 (bk))))]⟩) ⟨_, _, ⟨0, _, bk, (by omega), (by simpa using hA), hA, (by rw [← drop_hi (by omega)]; exact hv), rfl, rfl⟩, ?wk1⟩ ?rd1
      case wk1 =>
        exact Wk.sub (And.intro (by exact rfl) (And.intro (by exact rfl) (And.intro (by exact rfl) (And.intro (by first | rfl | exact congrArg (nm _) (by omega) | exact nm_int (by omega) | exact nm_int (by simp [IntKind.wrap, IntKind.bits, IntKind.signed]; omega)) (And.intro (by first | rfl | exact congrArg (nm _) (by omega) | exact nm_int (by omega) | exact nm_int (by simp [IntKind.wrap, IntKind.bits, IntKind.signed]; omega)) (trivial)))))) (And.intro (by first | rfl | exact row_ns (by simp) | exact congrArg (fun x => some (AO.blk (.stringIter _ x))) (by omega)) (And.intro (by first | rfl | exact row_ns (by simp) | exact congrArg (fun x => some (AO.blk (.stringIter _ x))) (by omega)) (trivial)))
      rintro κ _ ⟨k, p, bk, hk, hp, hp2, hw, rfl, rfl⟩
      have hpos : i + 1 < (digs z.natAbs).length → 0 < 10 ^ (9 - k) * val ((digs z.natAbs).drop (i + 1)) := fun h => Nat.mul_pos (Nat.pow_pos (by decide)) (val_drop_pos h)
      refine awp_seq fun K12 hK12 => ?_
      refine awp_seq fun K13 hK13 => ?_
      refine awp_region rfl ?_
      refine o_move (nm .i64 (k)) Gd.none rfl ?_
      refine n_lss (k) (9) Gd.none rfl rfl ?_
      refine o_move (bp ((k) < (9))) Gd.none rfl ?_
      refine o_splitP (q := (k) < (9)) 27 rfl (fun h3 => ?_) (fun h3 => ?_)
      · refine o_move (nm .i64 (p)) (Gd.yes rfl rfl (decide_eq_true h3)) rfl ?_
        refine n_gtr (p) (0) (Gd.yes rfl rfl (decide_eq_true h3)) rfl rfl ?_
        refine o_move (bp ((0) < (p))) (Gd.yes rfl rfl (decide_eq_true h3)) rfl ?_
        refine o_splitP (q := (0) < (p)) 30 rfl (fun h4 => ?_) (fun h4 => ?_)
        · refine o_skip (b := decide ((0) < (p))) rfl rfl (decide_eq_true h4) ?_
          refine o_skip (b := decide ((0) < (p))) rfl rfl (decide_eq_true h4) ?_
          refine o_skip (b := decide ((0) < (p))) rfl rfl (decide_eq_true h4) ?_
          refine o_skip (b := decide ((0) < (p))) rfl rfl (decide_eq_true h4) ?_
          refine o_skip (b := decide ((0) < (p))) rfl rfl (decide_eq_true h4) ?_
          refine o_skip (b := decide ((0) < (p))) rfl rfl (decide_eq_true h4) ?_
          refine o_pickT (b := decide ((0) < (p))) (AV.lit (.bool true)) (Gd.yes rfl rfl (decide_eq_true h3)) rfl (decide_eq_true h4) rfl ?_
          refine o_pickT (b := decide ((k) < (9))) (AV.lit (.bool true)) Gd.none rfl (decide_eq_true h3) rfl ?_
          refine aops_end ?_
          refine hK13 _ ?_
          refine awp_condB (b := true) rfl (fun _ => ?_) (fun hh => absurd (hh.symm.trans rfl) (by decide))
          refine awp_skip ?_
          refine hK12 _ ?_
          refine awp_seq fun K14 hK14 => ?_
          refine awp_block ?_
          refine awp_seq fun K15 hK15 => ?_
          refine awp_region rfl ?_
          refine o_move (AV.row 3) Gd.none rfl ?_
          refine o_move (nm .i64 (p)) Gd.none rfl ?_
          refine n_rem (p) (10) Gd.none rfl rfl (by omega) ?_
          refine n_add (48) ((p) % (10)) Gd.none rfl rfl (by simp only [topOf]; omega) ?_
          refine n_conv ((48) + ((p) % (10))) Gd.none rfl Wd_tI3 Wd_tI5 (by simp only [topOf]; omega) ?_
          refine o_buildSlice 201 (ns .u8 ([(48) + ((p) % (10))])) [(0, [(nm .u8 ((48) + ((p) % (10))))])] Gd.none Wd_tE96 rfl Wd_tO5 rfl rfl rfl rfl rfl rfl rfl ?_
          refine n_append 202 (bk) ([(48) + ((p) % (10))]) [(201, (AO.row 5 1 (ns .u8 ([(48) + ((p) % (10))])))), (2, (AO.var 36 [(bp (z < 0)), (AV.sl 1 (ns .i64 (digs (z).natAbs)))]))] Gd.none Wd_tE96 Wd_tO5 rfl rfl rfl rfl rfl (by simp only [List.length_append, List.length_cons, List.length_nil]; have := bk_len hw (by first | omega | (have := hpos (by omega); omega)) hz; omega) (by decide) rfl rfl ?_
          refine o_assign (AV.row 202) Gd.none rfl ?_
          refine aops_end ?_
          refine hK15 _ ?_
          refine awp_region rfl ?_
          refine o_move (nm .i64 (p)) Gd.none rfl ?_
          refine n_quo (p) (10) Gd.none rfl rfl (by omega) (by simp only [topOf]; omega) ?_
          refine o_assign (nm .i64 ((p) / (10))) Gd.none rfl ?_
          refine aops_end ?_
          refine hK14 _ ?_
          refine awp_region rfl ?_
          refine o_move (nm .i64 (k)) Gd.none rfl ?_
          refine n_add (k) (1) Gd.none rfl rfl (by simp only [topOf]; omega) ?_
          refine o_assign (nm .i64 ((k) + (1))) Gd.none rfl ?_
          refine aops_end ?_
          refine ⟨_, _, ?lt, ⟨k + 1, (p) / (10), (bk) ++ ([(48) + ((p) % (10))]), (by omega), (by rw [Nat.div_lt_iff_lt_mul (by decide), ← Nat.pow_succ, show Nat.succ (9 - (k + 1)) = 9 - k by omega]; exact hp), (by omega), (text_step (by omega) (by first | omega | (have := hpos (by omega); omega)) hw), rfl, rfl⟩, ?wk⟩
          case lt => omega
          case wk => exact Wk.trans (Wk.sub (σ' := ⟨[(1, (AV.ref 2 (0))), (3, (AV.row 202)), (4, (nm .i64 (i))), (5, (nm .i64 ((p) / (10)))), (6, (nm .i64 ((k) + (1))))], [(2, (AO.var 36 [(bp (z < 0)), (AV.sl 1 (ns .i64 (digs (z).natAbs)))])), (202, (AO.row 5 1 (ns .u8 ((bk) ++ ([(48) + ((p) % (10))])))))]⟩) (And.intro rfl (And.intro rfl (And.intro rfl (And.intro rfl (And.intro rfl (trivial)))))) (And.intro rfl (And.intro rfl (trivial)))) (Wk.trans (Wk.ren (id := 202) (id' := 3) rfl) (Wk.sub (And.intro (by exact rfl) (And.intro (by first | rfl | (simp)) (And.intro (by exact rfl) (And.intro (by first | rfl | exact congrArg (nm _) (by omega) | exact nm_int (by omega) | exact nm_int (by simp [IntKind.wrap, IntKind.bits, IntKind.signed]; omega)) (And.intro (by first | rfl | exact congrArg (nm _) (by omega) | exact nm_int (by omega) | exact nm_int (by simp [IntKind.wrap, IntKind.bits, IntKind.signed]; omega)) (trivial)))))) (And.intro (by first | rfl | exact row_ns (by simp) | exact congrArg (fun x => some (AO.blk (.stringIter _ x))) (by omega)) (And.intro (by first | rfl | exact row_ns (by simp) | exact congrArg (fun x => some (AO.blk (.stringIter _ x))) (by omega)) (trivial)))))
        · refine o_move (nm .i64 (i)) (Gd.yes rfl rfl (decide_eq_false h4)) rfl ?_
          refine o_fieldRef 1 (Gd.yes rfl rfl (decide_eq_false h4)) Wd_tF36_1 rfl rfl ?_
          refine o_loadS (AV.sl 1 (ns .i64 (digs (z).natAbs))) (Gd.yes rfl rfl (decide_eq_false h4)) Wd_tS22 rfl rfl rfl ?_
          refine n_len (digs (z).natAbs) (Gd.yes rfl rfl (decide_eq_false h4)) Wd_tU22 rfl ?_
          refine n_sub ((digs (z).natAbs).length) (1) (Gd.yes rfl rfl (decide_eq_false h4)) rfl rfl (by omega) (by simp only [topOf]; omega) ?_
          refine n_lss (i) (((digs (z).natAbs).length) - (1)) (Gd.yes rfl rfl (decide_eq_false h4)) rfl rfl ?_
          refine o_pickF (b := decide ((0) < (p))) (bp ((i) < (((digs (z).natAbs).length) - (1)))) (Gd.yes rfl rfl (decide_eq_true h3)) rfl (decide_eq_false h4) rfl ?_
          refine o_pickT (b := decide ((k) < (9))) (bp ((i) < (((digs (z).natAbs).length) - (1)))) Gd.none rfl (decide_eq_true h3) rfl ?_
          refine aops_end ?_
          refine hK13 _ ?_
          refine awp_condQ (q := (i) < (((digs (z).natAbs).length) - (1))) rfl (fun h5 => ?_) (fun h5 => ?_)
          · refine awp_skip ?_
            refine hK12 _ ?_
            refine awp_seq fun K16 hK16 => ?_
            refine awp_block ?_
            refine awp_seq fun K17 hK17 => ?_
            refine awp_region rfl ?_
            refine o_move (AV.row 3) Gd.none rfl ?_
            refine o_move (nm .i64 (p)) Gd.none rfl ?_
            refine n_rem (p) (10) Gd.none rfl rfl (by omega) ?_
            refine n_add (48) ((p) % (10)) Gd.none rfl rfl (by simp only [topOf]; omega) ?_
            refine n_conv ((48) + ((p) % (10))) Gd.none rfl Wd_tI3 Wd_tI5 (by simp only [topOf]; omega) ?_
            refine o_buildSlice 201 (ns .u8 ([(48) + ((p) % (10))])) [(0, [(nm .u8 ((48) + ((p) % (10))))])] Gd.none Wd_tE96 rfl Wd_tO5 rfl rfl rfl rfl rfl rfl rfl ?_
            refine n_append 202 (bk) ([(48) + ((p) % (10))]) [(201, (AO.row 5 1 (ns .u8 ([(48) + ((p) % (10))])))), (2, (AO.var 36 [(bp (z < 0)), (AV.sl 1 (ns .i64 (digs (z).natAbs)))]))] Gd.none Wd_tE96 Wd_tO5 rfl rfl rfl rfl rfl (by simp only [List.length_append, List.length_cons, List.length_nil]; have := bk_len hw (by first | omega | (have := hpos (by omega); omega)) hz; omega) (by decide) rfl rfl ?_
            refine o_assign (AV.row 202) Gd.none rfl ?_
            refine aops_end ?_
            refine hK17 _ ?_
            refine awp_region rfl ?_
            refine o_move (nm .i64 (p)) Gd.none rfl ?_
            refine n_quo (p) (10) Gd.none rfl rfl (by omega) (by simp only [topOf]; omega) ?_
            refine o_assign (nm .i64 ((p) / (10))) Gd.none rfl ?_
            refine aops_end ?_
            refine hK16 _ ?_
            refine awp_region rfl ?_
            refine o_move (nm .i64 (k)) Gd.none rfl ?_
            refine n_add (k) (1) Gd.none rfl rfl (by simp only [topOf]; omega) ?_
            refine o_assign (nm .i64 ((k) + (1))) Gd.none rfl ?_
            refine aops_end ?_
            refine ⟨_, _, ?lt, ⟨k + 1, (p) / (10), (bk) ++ ([(48) + ((p) % (10))]), (by omega), (by rw [Nat.div_lt_iff_lt_mul (by decide), ← Nat.pow_succ, show Nat.succ (9 - (k + 1)) = 9 - k by omega]; exact hp), (by omega), (text_step (by omega) (by first | omega | (have := hpos (by omega); omega)) hw), rfl, rfl⟩, ?wk⟩
            case lt => omega
            case wk => exact Wk.trans (Wk.sub (σ' := ⟨[(1, (AV.ref 2 (0))), (3, (AV.row 202)), (4, (nm .i64 (i))), (5, (nm .i64 ((p) / (10)))), (6, (nm .i64 ((k) + (1))))], [(2, (AO.var 36 [(bp (z < 0)), (AV.sl 1 (ns .i64 (digs (z).natAbs)))])), (202, (AO.row 5 1 (ns .u8 ((bk) ++ ([(48) + ((p) % (10))])))))]⟩) (And.intro rfl (And.intro rfl (And.intro rfl (And.intro rfl (And.intro rfl (trivial)))))) (And.intro rfl (And.intro rfl (trivial)))) (Wk.trans (Wk.ren (id := 202) (id' := 3) rfl) (Wk.sub (And.intro (by exact rfl) (And.intro (by first | rfl | (simp)) (And.intro (by exact rfl) (And.intro (by first | rfl | exact congrArg (nm _) (by omega) | exact nm_int (by omega) | exact nm_int (by simp [IntKind.wrap, IntKind.bits, IntKind.signed]; omega)) (And.intro (by first | rfl | exact congrArg (nm _) (by omega) | exact nm_int (by omega) | exact nm_int (by simp [IntKind.wrap, IntKind.bits, IntKind.signed]; omega)) (trivial)))))) (And.intro (by first | rfl | exact row_ns (by simp) | exact congrArg (fun x => some (AO.blk (.stringIter _ x))) (by omega)) (And.intro (by first | rfl | exact row_ns (by simp) | exact congrArg (fun x => some (AO.blk (.stringIter _ x))) (by omega)) (trivial)))))
          · refine awp_exit ?_
            refine hK9 _ ?_
            refine awp_region rfl ?_
            refine o_move (nm .i64 (i)) Gd.none rfl ?_
            refine n_add (i) (1) Gd.none rfl rfl (by simp only [topOf]; omega) ?_
            refine o_assign (nm .i64 ((i) + (1))) Gd.none rfl ?_
            refine aops_end ?_
            have h0 : val ((digs z.natAbs).drop (i + 1)) = 0 := val_drop_all (by omega)
            have hh := hw
            rw [h0, show p = 0 by omega, Nat.mul_zero] at hh
            have hend : bk ++ decs (val ((digs z.natAbs).drop (i + 1))) = decs z.natAbs := by rw [h0]; exact hh
            refine ⟨_, _, ?lt, ⟨i + 1, bk, (by omega), hend, rfl, rfl⟩, ?wk⟩
            case lt => omega
            case wk => exact Wk.sub (And.intro (by exact rfl) (And.intro (by exact rfl) (And.intro (by first | rfl | exact congrArg (nm _) (by omega) | exact nm_int (by omega) | exact nm_int (by simp [IntKind.wrap, IntKind.bits, IntKind.signed]; omega)) (trivial)))) (And.intro (by first | rfl | exact row_ns (by simp) | exact congrArg (fun x => some (AO.blk (.stringIter _ x))) (by omega)) (And.intro (by first | rfl | exact row_ns (by simp) | exact congrArg (fun x => some (AO.blk (.stringIter _ x))) (by omega)) (trivial)))
      · refine o_skip (b := decide ((k) < (9))) rfl rfl (decide_eq_false h3) ?_
        refine o_skip (b := decide ((k) < (9))) rfl rfl (decide_eq_false h3) ?_
        refine o_skip (b := decide ((k) < (9))) rfl rfl (decide_eq_false h3) ?_
        refine o_skipU rfl rfl ?_
        refine o_skipU rfl rfl ?_
        refine o_skipU rfl rfl ?_
        refine o_skipU rfl rfl ?_
        refine o_skipU rfl rfl ?_
        refine o_skipU rfl rfl ?_
        refine o_skip (b := decide ((k) < (9))) rfl rfl (decide_eq_false h3) ?_
        refine o_pickF (b := decide ((k) < (9))) (AV.lit (.bool false)) Gd.none rfl (decide_eq_false h3) rfl ?_
        refine aops_end ?_
        refine hK13 _ ?_
        refine awp_condB (b := false) rfl (fun hh => absurd (hh.symm.trans rfl) (by decide)) (fun _ => ?_)
        refine awp_exit ?_
        refine hK9 _ ?_
        refine awp_region rfl ?_
        refine o_move (nm .i64 (i)) Gd.none rfl ?_
        refine n_add (i) (1) Gd.none rfl rfl (by simp only [topOf]; omega) ?_
        refine o_assign (nm .i64 ((i) + (1))) Gd.none rfl ?_
        refine aops_end ?_
        have hend := hw
        rw [show k = 9 by omega, show p = 0 by (have h9 := hp; rw [show k = 9 by omega] at h9; simpa using h9)] at hend
        simp only [Nat.sub_self, Nat.pow_zero, Nat.one_mul, Nat.zero_add] at hend
        refine ⟨_, _, ?lt, ⟨i + 1, bk, (by omega), hend, rfl, rfl⟩, ?wk⟩
        case lt => omega
        case wk => exact Wk.sub (And.intro (by exact rfl) (And.intro (by exact rfl) (And.intro (by first | rfl | exact congrArg (nm _) (by omega) | exact nm_int (by omega) | exact nm_int (by simp [IntKind.wrap, IntKind.bits, IntKind.signed]; omega)) (trivial)))) (And.intro (by first | rfl | exact row_ns (by simp) | exact congrArg (fun x => some (AO.blk (.stringIter _ x))) (by omega)) (And.intro (by first | rfl | exact row_ns (by simp) | exact congrArg (fun x => some (AO.blk (.stringIter _ x))) (by omega)) (trivial)))
    · refine awp_exit ?_
      refine hK5 _ ?_
      refine awp_seqJ (J := fun σ => ∃ (b : List Nat), (b = decs z.natAbs ++ if z < 0 then [45] else []) ∧ (b.length ≤ 9000000001) ∧ True ∧ σ = ⟨[(3, (AV.row 3))], [(3, (AO.row 5 1 (ns .u8 (b))))]⟩) ?ja2 ?jb2
      case ja2 =>
        refine awp_seq fun K18 hK18 => ?_
        refine awp_region rfl ?_
        refine o_fieldRef 0 Gd.none Wd_tF36_0 rfl rfl ?_
        refine o_loadS (bp (z < 0)) Gd.none Wd_tS4 rfl rfl rfl ?_
        refine aops_end ?_
        refine hK18 _ ?_
        refine awp_condQ (q := z < 0) rfl (fun h6 => ?_) (fun h6 => ?_)
        · refine awp_region rfl ?_
          refine o_move (AV.row 3) Gd.none rfl ?_
          refine o_buildSlice 101 (ns .u8 ([45])) [(0, [(nm .u8 (45))])] Gd.none Wd_tE96 rfl Wd_tO5 rfl rfl rfl rfl rfl rfl rfl ?_
          refine n_append 102 (bk) ([45]) [(101, (AO.row 5 1 (ns .u8 ([45])))), (2, (AO.var 36 [(bp (z < 0)), (AV.sl 1 (ns .i64 (digs (z).natAbs)))]))] Gd.none Wd_tE96 Wd_tO5 rfl rfl rfl rfl rfl (by simp only [List.length_append, List.length_cons, List.length_nil]; have := congrArg List.length (bk_end hv (by omega)); omega) (by decide) rfl rfl ?_
          refine o_assign (AV.row 102) Gd.none rfl ?_
          refine aops_end ?_
          have hbe := bk_end hv (by omega)
          exact ⟨_, ⟨(bk) ++ ([45]), (by rw [hbe]; simp [*]), (by simp [hbe]; omega), trivial, rfl⟩, Wk.trans (Wk.sub (σ' := ⟨[(3, (AV.row 102))], [(102, (AO.row 5 1 (ns .u8 ((bk) ++ ([45])))))]⟩) (And.intro rfl (trivial)) (And.intro rfl (trivial))) (Wk.trans (Wk.ren (id := 102) (id' := 3) rfl) (Wk.sub (And.intro (by first | rfl | (simp)) (trivial)) (And.intro (by first | rfl | exact row_ns (by simp) | exact congrArg (fun x => some (AO.blk (.stringIter _ x))) (by omega)) (trivial))))⟩
        · refine awp_skip ?_
          have hbe := bk_end hv (by omega)
          exact ⟨_, ⟨bk, (by rw [hbe]; simp [*]), (by simp [hbe]; omega), trivial, rfl⟩, Wk.sub (And.intro (by exact rfl) (trivial)) (And.intro (by first | rfl | exact row_ns (by simp) | exact congrArg (fun x => some (AO.blk (.stringIter _ x))) (by omega)) (trivial))⟩
      rintro _ ⟨b, hb, hbl, -, rfl⟩
      refine awp_seq fun K19 hK19 => ?_
      refine awp_region rfl ?_
      refine o_assign (AV.lit (.slice none 0 0)) Gd.none rfl ?_
      refine aops_end ?_
      refine hK19 _ ?_
      refine awp_seq fun K20 hK20 => ?_
      refine awp_seq fun K21 hK21 => ?_
      refine awp_region rfl ?_
      refine o_move (AV.row 3) Gd.none rfl ?_
      refine n_lenRow (b) Gd.none Wd_tU96 rfl rfl ?_
      refine o_sub (a := ((((b).length : Nat) : Int))) (c := (((1 : Nat) : Int))) Gd.none rfl rfl (by exact wrap64 (by omega) (by omega)) ?_
      refine o_assign (AV.lit (.int .i64 (((((b).length : Nat) : Int)) - (((1 : Nat) : Int))))) Gd.none rfl ?_
      refine aops_end ?_
      refine hK21 _ ?_
      refine awp_block ?_
      refine awp_loopR (fun κ σ => ∃ (j : Nat), ∃ (out : List Nat), (j ≤ b.length) ∧ (out = (b.drop j).reverse) ∧ (j) = κ ∧ σ = ⟨[(3, (AV.row 3)), (7, (AV.row 4)), (8, (AV.lit (.int .i64 ((j : Int) - 1))))], [(3, (AO.row 5 1 (ns .u8 (b)))), (4, (AO.row 5 1 (ns .u8 (out))))]⟩) ⟨_, _, ⟨b.length, [], (Nat.le_refl _), (by simp), rfl, rfl⟩, ?wk3⟩ ?rd3
      case wk3 =>
        exact Wk.trans (Wk.newNil (i := 7) (id := 801) (e := 5) (sz := 1) rfl rfl (by decide)) (Wk.trans (Wk.sub (σ' := ⟨[(3, (AV.row 3)), (7, (AV.row 801)), (8, (AV.lit (.int .i64 (((((b).length : Nat) : Int)) - (((1 : Nat) : Int))))))], [(3, (AO.row 5 1 (ns .u8 (b)))), (801, (AO.row 5 1 (ns .u8 ([]))))]⟩) (And.intro rfl (And.intro rfl (And.intro rfl (trivial)))) (And.intro rfl (And.intro rfl (trivial)))) (Wk.trans (Wk.ren (id := 801) (id' := 4) rfl) (Wk.sub (And.intro (by exact rfl) (And.intro (by first | rfl | (simp)) (And.intro (by first | rfl | exact int_eq (by omega) | exact int_nm (by omega)) (trivial)))) (And.intro (by first | rfl | exact row_ns (by simp) | exact congrArg (fun x => some (AO.blk (.stringIter _ x))) (by omega)) (And.intro (by first | rfl | exact row_ns (by simp) | exact congrArg (fun x => some (AO.blk (.stringIter _ x))) (by omega)) (trivial))))))
      rintro κ _ ⟨j, out, hj, ho, rfl, rfl⟩
      refine awp_seq fun K22 hK22 => ?_
      refine awp_seq fun K23 hK23 => ?_
      refine awp_region rfl ?_
      refine o_move (AV.lit (.int .i64 ((j : Int) - 1))) Gd.none rfl ?_
      refine o_geq (a := ((j : Int) - 1)) (c := (((0 : Nat) : Int))) Gd.none rfl rfl ?_
      refine aops_end ?_
      refine hK23 _ ?_
      refine awp_condQ (q := (((0 : Nat) : Int)) ≤ ((j : Int) - 1)) rfl (fun h7 => ?_) (fun h7 => ?_)
      · refine awp_wk (Wk.slot (i := 8) (y := (nm .i64 (j - 1))) (AV.le_eq (by exact nm_int (by omega)))) ?_
        refine awp_skip ?_
        refine hK22 _ ?_
        refine awp_seq fun K24 hK24 => ?_
        refine awp_block ?_
        refine awp_region rfl ?_
        refine o_move (AV.row 4) Gd.none rfl ?_
        refine o_move (AV.row 3) Gd.none rfl ?_
        refine o_move (nm .i64 (j - 1)) Gd.none rfl ?_
        refine n_indexRow (b) (j - 1) Gd.none Wd_tE96 rfl rfl rfl (by omega) ?_
        refine n_loadRow (b) (j - 1) Gd.none Wd_tS5 rfl rfl (by omega) ?_
        refine o_buildSlice 401 (ns .u8 ([(b).getD (j - 1) 0])) [(0, [(nm .u8 ((b).getD (j - 1) 0))])] Gd.none Wd_tE96 rfl Wd_tO5 rfl rfl rfl rfl rfl rfl rfl ?_
        refine n_append 402 (out) ([(b).getD (j - 1) 0]) [(401, (AO.row 5 1 (ns .u8 ([(b).getD (j - 1) 0])))), (3, (AO.row 5 1 (ns .u8 (b))))] Gd.none Wd_tE96 Wd_tO5 rfl rfl rfl rfl rfl (by simp only [ho, List.length_append, List.length_cons, List.length_nil, List.length_reverse, List.length_drop]; omega) (by decide) rfl rfl ?_
        refine o_assign (AV.row 402) Gd.none rfl ?_
        refine aops_end ?_
        refine hK24 _ ?_
        refine awp_region rfl ?_
        refine o_move (nm .i64 (j - 1)) Gd.none rfl ?_
        refine o_sub (a := (((j - 1 : Nat) : Int))) (c := (((1 : Nat) : Int))) Gd.none rfl rfl (by exact wrap64 (by omega) (by omega)) ?_
        refine o_assign (AV.lit (.int .i64 ((((j - 1 : Nat) : Int)) - (((1 : Nat) : Int))))) Gd.none rfl ?_
        refine aops_end ?_
        refine ⟨_, _, ?lt, ⟨j - 1, (out) ++ ([(b).getD (j - 1) 0]), (by omega), (by rw [ho]; exact rev_step (by omega) hj), rfl, rfl⟩, ?wk⟩
        case lt => omega
        case wk => exact Wk.trans (Wk.sub (σ' := ⟨[(3, (AV.row 3)), (7, (AV.row 402)), (8, (AV.lit (.int .i64 ((((j - 1 : Nat) : Int)) - (((1 : Nat) : Int))))))], [(3, (AO.row 5 1 (ns .u8 (b)))), (402, (AO.row 5 1 (ns .u8 ((out) ++ ([(b).getD (j - 1) 0])))))]⟩) (And.intro rfl (And.intro rfl (And.intro rfl (trivial)))) (And.intro rfl (And.intro rfl (trivial)))) (Wk.trans (Wk.ren (id := 402) (id' := 4) rfl) (Wk.sub (And.intro (by exact rfl) (And.intro (by first | rfl | (simp)) (And.intro (by first | rfl | exact int_eq (by omega) | exact int_nm (by omega)) (trivial)))) (And.intro (by first | rfl | exact row_ns (by simp) | exact congrArg (fun x => some (AO.blk (.stringIter _ x))) (by omega)) (And.intro (by first | rfl | exact row_ns (by simp) | exact congrArg (fun x => some (AO.blk (.stringIter _ x))) (by omega)) (trivial)))))
      · refine awp_exit ?_
        refine hK20 _ ?_
        refine awp_seq fun K25 hK25 => ?_
        refine awp_region rfl ?_
        refine o_move (AV.row 4) Gd.none rfl ?_
        refine n_strOf (out) Gd.none Wd_tU96 Wd_tQ5 Wd_tT9 rfl rfl ?_
        refine o_assign (AV.lit (.string (strN (out)))) Gd.none rfl ?_
        refine aops_end ?_
        refine hK25 _ ?_
        refine awp_ret ?_
        refine post_ret ⟨[(AV.lit (.string (strN (out))))], And.intro (AV.le_refl _) (trivial), rfl, ?_⟩
        have hj0 : j = 0 := by omega
        subst hj0
        rw [ho, List.drop_zero]
        exact congrArg (fun x => AV.lit (.string x)) (txt_fin hz0 hb)

theorem c_rTold (z : Int) (hz : (digs z.natAbs).length ≤ 1000000000) : ECalls cx 46 [(intR (z))] (.tup [.lit (.string (toldS z)), nm .i64 (toldE z)]) := by
  refine ecalls_of_awp Tryd.func46 (c := _) rfl (Nat.le_of_ble_eq_true rfl) ?_
  show awp cx 9 _ (postF cx Tryd.f46 _) ⟨[(0, (intR (z)))], []⟩
  refine awp_seq fun K0 hK0 => ?_
  refine awp_region rfl ?_
  refine o_box 2 [(bp (z < 0)), (AV.sl 1 (ns .i64 (digs (z).natAbs)))] Gd.none rfl rfl ?_
  refine o_assign (AV.lit (.string (({data := #[]} : ByteArray)))) Gd.none rfl ?_
  refine o_assign (nm .i64 (0)) Gd.none rfl ?_
  refine aops_end ?_
  refine hK0 _ ?_
  refine awp_seq fun K1 hK1 => ?_
  refine awp_seq fun K2 hK2 => ?_
  refine awp_region rfl ?_
  refine o_loadA [(bp (z < 0)), (AV.sl 1 (ns .i64 (digs (z).natAbs)))] Gd.none Wd_tA36 rfl rfl rfl rfl rfl ?_
  refine o_call [(AV.agg [(bp (z < 0)), (AV.sl 1 (ns .i64 (digs (z).natAbs)))])] (bp (Fit (z))) Gd.none Wd_tC25 rfl (c_rFits (z) (by first | assumption | omega | (simp only [Int.natAbs_neg]; omega))) ?_
  refine o_notP (q := Fit (z)) Gd.none rfl ?_
  refine aops_end ?_
  refine hK2 _ ?_
  refine awp_condQ (q := ¬ (Fit (z))) rfl (fun h1 => ?_) (fun h1 => ?_)
  · refine awp_seq fun K3 hK3 => ?_
    refine awp_region rfl ?_
    refine o_assign (AV.lit (.string (({data := #[]} : ByteArray)))) Gd.none rfl ?_
    refine o_assign (nm .i64 (3)) Gd.none rfl ?_
    refine aops_end ?_
    refine hK3 _ ?_
    refine awp_ret ?_
    refine post_ret ⟨[(AV.lit (.string (({data := #[]} : ByteArray)))), (nm .i64 (3))], And.intro (AV.le_refl _) (And.intro (AV.le_refl _) (trivial)), rfl, ?_⟩
    unfold toldS toldE
    rw [if_neg h1, if_neg h1]
    rfl
  · refine awp_skip ?_
    refine hK1 _ ?_
    refine awp_seq fun K4 hK4 => ?_
    refine awp_region rfl ?_
    refine o_loadA [(bp (z < 0)), (AV.sl 1 (ns .i64 (digs (z).natAbs)))] Gd.none Wd_tA36 rfl rfl rfl rfl rfl ?_
    refine o_call [(AV.agg [(bp (z < 0)), (AV.sl 1 (ns .i64 (digs (z).natAbs)))])] (AV.lit (.string (txt (z)))) Gd.none Wd_tC26 rfl (c_rText (z) (by first | assumption | omega | (simp only [Int.natAbs_neg]; omega))) ?_
    refine o_assign (AV.lit (.string (txt (z)))) Gd.none rfl ?_
    refine o_assign (nm .i64 (0)) Gd.none rfl ?_
    refine aops_end ?_
    refine hK4 _ ?_
    refine awp_ret ?_
    refine post_ret ⟨[(AV.lit (.string (txt (z)))), (nm .i64 (0))], And.intro (AV.le_refl _) (And.intro (AV.le_refl _) (trivial)), rfl, ?_⟩
    unfold toldS toldE
    rw [if_pos (Decidable.not_not.1 h1), if_pos (Decidable.not_not.1 h1)]
    rfl

end Go.Proofs.YtkngglpnejdicaaDoor
