import Derived.Test.YtkngglpnejdicaaDoorWb
set_option linter.unusedVariables false
set_option linter.unusedSimpArgs false
namespace Go.Proofs.YtkngglpnejdicaaDoor
open Go Go.Ab Go.Mth
theorem Wc_tO36 : tyZero cx.P 36 = some [(Go.Value.bool false), (Go.Value.slice none 0 0)] := by kernel_rfl
theorem Wc_tF36_1 : tyField cx.P 36 1 = some (1, 22) := by kernel_rfl
theorem Wc_tS22 : tySc cx.P 22 = true := by kernel_rfl
theorem Wc_tU22 : cx.P.underlying 22 = some (.slice 3) := by kernel_rfl
theorem Wc_tE22 : tyElem cx.P 22 = some (3, 1, 8) := by kernel_rfl
theorem Wc_tO3 : tyZero cx.P 3 = some [(Go.Value.int IntKind.i64 0)] := by kernel_rfl
theorem Wc_tS3 : tySc cx.P 3 = true := by kernel_rfl
theorem Wc_tZ3 : tySize cx.P 3 = some 1 := by kernel_rfl
theorem Wc_tC74 : callable cx.P 74 = true := by kernel_rfl
theorem Wc_tZ36 : tySize cx.P 36 = some 2 := by kernel_rfl
theorem Wc_tF36_0 : tyField cx.P 36 0 = some (0, 4) := by kernel_rfl
theorem Wc_tS4 : tySc cx.P 4 = true := by kernel_rfl
theorem Wc_tA36 : tyAgg cx.P 36 = some 2 := by kernel_rfl
theorem Wc_tC81 : callable cx.P 81 = true := by kernel_rfl
theorem Wc_tC31 : callable cx.P 31 = true := by kernel_rfl
theorem Wc_tC32 : callable cx.P 32 = true := by kernel_rfl
theorem Wc_tO89 : tyZero cx.P 89 = some [(Go.Value.bool false), (Go.Value.slice none 0 0)] := by kernel_rfl
theorem Wc_tF89_1 : tyField cx.P 89 1 = some (1, 87) := by kernel_rfl
theorem Wc_tS87 : tySc cx.P 87 = true := by kernel_rfl
theorem Wc_tU87 : cx.P.underlying 87 = some (.slice 122) := by kernel_rfl
theorem Wc_tE87 : tyElem cx.P 87 = some (122, 1, 4) := by kernel_rfl
theorem Wc_tO122 : tyZero cx.P 122 = some [(Go.Value.int IntKind.u32 0)] := by kernel_rfl
theorem Wc_tS122 : tySc cx.P 122 = true := by kernel_rfl
theorem Wc_tI122 : tyInt cx.P 122 = some .u32 := by kernel_rfl
theorem Wc_tI117 : tyInt cx.P 117 = some .u64 := by kernel_rfl
theorem Wc_tI3 : tyInt cx.P 3 = some .i64 := by kernel_rfl
theorem Wc_tZ122 : tySize cx.P 122 = some 1 := by kernel_rfl
theorem Wc_tF89_0 : tyField cx.P 89 0 = some (0, 4) := by kernel_rfl
theorem Wc_tC101 : callable cx.P 101 = true := by kernel_rfl
theorem Wc_tZ89 : tySize cx.P 89 = some 2 := by kernel_rfl
theorem Wc_tA89 : tyAgg cx.P 89 = some 2 := by kernel_rfl
theorem Wc_tC105 : callable cx.P 105 = true := by kernel_rfl
theorem Wc_tC93 : callable cx.P 93 = true := by kernel_rfl
theorem c_rQR (z : Int) (d : Nat) (hd0 : 0 < d) (hd2 : d ≤ 2147483647) (hz : (digs z.natAbs).length ≤ 1000000000) : ECalls cx 33 [(intR (z)), (nm .i64 (d))] (.tup [(intR ((z / (d : Int)))), .lit (.int .i64 (z % (d : Int)))]) := by
  refine ecalls_of_awp Tryd.func33 (c := _) rfl (Nat.le_of_ble_eq_true rfl) ?_
  show awp cx 58 _ (postF cx Tryd.f33 _) ⟨[(0, (intR (z))), (1, (nm .i64 (d)))], []⟩
  refine awp_seq fun K0 hK0 => ?_
  refine awp_region rfl ?_
  refine o_box 2 [(bp (z < 0)), (AV.sl 1 (ns .i64 (digs (z).natAbs)))] Gd.none rfl rfl ?_
  refine o_alloc 3 [(AV.lit (.bool false)), (AV.lit (.slice none 0 0))] Gd.none Wc_tO36 rfl rfl rfl ?_
  refine o_assign (nm .i64 (0)) Gd.none rfl ?_
  refine aops_end ?_
  refine hK0 _ ?_
  refine awp_seq fun K1 hK1 => ?_
  refine awp_region rfl ?_
  refine o_fieldRef 1 Gd.none Wc_tF36_1 rfl rfl ?_
  refine o_loadS (AV.sl 1 (ns .i64 (digs (z).natAbs))) Gd.none Wc_tS22 rfl rfl rfl ?_
  refine n_len (digs (z).natAbs) Gd.none Wc_tU22 rfl ?_
  refine n_make 4 ((digs (z).natAbs).length) Gd.none Wc_tE22 Wc_tO3 rfl rfl (by omega) rfl rfl ?_
  refine o_assign (AV.row 4) Gd.none rfl ?_
  refine aops_end ?_
  refine hK1 _ ?_
  refine awp_seq fun K2 hK2 => ?_
  refine awp_region rfl ?_
  refine o_assign (nm .i64 (0)) Gd.none rfl ?_
  refine aops_end ?_
  refine hK2 _ ?_
  refine awp_seq fun K3 hK3 => ?_
  refine awp_seq fun K4 hK4 => ?_
  refine awp_region rfl ?_
  refine o_fieldRef 1 Gd.none Wc_tF36_1 rfl rfl ?_
  refine o_loadS (AV.sl 1 (ns .i64 (digs (z).natAbs))) Gd.none Wc_tS22 rfl rfl rfl ?_
  refine n_len (digs (z).natAbs) Gd.none Wc_tU22 rfl ?_
  refine o_sub (a := ((((digs (z).natAbs).length : Nat) : Int))) (c := (((1 : Nat) : Int))) Gd.none rfl rfl (by exact wrap64 (by omega) (by omega)) ?_
  refine o_assign (AV.lit (.int .i64 (((((digs (z).natAbs).length : Nat) : Int)) - (((1 : Nat) : Int))))) Gd.none rfl ?_
  refine aops_end ?_
  refine hK4 _ ?_
  refine awp_block ?_
  refine awp_loopR (fun κ σ => ∃ (j : Nat), ∃ (o : List Nat), ∃ (r : Nat), (j ≤ (digs z.natAbs).length) ∧ (o.length = (digs z.natAbs).length) ∧ (Dig o) ∧ (r < d) ∧ (val ((digs z.natAbs).drop j) = d * val (o.drop j) + r) ∧ (j) = κ ∧ σ = ⟨[(1, (nm .i64 (d))), (2, (AV.ref 2 (0))), (4, (AV.ref 3 (0))), (6, (AV.row 4)), (7, (nm .i64 (r))), (8, (AV.lit (.int .i64 ((j : Int) - 1))))], [(2, (AO.var 36 [(bp (z < 0)), (AV.sl 1 (ns .i64 (digs (z).natAbs)))])), (3, (AO.var 36 [(AV.lit (.bool false)), (AV.lit (.slice none 0 0))])), (4, (AO.row 3 1 (ns .i64 (o))))]⟩) ⟨_, _, ⟨(digs z.natAbs).length, List.replicate (digs z.natAbs).length 0, 0, (Nat.le_refl _), (by simp), (Dig.repl _), hd0, (by rw [val_drop_all (Nat.le_refl _), val_drop_all (by simp)]; simp), rfl, rfl⟩, ?wk0⟩ ?rd0
  case wk0 =>
    exact Wk.sub (And.intro (by exact rfl) (And.intro (by exact rfl) (And.intro (by exact rfl) (And.intro (by exact rfl) (And.intro (by first | rfl | exact congrArg (nm _) (by omega) | exact nm_int (by omega) | exact nm_int (by simp [IntKind.wrap, IntKind.bits, IntKind.signed]; omega)) (And.intro (by first | rfl | exact int_eq (by omega) | exact int_nm (by omega)) (trivial))))))) (And.intro (by first | rfl | exact row_ns (by simp) | exact congrArg (fun x => some (AO.blk (.stringIter _ x))) (by omega)) (And.intro (by first | rfl | exact row_ns (by simp) | exact congrArg (fun x => some (AO.blk (.stringIter _ x))) (by omega)) (And.intro (by first | rfl | exact row_ns (by simp) | exact congrArg (fun x => some (AO.blk (.stringIter _ x))) (by omega)) (trivial))))
  rintro κ _ ⟨j, o, r, hj, hl, hd, hr, hv, rfl, rfl⟩
  have hA := (digs_dig z.natAbs).getD (j - 1)
  refine awp_seq fun K5 hK5 => ?_
  refine awp_seq fun K6 hK6 => ?_
  refine awp_region rfl ?_
  refine o_move (AV.lit (.int .i64 ((j : Int) - 1))) Gd.none rfl ?_
  refine o_geq (a := ((j : Int) - 1)) (c := (((0 : Nat) : Int))) Gd.none rfl rfl ?_
  refine aops_end ?_
  refine hK6 _ ?_
  refine awp_condQ (q := (((0 : Nat) : Int)) ≤ ((j : Int) - 1)) rfl (fun h1 => ?_) (fun h1 => ?_)
  · refine awp_wk (Wk.slot (i := 8) (y := (nm .i64 (j - 1))) (AV.le_eq (by exact nm_int (by omega)))) ?_
    refine awp_skip ?_
    refine hK5 _ ?_
    refine awp_seq fun K7 hK7 => ?_
    refine awp_block ?_
    refine awp_seq fun K8 hK8 => ?_
    refine awp_region rfl ?_
    refine o_move (nm .i64 (r)) Gd.none rfl ?_
    refine n_mul (r) (1000000000) Gd.none rfl rfl (by simp only [topOf]; omega) ?_
    refine o_fieldRef 1 Gd.none Wc_tF36_1 rfl rfl ?_
    refine o_loadS (AV.sl 1 (ns .i64 (digs (z).natAbs))) Gd.none Wc_tS22 rfl rfl rfl ?_
    refine o_move (nm .i64 (j - 1)) Gd.none rfl ?_
    refine n_index (digs (z).natAbs) (j - 1) Gd.none Wc_tE22 rfl rfl (by omega) ?_
    refine n_loadI (digs (z).natAbs) (j - 1) Gd.none Wc_tS3 rfl (by omega) ?_
    refine n_add ((r) * (1000000000)) ((digs (z).natAbs).getD (j - 1) 0) Gd.none rfl rfl (by simp only [topOf]; omega) ?_
    refine o_assign (nm .i64 (((r) * (1000000000)) + ((digs (z).natAbs).getD (j - 1) 0))) Gd.none rfl ?_
    refine aops_end ?_
    refine hK8 _ ?_
    refine awp_seq fun K9 hK9 => ?_
    refine awp_region rfl ?_
    refine o_move (AV.row 4) Gd.none rfl ?_
    refine o_move (nm .i64 (j - 1)) Gd.none rfl ?_
    refine o_move (nm .i64 (((r) * (1000000000)) + ((digs (z).natAbs).getD (j - 1) 0))) Gd.none rfl ?_
    refine o_move (nm .i64 (d)) Gd.none rfl ?_
    refine n_quo (((r) * (1000000000)) + ((digs (z).natAbs).getD (j - 1) 0)) (d) Gd.none rfl rfl (by omega) (by simp only [topOf]; have := div_dig hr hA rfl; omega) ?_
    refine n_indexRow (o) (j - 1) Gd.none Wc_tE22 rfl rfl rfl (by omega) ?_
    refine n_storeRow (o) (j - 1) ((((r) * (1000000000)) + ((digs (z).natAbs).getD (j - 1) 0)) / (d)) [(2, (AO.var 36 [(bp (z < 0)), (AV.sl 1 (ns .i64 (digs (z).natAbs)))])), (3, (AO.var 36 [(AV.lit (.bool false)), (AV.lit (.slice none 0 0))])), (4, (AO.row 3 1 (ns .i64 ((o).set (j - 1) ((((r) * (1000000000)) + ((digs (z).natAbs).getD (j - 1) 0)) / (d))))))] Gd.none Wc_tZ3 rfl rfl rfl (by omega) rfl ?_
    refine aops_end ?_
    refine hK9 _ ?_
    refine awp_region rfl ?_
    refine o_move (nm .i64 (((r) * (1000000000)) + ((digs (z).natAbs).getD (j - 1) 0))) Gd.none rfl ?_
    refine o_move (nm .i64 (d)) Gd.none rfl ?_
    refine n_rem (((r) * (1000000000)) + ((digs (z).natAbs).getD (j - 1) 0)) (d) Gd.none rfl rfl (by omega) ?_
    refine o_assign (nm .i64 ((((r) * (1000000000)) + ((digs (z).natAbs).getD (j - 1) 0)) % (d))) Gd.none rfl ?_
    refine aops_end ?_
    refine hK7 _ ?_
    refine awp_region rfl ?_
    refine o_move (nm .i64 (j - 1)) Gd.none rfl ?_
    refine o_sub (a := (((j - 1 : Nat) : Int))) (c := (((1 : Nat) : Int))) Gd.none rfl rfl (by exact wrap64 (by omega) (by omega)) ?_
    refine o_assign (AV.lit (.int .i64 ((((j - 1 : Nat) : Int)) - (((1 : Nat) : Int))))) Gd.none rfl ?_
    refine aops_end ?_
    refine ⟨_, _, ?lt, ⟨j - 1, (o).set (j - 1) ((((r) * (1000000000)) + ((digs (z).natAbs).getD (j - 1) 0)) / (d)), (((r) * (1000000000)) + ((digs (z).natAbs).getD (j - 1) 0)) % (d), (by omega), (by simp only [List.length_set]; exact hl), (hd.set (div_dig hr hA rfl)), (Nat.mod_lt _ hd0), (div_step (by omega) hl hd0 (by rw [Nat.sub_add_cancel (by omega)]; exact hv) rfl), rfl, rfl⟩, ?wk⟩
    case lt => omega
    case wk => exact Wk.sub (And.intro (by exact rfl) (And.intro (by exact rfl) (And.intro (by exact rfl) (And.intro (by exact rfl) (And.intro (by first | rfl | exact congrArg (nm _) (by omega) | exact nm_int (by omega) | exact nm_int (by simp [IntKind.wrap, IntKind.bits, IntKind.signed]; omega)) (And.intro (by first | rfl | exact int_eq (by omega) | exact int_nm (by omega)) (trivial))))))) (And.intro (by first | rfl | exact row_ns (by simp) | exact congrArg (fun x => some (AO.blk (.stringIter _ x))) (by omega)) (And.intro (by first | rfl | exact row_ns (by simp) | exact congrArg (fun x => some (AO.blk (.stringIter _ x))) (by omega)) (And.intro (by first | rfl | exact row_ns (by simp) | exact congrArg (fun x => some (AO.blk (.stringIter _ x))) (by omega)) (trivial))))
  · have hj0 : j = 0 := by omega
    have hv0 := hv
    rw [hj0] at hv0
    have hE := div_end hr hv0
    have hq := hE.1
    have hq1 := len_div hE.1 hz false
    have hq2 := len_one
    refine awp_exit ?_
    refine hK3 _ ?_
    refine awp_seq fun K10 hK10 => ?_
    refine awp_region rfl ?_
    refine o_move (AV.row 4) Gd.none rfl ?_
    refine o_callG [(4, 1, (ns .i64 (o)))] [(AV.lit (.bool false)), (AV.sl 1 (ns .i64 (o)))] _ (intR ((sg (false) (val (o))))) [(2, (AO.var 36 [(bp (z < 0)), (AV.sl 1 (ns .i64 (digs (z).natAbs)))])), (3, (AO.var 36 [(AV.lit (.bool false)), (AV.lit (.slice none 0 0))]))] Gd.none Wc_tC74 rfl (And.intro ⟨_, rfl⟩ (trivial)) rfl rfl (LeL.cons (AV.le_refl _) (LeL.cons (AV.le_refl _) (LeL.nil))) (c_rTrim (false) (o) (by first | assumption | exact dgn_dig _ _ | exact digs_dig _)) rfl ?_
    refine o_alloc 101 [(AV.lit (.bool false)), (AV.lit (.slice none 0 0))] Gd.none Wc_tO36 rfl rfl rfl ?_
    refine o_store [(101, (AO.var 36 [(bp ((sg (false) (val (o))) < 0)), (AV.sl 1 (ns .i64 (digs ((sg (false) (val (o)))).natAbs)))])), (2, (AO.var 36 [(bp (z < 0)), (AV.sl 1 (ns .i64 (digs (z).natAbs)))])), (3, (AO.var 36 [(AV.lit (.bool false)), (AV.lit (.slice none 0 0))]))] Gd.none Wc_tZ36 rfl rfl rfl rfl rfl rfl ?_
    refine aops_end ?_
    refine hK10 _ ?_
    refine awp_seq fun K11 hK11 => ?_
    refine awp_seq fun K12 hK12 => ?_
    refine awp_region rfl ?_
    refine o_fieldRef 0 Gd.none Wc_tF36_0 rfl rfl ?_
    refine o_loadS (bp (z < 0)) Gd.none Wc_tS4 rfl rfl rfl ?_
    refine o_notP (q := z < 0) Gd.none rfl ?_
    refine aops_end ?_
    refine hK12 _ ?_
    refine awp_condQ (q := ¬ (z < 0)) rfl (fun h2 => ?_) (fun h2 => ?_)
    · refine awp_seq fun K13 hK13 => ?_
      refine awp_region rfl ?_
      refine o_loadA [(bp ((sg (false) (val (o))) < 0)), (AV.sl 1 (ns .i64 (digs ((sg (false) (val (o)))).natAbs)))] Gd.none Wc_tA36 rfl rfl rfl rfl rfl ?_
      refine o_move (nm .i64 (r)) Gd.none rfl ?_
      refine o_store [(101, (AO.var 36 [(bp ((sg (false) (val (o))) < 0)), (AV.sl 1 (ns .i64 (digs ((sg (false) (val (o)))).natAbs)))])), (2, (AO.var 36 [(bp (z < 0)), (AV.sl 1 (ns .i64 (digs (z).natAbs)))])), (3, (AO.var 36 [(bp ((sg (false) (val (o))) < 0)), (AV.sl 1 (ns .i64 (digs ((sg (false) (val (o)))).natAbs)))]))] Gd.none Wc_tZ36 rfl rfl rfl rfl rfl rfl ?_
      refine o_assign (nm .i64 (r)) Gd.none rfl ?_
      refine aops_end ?_
      refine hK13 _ ?_
      refine awp_ret ?_
      refine post_ret ⟨[(AV.agg [(bp ((sg (false) (val (o))) < 0)), (AV.sl 1 (ns .i64 (digs ((sg (false) (val (o)))).natAbs)))]), (nm .i64 (r))], And.intro ⟨3, (AO.var 36 [(bp ((sg (false) (val (o))) < 0)), (AV.sl 1 (ns .i64 (digs ((sg (false) (val (o)))).natAbs)))]), rfl, rfl, rfl, Or.inl ⟨Wc_tA36, AV.le_refl _⟩⟩ (And.intro (AV.le_refl _) (trivial)), rfl, ?_⟩
      have e := part1 h2 hd0 hE.1 hE.2
      exact tup_eq2 (congrArg (intK .i64) e.1) (int_eq e.2)
    · refine awp_skip ?_
      refine hK11 _ ?_
      refine awp_seq fun K14 hK14 => ?_
      refine awp_seq fun K15 hK15 => ?_
      refine awp_region rfl ?_
      refine o_move (nm .i64 (r)) Gd.none rfl ?_
      refine n_eql (r) (0) Gd.none rfl rfl ?_
      refine aops_end ?_
      refine hK15 _ ?_
      refine awp_condQ (q := (r) = (0)) rfl (fun h3 => ?_) (fun h3 => ?_)
      · refine awp_seq fun K16 hK16 => ?_
        refine awp_region rfl ?_
        refine o_loadA [(bp ((sg (false) (val (o))) < 0)), (AV.sl 1 (ns .i64 (digs ((sg (false) (val (o)))).natAbs)))] Gd.none Wc_tA36 rfl rfl rfl rfl rfl ?_
        refine o_call [(AV.agg [(bp ((sg (false) (val (o))) < 0)), (AV.sl 1 (ns .i64 (digs ((sg (false) (val (o)))).natAbs)))])] (intR ((-(sg (false) (val (o)))))) Gd.none Wc_tC81 rfl (c_rMinus ((sg (false) (val (o))))) ?_
        refine o_store [(101, (AO.var 36 [(bp ((sg (false) (val (o))) < 0)), (AV.sl 1 (ns .i64 (digs ((sg (false) (val (o)))).natAbs)))])), (2, (AO.var 36 [(bp (z < 0)), (AV.sl 1 (ns .i64 (digs (z).natAbs)))])), (3, (AO.var 36 [(bp ((-(sg (false) (val (o)))) < 0)), (AV.sl 1 (ns .i64 (digs ((-(sg (false) (val (o))))).natAbs)))]))] Gd.none Wc_tZ36 rfl rfl rfl rfl rfl rfl ?_
        refine o_assign (nm .i64 (0)) Gd.none rfl ?_
        refine aops_end ?_
        refine hK16 _ ?_
        refine awp_ret ?_
        refine post_ret ⟨[(AV.agg [(bp ((-(sg (false) (val (o)))) < 0)), (AV.sl 1 (ns .i64 (digs ((-(sg (false) (val (o))))).natAbs)))]), (nm .i64 (0))], And.intro ⟨3, (AO.var 36 [(bp ((-(sg (false) (val (o)))) < 0)), (AV.sl 1 (ns .i64 (digs ((-(sg (false) (val (o))))).natAbs)))]), rfl, rfl, rfl, Or.inl ⟨Wc_tA36, AV.le_refl _⟩⟩ (And.intro (AV.le_refl _) (trivial)), rfl, ?_⟩
        have e := part2 (Decidable.not_not.1 h2) hd0 hE.1 hE.2 h3
        exact tup_eq2 (congrArg (intK .i64) (e.1.trans (by simp [sg]))) (int_eq e.2)
      · refine awp_skip ?_
        refine hK14 _ ?_
        refine awp_seq fun K17 hK17 => ?_
        refine awp_regionD rfl ?_
        refine o_loadA [(bp ((sg (false) (val (o))) < 0)), (AV.sl 1 (ns .i64 (digs ((sg (false) (val (o)))).natAbs)))] Gd.none Wc_tA36 rfl rfl rfl rfl rfl ?_
        refine o_call [(nm .i64 (1))] (intR ((1 : Int))) Gd.none Wc_tC31 rfl (c_rOf ((1 : Int)) (by first | decide | omega) (by first | decide | omega)) ?_
        refine o_call [(AV.agg [(bp ((sg (false) (val (o))) < 0)), (AV.sl 1 (ns .i64 (digs ((sg (false) (val (o)))).natAbs)))]), (intR ((1 : Int)))] (intR (((sg (false) (val (o))) + (1 : Int)))) Gd.none Wc_tC32 rfl (c_rAdd ((sg (false) (val (o)))) ((1 : Int)) (by first | assumption | omega | (simp only [Int.natAbs_neg]; omega)) (by first | assumption | omega | (simp only [Int.natAbs_neg]; omega))) ?_
        refine o_call [(intR (((sg (false) (val (o))) + (1 : Int))))] (intR ((-((sg (false) (val (o))) + (1 : Int))))) Gd.none Wc_tC81 rfl (c_rMinus (((sg (false) (val (o))) + (1 : Int)))) ?_
        refine o_move (nm .i64 (d)) Gd.none rfl ?_
        refine o_move (nm .i64 (r)) Gd.none rfl ?_
        refine o_sub (a := (((d : Nat) : Int))) (c := (((r : Nat) : Int))) Gd.none rfl rfl (by exact wrap64 (by omega) (by omega)) ?_
        refine o_store [(101, (AO.var 36 [(bp ((sg (false) (val (o))) < 0)), (AV.sl 1 (ns .i64 (digs ((sg (false) (val (o)))).natAbs)))])), (2, (AO.var 36 [(bp (z < 0)), (AV.sl 1 (ns .i64 (digs (z).natAbs)))])), (3, (AO.var 36 [(bp ((-((sg (false) (val (o))) + (1 : Int))) < 0)), (AV.sl 1 (ns .i64 (digs ((-((sg (false) (val (o))) + (1 : Int)))).natAbs)))]))] Gd.none Wc_tZ36 rfl rfl rfl rfl rfl rfl ?_
        refine o_assign (AV.lit (.int .i64 ((((d : Nat) : Int)) - (((r : Nat) : Int))))) Gd.none rfl ?_
        refine aops_end ⟨by kernel_rfl, ?_⟩
        refine hK17 _ ?_
        refine awp_ret ?_
        refine post_ret ⟨[(AV.agg [(bp ((-((sg (false) (val (o))) + (1 : Int))) < 0)), (AV.sl 1 (ns .i64 (digs ((-((sg (false) (val (o))) + (1 : Int)))).natAbs)))]), (AV.lit (.int .i64 ((((d : Nat) : Int)) - (((r : Nat) : Int)))))], And.intro ⟨3, (AO.var 36 [(bp ((-((sg (false) (val (o))) + (1 : Int))) < 0)), (AV.sl 1 (ns .i64 (digs ((-((sg (false) (val (o))) + (1 : Int)))).natAbs)))]), rfl, rfl, rfl, Or.inl ⟨Wc_tA36, AV.le_refl _⟩⟩ (And.intro (AV.le_refl _) (trivial)), rfl, ?_⟩
        have e := part3 (Decidable.not_not.1 h2) hd0 hE.1 hE.2 h3
        exact tup_eq2 (congrArg (intK .i64) (e.1.trans (by simp [sg]; omega))) (int_eq e.2)

theorem c_wQR (z : Int) (d : Nat) (hd0 : 0 < d) (hd2 : d ≤ 2147483647) (hz : (digs z.natAbs).length ≤ 1000000000) : ECalls cx 98 [(intW (z)), (nm .i64 (d))] (.tup [(intW ((z / (d : Int)))), .lit (.int .i64 (z % (d : Int)))]) := by
  refine ecalls_of_awp Tryd.func98 (c := _) rfl (Nat.le_of_ble_eq_true rfl) ?_
  show awp cx 64 _ (postF cx Tryd.f98 _) ⟨[(0, (intW (z))), (1, (nm .i64 (d)))], []⟩
  refine awp_seq fun K0 hK0 => ?_
  refine awp_region rfl ?_
  refine o_box 2 [(bp (z < 0)), (AV.sl 1 (ns .u32 (digs (z).natAbs)))] Gd.none rfl rfl ?_
  refine o_alloc 3 [(AV.lit (.bool false)), (AV.lit (.slice none 0 0))] Gd.none Wc_tO89 rfl rfl rfl ?_
  refine o_assign (nm .i64 (0)) Gd.none rfl ?_
  refine aops_end ?_
  refine hK0 _ ?_
  refine awp_seq fun K1 hK1 => ?_
  refine awp_region rfl ?_
  refine o_fieldRef 1 Gd.none Wc_tF89_1 rfl rfl ?_
  refine o_loadS (AV.sl 1 (ns .u32 (digs (z).natAbs))) Gd.none Wc_tS87 rfl rfl rfl ?_
  refine n_len (digs (z).natAbs) Gd.none Wc_tU87 rfl ?_
  refine n_make 4 ((digs (z).natAbs).length) Gd.none Wc_tE87 Wc_tO122 rfl rfl (by omega) rfl rfl ?_
  refine o_assign (AV.row 4) Gd.none rfl ?_
  refine aops_end ?_
  refine hK1 _ ?_
  refine awp_seq fun K2 hK2 => ?_
  refine awp_region rfl ?_
  refine o_assign (nm .u64 (0)) Gd.none rfl ?_
  refine aops_end ?_
  refine hK2 _ ?_
  refine awp_seq fun K3 hK3 => ?_
  refine awp_seq fun K4 hK4 => ?_
  refine awp_region rfl ?_
  refine o_fieldRef 1 Gd.none Wc_tF89_1 rfl rfl ?_
  refine o_loadS (AV.sl 1 (ns .u32 (digs (z).natAbs))) Gd.none Wc_tS87 rfl rfl rfl ?_
  refine n_len (digs (z).natAbs) Gd.none Wc_tU87 rfl ?_
  refine o_sub (a := ((((digs (z).natAbs).length : Nat) : Int))) (c := (((1 : Nat) : Int))) Gd.none rfl rfl (by exact wrap64 (by omega) (by omega)) ?_
  refine o_assign (AV.lit (.int .i64 (((((digs (z).natAbs).length : Nat) : Int)) - (((1 : Nat) : Int))))) Gd.none rfl ?_
  refine aops_end ?_
  refine hK4 _ ?_
  refine awp_block ?_
  refine awp_loopR (fun κ σ => ∃ (j : Nat), ∃ (o : List Nat), ∃ (r : Nat), (j ≤ (digs z.natAbs).length) ∧ (o.length = (digs z.natAbs).length) ∧ (Dig o) ∧ (r < d) ∧ (val ((digs z.natAbs).drop j) = d * val (o.drop j) + r) ∧ (j) = κ ∧ σ = ⟨[(1, (nm .i64 (d))), (2, (AV.ref 2 (0))), (4, (AV.ref 3 (0))), (6, (AV.row 4)), (7, (nm .u64 (r))), (8, (AV.lit (.int .i64 ((j : Int) - 1))))], [(2, (AO.var 89 [(bp (z < 0)), (AV.sl 1 (ns .u32 (digs (z).natAbs)))])), (3, (AO.var 89 [(AV.lit (.bool false)), (AV.lit (.slice none 0 0))])), (4, (AO.row 122 1 (ns .u32 (o))))]⟩) ⟨_, _, ⟨(digs z.natAbs).length, List.replicate (digs z.natAbs).length 0, 0, (Nat.le_refl _), (by simp), (Dig.repl _), hd0, (by rw [val_drop_all (Nat.le_refl _), val_drop_all (by simp)]; simp), rfl, rfl⟩, ?wk0⟩ ?rd0
  case wk0 =>
    exact Wk.sub (And.intro (by exact rfl) (And.intro (by exact rfl) (And.intro (by exact rfl) (And.intro (by exact rfl) (And.intro (by first | rfl | exact congrArg (nm _) (by omega) | exact nm_int (by omega) | exact nm_int (by simp [IntKind.wrap, IntKind.bits, IntKind.signed]; omega)) (And.intro (by first | rfl | exact int_eq (by omega) | exact int_nm (by omega)) (trivial))))))) (And.intro (by first | rfl | exact row_ns (by simp) | exact congrArg (fun x => some (AO.blk (.stringIter _ x))) (by omega)) (And.intro (by first | rfl | exact row_ns (by simp) | exact congrArg (fun x => some (AO.blk (.stringIter _ x))) (by omega)) (And.intro (by first | rfl | exact row_ns (by simp) | exact congrArg (fun x => some (AO.blk (.stringIter _ x))) (by omega)) (trivial))))
  rintro κ _ ⟨j, o, r, hj, hl, hd, hr, hv, rfl, rfl⟩
  have hA := (digs_dig z.natAbs).getD (j - 1)
  refine awp_seq fun K5 hK5 => ?_
  refine awp_seq fun K6 hK6 => ?_
  refine awp_region rfl ?_
  refine o_move (AV.lit (.int .i64 ((j : Int) - 1))) Gd.none rfl ?_
  refine o_geq (a := ((j : Int) - 1)) (c := (((0 : Nat) : Int))) Gd.none rfl rfl ?_
  refine aops_end ?_
  refine hK6 _ ?_
  refine awp_condQ (q := (((0 : Nat) : Int)) ≤ ((j : Int) - 1)) rfl (fun h1 => ?_) (fun h1 => ?_)
  · refine awp_wk (Wk.slot (i := 8) (y := (nm .i64 (j - 1))) (AV.le_eq (by exact nm_int (by omega)))) ?_
    refine awp_skip ?_
    refine hK5 _ ?_
    refine awp_seq fun K7 hK7 => ?_
    refine awp_block ?_
    refine awp_seq fun K8 hK8 => ?_
    refine awp_region rfl ?_
    refine o_move (nm .u64 (r)) Gd.none rfl ?_
    refine n_mul (r) (1000000000) Gd.none rfl rfl (by simp only [topOf]; omega) ?_
    refine o_fieldRef 1 Gd.none Wc_tF89_1 rfl rfl ?_
    refine o_loadS (AV.sl 1 (ns .u32 (digs (z).natAbs))) Gd.none Wc_tS87 rfl rfl rfl ?_
    refine o_move (nm .i64 (j - 1)) Gd.none rfl ?_
    refine n_index (digs (z).natAbs) (j - 1) Gd.none Wc_tE87 rfl rfl (by omega) ?_
    refine n_loadI (digs (z).natAbs) (j - 1) Gd.none Wc_tS122 rfl (by omega) ?_
    refine n_conv ((digs (z).natAbs).getD (j - 1) 0) Gd.none rfl Wc_tI122 Wc_tI117 (by simp only [topOf]; omega) ?_
    refine n_add ((r) * (1000000000)) ((digs (z).natAbs).getD (j - 1) 0) Gd.none rfl rfl (by simp only [topOf]; omega) ?_
    refine o_assign (nm .u64 (((r) * (1000000000)) + ((digs (z).natAbs).getD (j - 1) 0))) Gd.none rfl ?_
    refine aops_end ?_
    refine hK8 _ ?_
    refine awp_seq fun K9 hK9 => ?_
    refine awp_region rfl ?_
    refine o_move (AV.row 4) Gd.none rfl ?_
    refine o_move (nm .i64 (j - 1)) Gd.none rfl ?_
    refine o_move (nm .u64 (((r) * (1000000000)) + ((digs (z).natAbs).getD (j - 1) 0))) Gd.none rfl ?_
    refine o_move (nm .i64 (d)) Gd.none rfl ?_
    refine n_conv (d) Gd.none rfl Wc_tI3 Wc_tI117 (by simp only [topOf]; omega) ?_
    refine n_quo (((r) * (1000000000)) + ((digs (z).natAbs).getD (j - 1) 0)) (d) Gd.none rfl rfl (by omega) (by simp only [topOf]; have := div_dig hr hA rfl; omega) ?_
    refine n_conv ((((r) * (1000000000)) + ((digs (z).natAbs).getD (j - 1) 0)) / (d)) Gd.none rfl Wc_tI117 Wc_tI122 (by simp only [topOf]; have := div_dig hr hA rfl; omega) ?_
    refine n_indexRow (o) (j - 1) Gd.none Wc_tE87 rfl rfl rfl (by omega) ?_
    refine n_storeRow (o) (j - 1) ((((r) * (1000000000)) + ((digs (z).natAbs).getD (j - 1) 0)) / (d)) [(2, (AO.var 89 [(bp (z < 0)), (AV.sl 1 (ns .u32 (digs (z).natAbs)))])), (3, (AO.var 89 [(AV.lit (.bool false)), (AV.lit (.slice none 0 0))])), (4, (AO.row 122 1 (ns .u32 ((o).set (j - 1) ((((r) * (1000000000)) + ((digs (z).natAbs).getD (j - 1) 0)) / (d))))))] Gd.none Wc_tZ122 rfl rfl rfl (by omega) rfl ?_
    refine aops_end ?_
    refine hK9 _ ?_
    refine awp_region rfl ?_
    refine o_move (nm .u64 (((r) * (1000000000)) + ((digs (z).natAbs).getD (j - 1) 0))) Gd.none rfl ?_
    refine o_move (nm .i64 (d)) Gd.none rfl ?_
    refine n_conv (d) Gd.none rfl Wc_tI3 Wc_tI117 (by simp only [topOf]; omega) ?_
    refine n_rem (((r) * (1000000000)) + ((digs (z).natAbs).getD (j - 1) 0)) (d) Gd.none rfl rfl (by omega) ?_
    refine o_assign (nm .u64 ((((r) * (1000000000)) + ((digs (z).natAbs).getD (j - 1) 0)) % (d))) Gd.none rfl ?_
    refine aops_end ?_
    refine hK7 _ ?_
    refine awp_region rfl ?_
    refine o_move (nm .i64 (j - 1)) Gd.none rfl ?_
    refine o_sub (a := (((j - 1 : Nat) : Int))) (c := (((1 : Nat) : Int))) Gd.none rfl rfl (by exact wrap64 (by omega) (by omega)) ?_
    refine o_assign (AV.lit (.int .i64 ((((j - 1 : Nat) : Int)) - (((1 : Nat) : Int))))) Gd.none rfl ?_
    refine aops_end ?_
    refine ⟨_, _, ?lt, ⟨j - 1, (o).set (j - 1) ((((r) * (1000000000)) + ((digs (z).natAbs).getD (j - 1) 0)) / (d)), (((r) * (1000000000)) + ((digs (z).natAbs).getD (j - 1) 0)) % (d), (by omega), (by simp only [List.length_set]; exact hl), (hd.set (div_dig hr hA rfl)), (Nat.mod_lt _ hd0), (div_step (by omega) hl hd0 (by rw [Nat.sub_add_cancel (by omega)]; exact hv) rfl), rfl, rfl⟩, ?wk⟩
    case lt => omega
    case wk => exact Wk.sub (And.intro (by exact rfl) (And.intro (by exact rfl) (And.intro (by exact rfl) (And.intro (by exact rfl) (And.intro (by first | rfl | exact congrArg (nm _) (by omega) | exact nm_int (by omega) | exact nm_int (by simp [IntKind.wrap, IntKind.bits, IntKind.signed]; omega)) (And.intro (by first | rfl | exact int_eq (by omega) | exact int_nm (by omega)) (trivial))))))) (And.intro (by first | rfl | exact row_ns (by simp) | exact congrArg (fun x => some (AO.blk (.stringIter _ x))) (by omega)) (And.intro (by first | rfl | exact row_ns (by simp) | exact congrArg (fun x => some (AO.blk (.stringIter _ x))) (by omega)) (And.intro (by first | rfl | exact row_ns (by simp) | exact congrArg (fun x => some (AO.blk (.stringIter _ x))) (by omega)) (trivial))))
  · have hj0 : j = 0 := by omega
    have hv0 := hv
    rw [hj0] at hv0
    have hE := div_end hr hv0
    have hq := hE.1
    have hq1 := len_div hE.1 hz (decide (z < 0))
    have hq2 := len_one
    refine awp_exit ?_
    refine hK3 _ ?_
    refine awp_seq fun K10 hK10 => ?_
    refine awp_region rfl ?_
    refine o_fieldRef 0 Gd.none Wc_tF89_0 rfl rfl ?_
    refine o_loadS (bp (z < 0)) Gd.none Wc_tS4 rfl rfl rfl ?_
    refine o_move (AV.row 4) Gd.none rfl ?_
    refine o_callG [(4, 1, (ns .u32 (o)))] [(bp (z < 0)), (AV.sl 1 (ns .u32 (o)))] _ (intW ((sg (decide (z < 0)) (val (o))))) [(2, (AO.var 89 [(bp (z < 0)), (AV.sl 1 (ns .u32 (digs (z).natAbs)))])), (3, (AO.var 89 [(AV.lit (.bool false)), (AV.lit (.slice none 0 0))]))] Gd.none Wc_tC101 rfl (And.intro ⟨_, rfl⟩ (trivial)) rfl rfl (LeL.cons (AV.le_refl _) (LeL.cons (AV.le_refl _) (LeL.nil))) (c_wTrim (decide (z < 0)) (o) (by first | assumption | exact dgn_dig _ _ | exact digs_dig _)) rfl ?_
    refine o_alloc 101 [(AV.lit (.bool false)), (AV.lit (.slice none 0 0))] Gd.none Wc_tO89 rfl rfl rfl ?_
    refine o_store [(101, (AO.var 89 [(bp ((sg (decide (z < 0)) (val (o))) < 0)), (AV.sl 1 (ns .u32 (digs ((sg (decide (z < 0)) (val (o)))).natAbs)))])), (2, (AO.var 89 [(bp (z < 0)), (AV.sl 1 (ns .u32 (digs (z).natAbs)))])), (3, (AO.var 89 [(AV.lit (.bool false)), (AV.lit (.slice none 0 0))]))] Gd.none Wc_tZ89 rfl rfl rfl rfl rfl rfl ?_
    refine aops_end ?_
    refine hK10 _ ?_
    refine awp_seq fun K11 hK11 => ?_
    refine awp_seq fun K12 hK12 => ?_
    refine awp_region rfl ?_
    refine o_fieldRef 0 Gd.none Wc_tF89_0 rfl rfl ?_
    refine o_loadS (bp (z < 0)) Gd.none Wc_tS4 rfl rfl rfl ?_
    refine o_move (bp (z < 0)) Gd.none rfl ?_
    refine o_splitP (q := z < 0) 50 rfl (fun h2 => ?_) (fun h2 => ?_)
    · refine o_move (nm .u64 (r)) (Gd.yes rfl rfl (decide_eq_true h2)) rfl ?_
      refine n_gtr (r) (0) (Gd.yes rfl rfl (decide_eq_true h2)) rfl rfl ?_
      refine o_pickT (b := decide (z < 0)) (bp ((0) < (r))) Gd.none rfl (decide_eq_true h2) rfl ?_
      refine aops_end ?_
      refine hK12 _ ?_
      refine awp_condQ (q := (0) < (r)) rfl (fun h3 => ?_) (fun h3 => ?_)
      · refine awp_seq fun K13 hK13 => ?_
        refine awp_regionD rfl ?_
        refine o_loadA [(bp ((sg (decide (z < 0)) (val (o))) < 0)), (AV.sl 1 (ns .u32 (digs ((sg (decide (z < 0)) (val (o)))).natAbs)))] Gd.none Wc_tA89 rfl rfl rfl rfl rfl ?_
        refine o_call [(nm .i64 (1))] (intW ((1 : Int))) Gd.none Wc_tC105 rfl (c_wOf ((1 : Int)) (by first | decide | omega) (by first | decide | omega)) ?_
        refine o_call [(AV.agg [(bp ((sg (decide (z < 0)) (val (o))) < 0)), (AV.sl 1 (ns .u32 (digs ((sg (decide (z < 0)) (val (o)))).natAbs)))]), (intW ((1 : Int)))] (intW (((sg (decide (z < 0)) (val (o))) - (1 : Int)))) Gd.none Wc_tC93 rfl (c_wSub ((sg (decide (z < 0)) (val (o)))) ((1 : Int)) (by first | assumption | omega | (simp only [Int.natAbs_neg]; omega)) (by first | assumption | omega | (simp only [Int.natAbs_neg]; omega))) ?_
        refine o_move (nm .i64 (d)) Gd.none rfl ?_
        refine o_move (nm .u64 (r)) Gd.none rfl ?_
        refine n_conv (r) Gd.none rfl Wc_tI117 Wc_tI3 (by simp only [topOf]; omega) ?_
        refine o_sub (a := (((d : Nat) : Int))) (c := (((r : Nat) : Int))) Gd.none rfl rfl (by exact wrap64 (by omega) (by omega)) ?_
        refine o_store [(101, (AO.var 89 [(bp ((sg (decide (z < 0)) (val (o))) < 0)), (AV.sl 1 (ns .u32 (digs ((sg (decide (z < 0)) (val (o)))).natAbs)))])), (2, (AO.var 89 [(bp (z < 0)), (AV.sl 1 (ns .u32 (digs (z).natAbs)))])), (3, (AO.var 89 [(bp (((sg (decide (z < 0)) (val (o))) - (1 : Int)) < 0)), (AV.sl 1 (ns .u32 (digs (((sg (decide (z < 0)) (val (o))) - (1 : Int))).natAbs)))]))] Gd.none Wc_tZ89 rfl rfl rfl rfl rfl rfl ?_
        refine o_assign (AV.lit (.int .i64 ((((d : Nat) : Int)) - (((r : Nat) : Int))))) Gd.none rfl ?_
        refine aops_end ⟨by kernel_rfl, ?_⟩
        refine hK13 _ ?_
        refine awp_ret ?_
        refine post_ret ⟨[(AV.agg [(bp (((sg (decide (z < 0)) (val (o))) - (1 : Int)) < 0)), (AV.sl 1 (ns .u32 (digs (((sg (decide (z < 0)) (val (o))) - (1 : Int))).natAbs)))]), (AV.lit (.int .i64 ((((d : Nat) : Int)) - (((r : Nat) : Int)))))], And.intro ⟨3, (AO.var 89 [(bp (((sg (decide (z < 0)) (val (o))) - (1 : Int)) < 0)), (AV.sl 1 (ns .u32 (digs (((sg (decide (z < 0)) (val (o))) - (1 : Int))).natAbs)))]), rfl, rfl, rfl, Or.inl ⟨Wc_tA89, AV.le_refl _⟩⟩ (And.intro (AV.le_refl _) (trivial)), rfl, ?_⟩
        have e := part3 h2 hd0 hE.1 hE.2 (by omega)
        exact tup_eq2 (congrArg (intK .u32) (e.1.trans (by simp [sg, h2]))) (int_eq e.2)
      · refine awp_skip ?_
        refine hK11 _ ?_
        refine awp_seq fun K14 hK14 => ?_
        refine awp_region rfl ?_
        refine o_loadA [(bp ((sg (decide (z < 0)) (val (o))) < 0)), (AV.sl 1 (ns .u32 (digs ((sg (decide (z < 0)) (val (o)))).natAbs)))] Gd.none Wc_tA89 rfl rfl rfl rfl rfl ?_
        refine o_move (nm .u64 (r)) Gd.none rfl ?_
        refine n_conv (r) Gd.none rfl Wc_tI117 Wc_tI3 (by simp only [topOf]; omega) ?_
        refine o_store [(101, (AO.var 89 [(bp ((sg (decide (z < 0)) (val (o))) < 0)), (AV.sl 1 (ns .u32 (digs ((sg (decide (z < 0)) (val (o)))).natAbs)))])), (2, (AO.var 89 [(bp (z < 0)), (AV.sl 1 (ns .u32 (digs (z).natAbs)))])), (3, (AO.var 89 [(bp ((sg (decide (z < 0)) (val (o))) < 0)), (AV.sl 1 (ns .u32 (digs ((sg (decide (z < 0)) (val (o)))).natAbs)))]))] Gd.none Wc_tZ89 rfl rfl rfl rfl rfl rfl ?_
        refine o_assign (nm .i64 (r)) Gd.none rfl ?_
        refine aops_end ?_
        refine hK14 _ ?_
        refine awp_ret ?_
        refine post_ret ⟨[(AV.agg [(bp ((sg (decide (z < 0)) (val (o))) < 0)), (AV.sl 1 (ns .u32 (digs ((sg (decide (z < 0)) (val (o)))).natAbs)))]), (nm .i64 (r))], And.intro ⟨3, (AO.var 89 [(bp ((sg (decide (z < 0)) (val (o))) < 0)), (AV.sl 1 (ns .u32 (digs ((sg (decide (z < 0)) (val (o)))).natAbs)))]), rfl, rfl, rfl, Or.inl ⟨Wc_tA89, AV.le_refl _⟩⟩ (And.intro (AV.le_refl _) (trivial)), rfl, ?_⟩
        have e := part2 h2 hd0 hE.1 hE.2 (by omega)
        exact tup_eq2 (congrArg (intK .u32) (e.1.trans (by simp [sg, h2]))) (int_eq (e.2.trans (by omega)))
    · refine o_skip (b := decide (z < 0)) rfl rfl (decide_eq_false h2) ?_
      refine o_skip (b := decide (z < 0)) rfl rfl (decide_eq_false h2) ?_
      refine o_pickF (b := decide (z < 0)) (AV.lit (.bool false)) Gd.none rfl (decide_eq_false h2) rfl ?_
      refine aops_end ?_
      refine hK12 _ ?_
      refine awp_condB (b := false) rfl (fun hh => absurd (hh.symm.trans rfl) (by decide)) (fun _ => ?_)
      refine awp_skip ?_
      refine hK11 _ ?_
      refine awp_seq fun K15 hK15 => ?_
      refine awp_region rfl ?_
      refine o_loadA [(bp ((sg (decide (z < 0)) (val (o))) < 0)), (AV.sl 1 (ns .u32 (digs ((sg (decide (z < 0)) (val (o)))).natAbs)))] Gd.none Wc_tA89 rfl rfl rfl rfl rfl ?_
      refine o_move (nm .u64 (r)) Gd.none rfl ?_
      refine n_conv (r) Gd.none rfl Wc_tI117 Wc_tI3 (by simp only [topOf]; omega) ?_
      refine o_store [(101, (AO.var 89 [(bp ((sg (decide (z < 0)) (val (o))) < 0)), (AV.sl 1 (ns .u32 (digs ((sg (decide (z < 0)) (val (o)))).natAbs)))])), (2, (AO.var 89 [(bp (z < 0)), (AV.sl 1 (ns .u32 (digs (z).natAbs)))])), (3, (AO.var 89 [(bp ((sg (decide (z < 0)) (val (o))) < 0)), (AV.sl 1 (ns .u32 (digs ((sg (decide (z < 0)) (val (o)))).natAbs)))]))] Gd.none Wc_tZ89 rfl rfl rfl rfl rfl rfl ?_
      refine o_assign (nm .i64 (r)) Gd.none rfl ?_
      refine aops_end ?_
      refine hK15 _ ?_
      refine awp_ret ?_
      refine post_ret ⟨[(AV.agg [(bp ((sg (decide (z < 0)) (val (o))) < 0)), (AV.sl 1 (ns .u32 (digs ((sg (decide (z < 0)) (val (o)))).natAbs)))]), (nm .i64 (r))], And.intro ⟨3, (AO.var 89 [(bp ((sg (decide (z < 0)) (val (o))) < 0)), (AV.sl 1 (ns .u32 (digs ((sg (decide (z < 0)) (val (o)))).natAbs)))]), rfl, rfl, rfl, Or.inl ⟨Wc_tA89, AV.le_refl _⟩⟩ (And.intro (AV.le_refl _) (trivial)), rfl, ?_⟩
      have e := part1 h2 hd0 hE.1 hE.2
      exact tup_eq2 (congrArg (intK .u32) (e.1.trans (by simp [sg, h2]))) (int_eq e.2)

theorem c_rDigits (z : Int) (hz : (digs z.natAbs).length ≤ 1000000000) : ECalls cx 75 [(intR (z))] (nm .i64 (ndig z.natAbs)) := by
  refine ecalls_of_awp Tryd.func75 (c := _) rfl (Nat.le_of_ble_eq_true rfl) ?_
  show awp cx 29 _ (postF cx Tryd.f75 _) ⟨[(0, (intR (z)))], []⟩
  refine awp_seq fun K0 hK0 => ?_
  refine awp_region rfl ?_
  refine o_box 2 [(bp (z < 0)), (AV.sl 1 (ns .i64 (digs (z).natAbs)))] Gd.none rfl rfl ?_
  refine o_assign (nm .i64 (0)) Gd.none rfl ?_
  refine aops_end ?_
  refine hK0 _ ?_
  refine awp_seq fun K1 hK1 => ?_
  refine awp_seq fun K2 hK2 => ?_
  refine awp_region rfl ?_
  refine o_fieldRef 1 Gd.none Wc_tF36_1 rfl rfl ?_
  refine o_loadS (AV.sl 1 (ns .i64 (digs (z).natAbs))) Gd.none Wc_tS22 rfl rfl rfl ?_
  refine n_len (digs (z).natAbs) Gd.none Wc_tU22 rfl ?_
  refine n_eql ((digs (z).natAbs).length) (0) Gd.none rfl rfl ?_
  refine aops_end ?_
  refine hK2 _ ?_
  refine awp_condQ (q := ((digs (z).natAbs).length) = (0)) rfl (fun h1 => ?_) (fun h1 => ?_)
  · refine awp_seq fun K3 hK3 => ?_
    refine awp_region rfl ?_
    refine o_assign (nm .i64 (1)) Gd.none rfl ?_
    refine aops_end ?_
    refine hK3 _ ?_
    refine awp_ret ?_
    refine post_ret ⟨[(nm .i64 (1))], And.intro (AV.le_refl _) (trivial), rfl, ?_⟩
    refine congrArg (nm .i64) ?_
    unfold ndig
    rw [if_pos (digs_len_zero.1 h1)]
  · have ht := ndig_top (n := z.natAbs) (by rcases Nat.eq_zero_or_pos z.natAbs with e | e; exact absurd (digs_len_zero.2 e) h1; exact e)
    have htl := (digs_dig z.natAbs).getD ((digs z.natAbs).length - 1)
    have ht9 := decs_len_lt (n := (digs z.natAbs).getD ((digs z.natAbs).length - 1) 0) (k := 9) htl
    refine awp_skip ?_
    refine hK1 _ ?_
    refine awp_seq fun K4 hK4 => ?_
    refine awp_region rfl ?_
    refine o_fieldRef 1 Gd.none Wc_tF36_1 rfl rfl ?_
    refine o_loadS (AV.sl 1 (ns .i64 (digs (z).natAbs))) Gd.none Wc_tS22 rfl rfl rfl ?_
    refine n_len (digs (z).natAbs) Gd.none Wc_tU22 rfl ?_
    refine n_sub ((digs (z).natAbs).length) (1) Gd.none rfl rfl (by omega) (by simp only [topOf]; omega) ?_
    refine n_mul (9) (((digs (z).natAbs).length) - (1)) Gd.none rfl rfl (by simp only [topOf]; omega) ?_
    refine o_assign (nm .i64 ((9) * (((digs (z).natAbs).length) - (1)))) Gd.none rfl ?_
    refine aops_end ?_
    refine hK4 _ ?_
    refine awp_seq fun K5 hK5 => ?_
    refine awp_seq fun K6 hK6 => ?_
    refine awp_region rfl ?_
    refine o_fieldRef 1 Gd.none Wc_tF36_1 rfl rfl ?_
    refine o_loadS (AV.sl 1 (ns .i64 (digs (z).natAbs))) Gd.none Wc_tS22 rfl rfl rfl ?_
    refine o_fieldRef 1 Gd.none Wc_tF36_1 rfl rfl ?_
    refine o_loadS (AV.sl 1 (ns .i64 (digs (z).natAbs))) Gd.none Wc_tS22 rfl rfl rfl ?_
    refine n_len (digs (z).natAbs) Gd.none Wc_tU22 rfl ?_
    refine n_sub ((digs (z).natAbs).length) (1) Gd.none rfl rfl (by omega) (by simp only [topOf]; omega) ?_
    refine n_index (digs (z).natAbs) (((digs (z).natAbs).length) - (1)) Gd.none Wc_tE22 rfl rfl (by omega) ?_
    refine n_loadI (digs (z).natAbs) (((digs (z).natAbs).length) - (1)) Gd.none Wc_tS3 rfl (by omega) ?_
    refine o_assign (nm .i64 ((digs (z).natAbs).getD (((digs (z).natAbs).length) - (1)) 0)) Gd.none rfl ?_
    refine aops_end ?_
    refine hK6 _ ?_
    refine awp_block ?_
    refine awp_loopR (fun κ σ => ∃ (p : Nat), ∃ (q : Nat), (q < 1000000000) ∧ (p + (decs q).length = 9 * ((digs z.natAbs).length - 1) + (decs ((digs z.natAbs).getD ((digs z.natAbs).length - 1) 0)).length) ∧ (q) = κ ∧ σ = ⟨[(1, (AV.ref 2 (0))), (3, (nm .i64 (p))), (4, (nm .i64 (q)))], [(2, (AO.var 36 [(bp (z < 0)), (AV.sl 1 (ns .i64 (digs (z).natAbs)))]))]⟩) ⟨_, _, ⟨9 * ((digs z.natAbs).length - 1), (digs z.natAbs).getD ((digs z.natAbs).length - 1) 0, htl, rfl, rfl, rfl⟩, ?wk0⟩ ?rd0
    case wk0 =>
      exact Wk.sub (And.intro (by exact rfl) (And.intro (by first | rfl | exact congrArg (nm _) (by omega) | exact nm_int (by omega) | exact nm_int (by simp [IntKind.wrap, IntKind.bits, IntKind.signed]; omega)) (And.intro (by first | rfl | exact congrArg (nm _) (by omega) | exact nm_int (by omega) | exact nm_int (by simp [IntKind.wrap, IntKind.bits, IntKind.signed]; omega)) (trivial)))) (And.intro (by first | rfl | exact row_ns (by simp) | exact congrArg (fun x => some (AO.blk (.stringIter _ x))) (by omega)) (trivial))
    rintro κ _ ⟨p, q, hq, hp, rfl, rfl⟩
    refine awp_seq fun K7 hK7 => ?_
    refine awp_seq fun K8 hK8 => ?_
    refine awp_region rfl ?_
    refine o_move (nm .i64 (q)) Gd.none rfl ?_
    refine n_gtr (q) (0) Gd.none rfl rfl ?_
    refine aops_end ?_
    refine hK8 _ ?_
    refine awp_condQ (q := (0) < (q)) rfl (fun h2 => ?_) (fun h2 => ?_)
    · refine awp_skip ?_
      refine hK7 _ ?_
      refine awp_seq fun K9 hK9 => ?_
      refine awp_block ?_
      refine awp_region rfl ?_
      refine o_move (nm .i64 (p)) Gd.none rfl ?_
      refine n_add (p) (1) Gd.none rfl rfl (by simp only [topOf]; omega) ?_
      refine o_assign (nm .i64 ((p) + (1))) Gd.none rfl ?_
      refine aops_end ?_
      refine hK9 _ ?_
      refine awp_region rfl ?_
      refine o_move (nm .i64 (q)) Gd.none rfl ?_
      refine n_quo (q) (10) Gd.none rfl rfl (by omega) (by simp only [topOf]; omega) ?_
      refine o_assign (nm .i64 ((q) / (10))) Gd.none rfl ?_
      refine aops_end ?_
      refine ⟨_, _, ?lt, ⟨(p) + (1), (q) / (10), (by omega), (by rw [decs_pos (by assumption)] at hp; simp only [List.length_cons] at hp; omega), rfl, rfl⟩, ?wk⟩
      case lt => omega
      case wk => exact Wk.sub (And.intro (by exact rfl) (And.intro (by first | rfl | exact congrArg (nm _) (by omega) | exact nm_int (by omega) | exact nm_int (by simp [IntKind.wrap, IntKind.bits, IntKind.signed]; omega)) (And.intro (by first | rfl | exact congrArg (nm _) (by omega) | exact nm_int (by omega) | exact nm_int (by simp [IntKind.wrap, IntKind.bits, IntKind.signed]; omega)) (trivial)))) (And.intro (by first | rfl | exact row_ns (by simp) | exact congrArg (fun x => some (AO.blk (.stringIter _ x))) (by omega)) (trivial))
    · refine awp_exit ?_
      refine hK5 _ ?_
      refine awp_seq fun K10 hK10 => ?_
      refine awp_region rfl ?_
      refine o_move (nm .i64 (p)) Gd.none rfl ?_
      refine o_assign (nm .i64 (p)) Gd.none rfl ?_
      refine aops_end ?_
      refine hK10 _ ?_
      refine awp_ret ?_
      refine post_ret ⟨[(nm .i64 (p))], And.intro (AV.le_refl _) (trivial), rfl, ?_⟩
      refine congrArg (nm .i64) ?_
      unfold ndig
      rw [if_neg (fun e => h1 (digs_len_zero.2 e)), ht, ← hp, show q = 0 by omega, decs_zero]
      rfl

end Go.Proofs.YtkngglpnejdicaaDoor
