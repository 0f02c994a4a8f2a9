import Derived.Test.YtkngglpnejdicaaDoorWa
set_option linter.unusedVariables false
set_option linter.unusedSimpArgs false
namespace Go.Proofs.YtkngglpnejdicaaDoor
open Go Go.Ab Go.Mth
theorem Wb_tO36 : tyZero cx.P 36 = some [(Go.Value.bool false), (Go.Value.slice none 0 0)] := by kernel_rfl
theorem Wb_tE22 : tyElem cx.P 22 = some (3, 1, 8) := by kernel_rfl
theorem Wb_tO3 : tyZero cx.P 3 = some [(Go.Value.int IntKind.i64 0)] := by kernel_rfl
theorem Wb_tP36 : tyPlaces cx.P 36 = some (fun i => (#[(0, 1), (1, 1)] : Array (Nat × Nat))[i]?) := by kernel_rfl
theorem Wb_tZ36 : tySize cx.P 36 = some 2 := by kernel_rfl
theorem Wb_tA36 : tyAgg cx.P 36 = some 2 := by kernel_rfl
theorem Wb_tO89 : tyZero cx.P 89 = some [(Go.Value.bool false), (Go.Value.slice none 0 0)] := by kernel_rfl
theorem Wb_tI3 : tyInt cx.P 3 = some .i64 := by kernel_rfl
theorem Wb_tI117 : tyInt cx.P 117 = some .u64 := by kernel_rfl
theorem Wb_tI122 : tyInt cx.P 122 = some .u32 := by kernel_rfl
theorem Wb_tE87 : tyElem cx.P 87 = some (122, 1, 4) := by kernel_rfl
theorem Wb_tO122 : tyZero cx.P 122 = some [(Go.Value.int IntKind.u32 0)] := by kernel_rfl
theorem Wb_tP89 : tyPlaces cx.P 89 = some (fun i => (#[(0, 1), (1, 1)] : Array (Nat × Nat))[i]?) := by kernel_rfl
theorem Wb_tZ89 : tySize cx.P 89 = some 2 := by kernel_rfl
theorem Wb_tA89 : tyAgg cx.P 89 = some 2 := by kernel_rfl
theorem Wb_tF36_1 : tyField cx.P 36 1 = some (1, 22) := by kernel_rfl
theorem Wb_tS22 : tySc cx.P 22 = true := by kernel_rfl
theorem Wb_tU22 : cx.P.underlying 22 = some (.slice 3) := by kernel_rfl
theorem Wb_tS3 : tySc cx.P 3 = true := by kernel_rfl
theorem Wb_tC77 : callable cx.P 77 = true := by kernel_rfl
theorem Wb_tZ3 : tySize cx.P 3 = some 1 := by kernel_rfl
theorem Wb_tF36_0 : tyField cx.P 36 0 = some (0, 4) := by kernel_rfl
theorem Wb_tS4 : tySc cx.P 4 = true := by kernel_rfl
theorem Wb_tB4 : cx.P.underlying 4 = some .bool := by kernel_rfl
theorem Wb_tC74 : callable cx.P 74 = true := by kernel_rfl
theorem Wb_tF89_1 : tyField cx.P 89 1 = some (1, 87) := by kernel_rfl
theorem Wb_tS87 : tySc cx.P 87 = true := by kernel_rfl
theorem Wb_tU87 : cx.P.underlying 87 = some (.slice 122) := by kernel_rfl
theorem Wb_tS122 : tySc cx.P 122 = true := by kernel_rfl
theorem Wb_tZ122 : tySize cx.P 122 = some 1 := by kernel_rfl
theorem Wb_tF89_0 : tyField cx.P 89 0 = some (0, 4) := by kernel_rfl
theorem Wb_tC101 : callable cx.P 101 = true := by kernel_rfl
theorem c_rOf (i : Int) (h0 : -4611686018427387904 ≤ i) (h1' : i ≤ 4611686018427387904) : ECalls cx 31 [(AV.lit (.int .i64 (i)))] (intR (i)) := by
  refine ecalls_of_awp Tryd.func31 (c := _) rfl (Nat.le_of_ble_eq_true rfl) ?_
  show awp cx 22 _ (postF cx Tryd.f31 _) ⟨[(0, (AV.lit (.int .i64 (i))))], []⟩
  refine awp_seq fun K0 hK0 => ?_
  refine awp_region rfl ?_
  refine o_alloc 2 [(AV.lit (.bool false)), (AV.lit (.slice none 0 0))] Gd.none Wb_tO36 rfl rfl rfl ?_
  refine aops_end ?_
  refine hK0 _ ?_
  refine awp_seq fun K1 hK1 => ?_
  refine awp_region rfl ?_
  refine o_move (AV.lit (.int .i64 (i))) Gd.none rfl ?_
  refine o_lss (a := (i)) (c := (((0 : Nat) : Int))) Gd.none rfl rfl ?_
  refine o_assign (bp ((i) < (((0 : Nat) : Int)))) Gd.none rfl ?_
  refine aops_end ?_
  refine hK1 _ ?_
  refine awp_seqJ (J := fun σ => True ∧ σ = ⟨[(0, (nm .i64 (i.natAbs))), (3, (bp (i < 0))), (2, (AV.ref 2 (0)))], [(2, (AO.var 36 [(AV.lit (.bool false)), (AV.lit (.slice none 0 0))]))]⟩) ?ja0 ?jb0
  case ja0 =>
    refine awp_seq fun K2 hK2 => ?_
    refine awp_region rfl ?_
    refine o_move (bp ((i) < (((0 : Nat) : Int)))) Gd.none rfl ?_
    refine aops_end ?_
    refine hK2 _ ?_
    refine awp_condQ (q := (i) < (((0 : Nat) : Int))) rfl (fun h1 => ?_) (fun h1 => ?_)
    · refine awp_region rfl ?_
      refine o_move (AV.lit (.int .i64 (i))) Gd.none rfl ?_
      refine o_neg (a := i) Gd.none rfl (by exact wrap64 (by omega) (by omega)) ?_
      refine o_assign (AV.lit (.int .i64 (-(i)))) Gd.none rfl ?_
      refine aops_end ?_
      exact ⟨_, ⟨trivial, rfl⟩, Wk.sub (And.intro (by first | rfl | exact congrArg (nm _) (by omega) | exact nm_int (by omega) | exact nm_int (by simp [IntKind.wrap, IntKind.bits, IntKind.signed]; omega)) (And.intro (by first | rfl | exact bp_congr (by first | omega | simp) | exact bl_bp (by first | omega | simp)) (And.intro (by exact rfl) (trivial)))) (And.intro (by first | rfl | exact row_ns (by simp) | exact congrArg (fun x => some (AO.blk (.stringIter _ x))) (by omega)) (trivial))⟩
    · refine awp_skip ?_
      exact ⟨_, ⟨trivial, rfl⟩, Wk.sub (And.intro (by first | rfl | exact congrArg (nm _) (by omega) | exact nm_int (by omega) | exact nm_int (by simp [IntKind.wrap, IntKind.bits, IntKind.signed]; omega)) (And.intro (by first | rfl | exact bp_congr (by first | omega | simp) | exact bl_bp (by first | omega | simp)) (And.intro (by exact rfl) (trivial)))) (And.intro (by first | rfl | exact row_ns (by simp) | exact congrArg (fun x => some (AO.blk (.stringIter _ x))) (by omega)) (trivial))⟩
  rintro _ ⟨-, rfl⟩
  refine awp_seq fun K3 hK3 => ?_
  refine awp_region rfl ?_
  refine o_assign (AV.lit (.slice none 0 0)) Gd.none rfl ?_
  refine aops_end ?_
  refine hK3 _ ?_
  refine awp_seq fun K4 hK4 => ?_
  refine awp_block ?_
  refine awp_loopR (fun κ σ => ∃ (x : Nat), ∃ (r : List Nat), (x ≤ 4611686018427387904) ∧ (r ++ digs x = digs i.natAbs) ∧ (x) = κ ∧ σ = ⟨[(2, (AV.ref 2 (0))), (4, (AV.row 3)), (0, (nm .i64 (x))), (3, (bp (i < 0)))], [(2, (AO.var 36 [(AV.lit (.bool false)), (AV.lit (.slice none 0 0))])), (3, (AO.row 3 1 (ns .i64 (r))))]⟩) ⟨_, _, ⟨i.natAbs, [], (by omega), rfl, rfl, rfl⟩, ?wk1⟩ ?rd1
  case wk1 =>
    exact Wk.trans (Wk.newNil (i := 4) (id := 601) (e := 3) (sz := 1) rfl rfl (by decide)) (Wk.trans (Wk.sub (σ' := ⟨[(2, (AV.ref 2 (0))), (4, (AV.row 601)), (0, (nm .i64 (i.natAbs))), (3, (bp (i < 0)))], [(2, (AO.var 36 [(AV.lit (.bool false)), (AV.lit (.slice none 0 0))])), (601, (AO.row 3 1 (ns .i64 ([]))))]⟩) (And.intro rfl (And.intro rfl (And.intro rfl (And.intro rfl (trivial))))) (And.intro rfl (And.intro rfl (trivial)))) (Wk.trans (Wk.ren (id := 601) (id' := 3) rfl) (Wk.sub (And.intro (by exact rfl) (And.intro (by first | rfl | (simp)) (And.intro (by first | rfl | exact congrArg (nm _) (by omega) | exact nm_int (by omega) | exact nm_int (by simp [IntKind.wrap, IntKind.bits, IntKind.signed]; omega)) (And.intro (by exact rfl) (trivial))))) (And.intro (by first | rfl | exact row_ns (by simp) | exact congrArg (fun x => some (AO.blk (.stringIter _ x))) (by omega)) (And.intro (by first | rfl | exact row_ns (by simp) | exact congrArg (fun x => some (AO.blk (.stringIter _ x))) (by omega)) (trivial))))))
  rintro κ _ ⟨x, r, hx, hr, rfl, rfl⟩
  have hlen := fun h => of_len hr h (by omega)
  refine awp_seq fun K5 hK5 => ?_
  refine awp_seq fun K6 hK6 => ?_
  refine awp_region rfl ?_
  refine o_move (nm .i64 (x)) Gd.none rfl ?_
  refine n_gtr (x) (0) Gd.none rfl rfl ?_
  refine aops_end ?_
  refine hK6 _ ?_
  refine awp_condQ (q := (0) < (x)) rfl (fun h2 => ?_) (fun h2 => ?_)
  · refine awp_skip ?_
    refine hK5 _ ?_
    refine awp_block ?_
    refine awp_seq fun K7 hK7 => ?_
    refine awp_region rfl ?_
    refine o_move (AV.row 3) Gd.none rfl ?_
    refine o_move (nm .i64 (x)) Gd.none rfl ?_
    refine n_rem (x) (1000000000) Gd.none rfl rfl (by omega) ?_
    refine o_buildSlice 201 (ns .i64 ([(x) % (1000000000)])) [(0, [(nm .i64 ((x) % (1000000000)))])] Gd.none Wb_tE22 rfl Wb_tO3 rfl rfl rfl rfl rfl rfl rfl ?_
    refine n_append 202 (r) ([(x) % (1000000000)]) [(201, (AO.row 3 1 (ns .i64 ([(x) % (1000000000)])))), (2, (AO.var 36 [(AV.lit (.bool false)), (AV.lit (.slice none 0 0))]))] Gd.none Wb_tE22 Wb_tO3 rfl rfl rfl rfl rfl (by have hl' := hlen (by assumption); simp only [List.length_append, List.length_cons, List.length_nil]; omega) (by decide) rfl rfl ?_
    refine o_assign (AV.row 202) Gd.none rfl ?_
    refine aops_end ?_
    refine hK7 _ ?_
    refine awp_region rfl ?_
    refine o_move (nm .i64 (x)) Gd.none rfl ?_
    refine n_quo (x) (1000000000) Gd.none rfl rfl (by omega) (by simp only [topOf]; omega) ?_
    refine o_assign (nm .i64 ((x) / (1000000000))) Gd.none rfl ?_
    refine aops_end ?_
    refine ⟨_, _, ?lt, ⟨(x) / (1000000000), (r) ++ ([(x) % (1000000000)]), (by omega), (of_step hr (by assumption)), rfl, rfl⟩, ?wk⟩
    case lt => omega
    case wk => exact Wk.trans (Wk.sub (σ' := ⟨[(2, (AV.ref 2 (0))), (4, (AV.row 202)), (0, (nm .i64 ((x) / (1000000000)))), (3, (bp (i < 0)))], [(2, (AO.var 36 [(AV.lit (.bool false)), (AV.lit (.slice none 0 0))])), (202, (AO.row 3 1 (ns .i64 ((r) ++ ([(x) % (1000000000)])))))]⟩) (And.intro rfl (And.intro rfl (And.intro rfl (And.intro rfl (trivial))))) (And.intro rfl (And.intro rfl (trivial)))) (Wk.trans (Wk.ren (id := 202) (id' := 3) rfl) (Wk.sub (And.intro (by exact rfl) (And.intro (by first | rfl | (simp)) (And.intro (by first | rfl | exact congrArg (nm _) (by omega) | exact nm_int (by omega) | exact nm_int (by simp [IntKind.wrap, IntKind.bits, IntKind.signed]; omega)) (And.intro (by exact rfl) (trivial))))) (And.intro (by first | rfl | exact row_ns (by simp) | exact congrArg (fun x => some (AO.blk (.stringIter _ x))) (by omega)) (And.intro (by first | rfl | exact row_ns (by simp) | exact congrArg (fun x => some (AO.blk (.stringIter _ x))) (by omega)) (trivial)))))
  · refine awp_exit ?_
    refine hK4 _ ?_
    refine awp_seq fun K8 hK8 => ?_
    refine awp_region rfl ?_
    refine o_move (bp (i < 0)) Gd.none rfl ?_
    refine o_move (AV.row 3) Gd.none rfl ?_
    refine o_build [(bp (i < 0)), (AV.row 3)] [(0, [(bp (i < 0))]), (1, [(AV.row 3)])] Gd.none Wb_tP36 Wb_tO36 rfl rfl rfl ?_
    refine o_store [(2, (AO.var 36 [(bp (i < 0)), (AV.row 3)])), (3, (AO.row 3 1 (ns .i64 (r))))] Gd.none Wb_tZ36 rfl rfl rfl rfl rfl rfl ?_
    refine aops_end ?_
    refine hK8 _ ?_
    refine awp_wk (σ' := ⟨[(2, (AV.ref 2 (0)))], [(2, (AO.var 36 [(bp (i < 0)), (AV.row 3)])), (3, (AO.row 3 1 (ns .i64 (r))))]⟩) (Wk.sub (And.intro rfl (trivial)) (And.intro rfl (And.intro rfl (trivial)))) ?_
    refine awp_wk (σ' := ⟨[(2, (AV.ref 2 (0)))], [(2, (AO.var 36 [(bp (i < 0)), (AV.sl 1 (ns .i64 (r)))]))]⟩) (Wk.freeze (id := 3) (e := 3) (sz := 1) (cs := (ns .i64 (r))) rfl) ?_
    refine awp_ret ?_
    refine post_ret ⟨[(AV.agg [(bp (i < 0)), (AV.sl 1 (ns .i64 (r)))])], And.intro ⟨2, (AO.var 36 [(bp (i < 0)), (AV.sl 1 (ns .i64 (r)))]), rfl, rfl, rfl, Or.inl ⟨Wb_tA36, AV.le_refl _⟩⟩ (trivial), rfl, ?_⟩
    refine (intK_eq (k := .i64) (bp_congr (by omega)) (of_end hr (by assumption))).symm

theorem c_wOf (i : Int) (h0 : -4611686018427387904 ≤ i) (h1' : i ≤ 4611686018427387904) : ECalls cx 105 [(AV.lit (.int .i64 (i)))] (intW (i)) := by
  refine ecalls_of_awp Tryd.func105 (c := _) rfl (Nat.le_of_ble_eq_true rfl) ?_
  show awp cx 25 _ (postF cx Tryd.f105 _) ⟨[(0, (AV.lit (.int .i64 (i))))], []⟩
  refine awp_seq fun K0 hK0 => ?_
  refine awp_region rfl ?_
  refine o_alloc 2 [(AV.lit (.bool false)), (AV.lit (.slice none 0 0))] Gd.none Wb_tO89 rfl rfl rfl ?_
  refine aops_end ?_
  refine hK0 _ ?_
  refine awp_seq fun K1 hK1 => ?_
  refine awp_region rfl ?_
  refine o_assign (AV.lit (.slice none 0 0)) Gd.none rfl ?_
  refine aops_end ?_
  refine hK1 _ ?_
  refine awp_seq fun K2 hK2 => ?_
  refine awp_region rfl ?_
  refine o_move (AV.lit (.int .i64 (i))) Gd.none rfl ?_
  refine o_convW (a := i) Gd.none rfl Wb_tI3 Wb_tI117 ?_
  refine o_assign (AV.lit (.int .u64 (IntKind.wrap .u64 (i)))) Gd.none rfl ?_
  refine aops_end ?_
  refine hK2 _ ?_
  refine awp_seqJ (J := fun σ => True ∧ σ = ⟨[(0, (AV.lit (.int .i64 (i)))), (4, (nm .u64 (i.natAbs))), (3, (AV.lit (.slice none 0 0))), (2, (AV.ref 2 (0)))], [(2, (AO.var 89 [(AV.lit (.bool false)), (AV.lit (.slice none 0 0))]))]⟩) ?ja0 ?jb0
  case ja0 =>
    refine awp_seq fun K3 hK3 => ?_
    refine awp_region rfl ?_
    refine o_move (AV.lit (.int .i64 (i))) Gd.none rfl ?_
    refine o_lss (a := (i)) (c := (((0 : Nat) : Int))) Gd.none rfl rfl ?_
    refine aops_end ?_
    refine hK3 _ ?_
    refine awp_condQ (q := (i) < (((0 : Nat) : Int))) rfl (fun h1 => ?_) (fun h1 => ?_)
    · refine awp_region rfl ?_
      refine o_move (AV.lit (.int .u64 (IntKind.wrap .u64 (i)))) Gd.none rfl ?_
      refine o_negW (a := IntKind.wrap .u64 (i)) Gd.none rfl ?_
      refine o_assign (AV.lit (.int .u64 (IntKind.wrap .u64 (-(IntKind.wrap .u64 (i)))))) Gd.none rfl ?_
      refine aops_end ?_
      exact ⟨_, ⟨trivial, rfl⟩, Wk.sub (And.intro (by exact rfl) (And.intro (by first | rfl | exact congrArg (nm _) (by omega) | exact nm_int (by omega) | exact nm_int (by simp [IntKind.wrap, IntKind.bits, IntKind.signed]; omega)) (And.intro (by exact rfl) (And.intro (by exact rfl) (trivial))))) (And.intro (by first | rfl | exact row_ns (by simp) | exact congrArg (fun x => some (AO.blk (.stringIter _ x))) (by omega)) (trivial))⟩
    · refine awp_skip ?_
      exact ⟨_, ⟨trivial, rfl⟩, Wk.sub (And.intro (by exact rfl) (And.intro (by first | rfl | exact congrArg (nm _) (by omega) | exact nm_int (by omega) | exact nm_int (by simp [IntKind.wrap, IntKind.bits, IntKind.signed]; omega)) (And.intro (by exact rfl) (And.intro (by exact rfl) (trivial))))) (And.intro (by first | rfl | exact row_ns (by simp) | exact congrArg (fun x => some (AO.blk (.stringIter _ x))) (by omega)) (trivial))⟩
  rintro _ ⟨-, rfl⟩
  refine awp_seq fun K4 hK4 => ?_
  refine awp_block ?_
  refine awp_loopR (fun κ σ => ∃ (x : Nat), ∃ (r : List Nat), (x ≤ 4611686018427387904) ∧ (r ++ digs x = digs i.natAbs) ∧ (x) = κ ∧ σ = ⟨[(2, (AV.ref 2 (0))), (3, (AV.row 3)), (4, (nm .u64 (x))), (0, (AV.lit (.int .i64 (i))))], [(2, (AO.var 89 [(AV.lit (.bool false)), (AV.lit (.slice none 0 0))])), (3, (AO.row 122 1 (ns .u32 (r))))]⟩) ⟨_, _, ⟨i.natAbs, [], (by omega), rfl, rfl, rfl⟩, ?wk1⟩ ?rd1
  case wk1 =>
    exact Wk.trans (Wk.newNil (i := 3) (id := 601) (e := 122) (sz := 1) rfl rfl (by decide)) (Wk.trans (Wk.sub (σ' := ⟨[(2, (AV.ref 2 (0))), (3, (AV.row 601)), (4, (nm .u64 (i.natAbs))), (0, (AV.lit (.int .i64 (i))))], [(2, (AO.var 89 [(AV.lit (.bool false)), (AV.lit (.slice none 0 0))])), (601, (AO.row 122 1 (ns .u32 ([]))))]⟩) (And.intro rfl (And.intro rfl (And.intro rfl (And.intro rfl (trivial))))) (And.intro rfl (And.intro rfl (trivial)))) (Wk.trans (Wk.ren (id := 601) (id' := 3) rfl) (Wk.sub (And.intro (by exact rfl) (And.intro (by first | rfl | (simp)) (And.intro (by first | rfl | exact congrArg (nm _) (by omega) | exact nm_int (by omega) | exact nm_int (by simp [IntKind.wrap, IntKind.bits, IntKind.signed]; omega)) (And.intro (by exact rfl) (trivial))))) (And.intro (by first | rfl | exact row_ns (by simp) | exact congrArg (fun x => some (AO.blk (.stringIter _ x))) (by omega)) (And.intro (by first | rfl | exact row_ns (by simp) | exact congrArg (fun x => some (AO.blk (.stringIter _ x))) (by omega)) (trivial))))))
  rintro κ _ ⟨x, r, hx, hr, rfl, rfl⟩
  have hlen := fun h => of_len hr h (by omega)
  refine awp_seq fun K5 hK5 => ?_
  refine awp_seq fun K6 hK6 => ?_
  refine awp_region rfl ?_
  refine o_move (nm .u64 (x)) Gd.none rfl ?_
  refine n_gtr (x) (0) Gd.none rfl rfl ?_
  refine aops_end ?_
  refine hK6 _ ?_
  refine awp_condQ (q := (0) < (x)) rfl (fun h2 => ?_) (fun h2 => ?_)
  · refine awp_skip ?_
    refine hK5 _ ?_
    refine awp_seq fun K7 hK7 => ?_
    refine awp_block ?_
    refine awp_region rfl ?_
    refine o_move (AV.row 3) Gd.none rfl ?_
    refine o_move (nm .u64 (x)) Gd.none rfl ?_
    refine n_rem (x) (1000000000) Gd.none rfl rfl (by omega) ?_
    refine n_conv ((x) % (1000000000)) Gd.none rfl Wb_tI117 Wb_tI122 (by simp only [topOf]; omega) ?_
    refine o_buildSlice 201 (ns .u32 ([(x) % (1000000000)])) [(0, [(nm .u32 ((x) % (1000000000)))])] Gd.none Wb_tE87 rfl Wb_tO122 rfl rfl rfl rfl rfl rfl rfl ?_
    refine n_append 202 (r) ([(x) % (1000000000)]) [(201, (AO.row 122 1 (ns .u32 ([(x) % (1000000000)])))), (2, (AO.var 89 [(AV.lit (.bool false)), (AV.lit (.slice none 0 0))]))] Gd.none Wb_tE87 Wb_tO122 rfl rfl rfl rfl rfl (by have hl' := hlen (by assumption); simp only [List.length_append, List.length_cons, List.length_nil]; omega) (by decide) rfl rfl ?_
    refine o_assign (AV.row 202) Gd.none rfl ?_
    refine aops_end ?_
    refine hK7 _ ?_
    refine awp_region rfl ?_
    refine o_move (nm .u64 (x)) Gd.none rfl ?_
    refine n_quo (x) (1000000000) Gd.none rfl rfl (by omega) (by simp only [topOf]; omega) ?_
    refine o_assign (nm .u64 ((x) / (1000000000))) Gd.none rfl ?_
    refine aops_end ?_
    refine ⟨_, _, ?lt, ⟨(x) / (1000000000), (r) ++ ([(x) % (1000000000)]), (by omega), (of_step hr (by assumption)), rfl, rfl⟩, ?wk⟩
    case lt => omega
    case wk => exact Wk.trans (Wk.sub (σ' := ⟨[(2, (AV.ref 2 (0))), (3, (AV.row 202)), (4, (nm .u64 ((x) / (1000000000)))), (0, (AV.lit (.int .i64 (i))))], [(2, (AO.var 89 [(AV.lit (.bool false)), (AV.lit (.slice none 0 0))])), (202, (AO.row 122 1 (ns .u32 ((r) ++ ([(x) % (1000000000)])))))]⟩) (And.intro rfl (And.intro rfl (And.intro rfl (And.intro rfl (trivial))))) (And.intro rfl (And.intro rfl (trivial)))) (Wk.trans (Wk.ren (id := 202) (id' := 3) rfl) (Wk.sub (And.intro (by exact rfl) (And.intro (by first | rfl | (simp)) (And.intro (by first | rfl | exact congrArg (nm _) (by omega) | exact nm_int (by omega) | exact nm_int (by simp [IntKind.wrap, IntKind.bits, IntKind.signed]; omega)) (And.intro (by exact rfl) (trivial))))) (And.intro (by first | rfl | exact row_ns (by simp) | exact congrArg (fun x => some (AO.blk (.stringIter _ x))) (by omega)) (And.intro (by first | rfl | exact row_ns (by simp) | exact congrArg (fun x => some (AO.blk (.stringIter _ x))) (by omega)) (trivial)))))
  · refine awp_exit ?_
    refine hK4 _ ?_
    refine awp_seq fun K8 hK8 => ?_
    refine awp_region rfl ?_
    refine o_move (AV.lit (.int .i64 (i))) Gd.none rfl ?_
    refine o_lss (a := (i)) (c := (((0 : Nat) : Int))) Gd.none rfl rfl ?_
    refine o_move (AV.row 3) Gd.none rfl ?_
    refine o_build [(bp ((i) < (((0 : Nat) : Int)))), (AV.row 3)] [(0, [(bp ((i) < (((0 : Nat) : Int))))]), (1, [(AV.row 3)])] Gd.none Wb_tP89 Wb_tO89 rfl rfl rfl ?_
    refine o_store [(2, (AO.var 89 [(bp ((i) < (((0 : Nat) : Int)))), (AV.row 3)])), (3, (AO.row 122 1 (ns .u32 (r))))] Gd.none Wb_tZ89 rfl rfl rfl rfl rfl rfl ?_
    refine aops_end ?_
    refine hK8 _ ?_
    refine awp_wk (σ' := ⟨[(2, (AV.ref 2 (0)))], [(2, (AO.var 89 [(bp ((i) < (((0 : Nat) : Int)))), (AV.row 3)])), (3, (AO.row 122 1 (ns .u32 (r))))]⟩) (Wk.sub (And.intro rfl (trivial)) (And.intro rfl (And.intro rfl (trivial)))) ?_
    refine awp_wk (σ' := ⟨[(2, (AV.ref 2 (0)))], [(2, (AO.var 89 [(bp ((i) < (((0 : Nat) : Int)))), (AV.sl 1 (ns .u32 (r)))]))]⟩) (Wk.freeze (id := 3) (e := 122) (sz := 1) (cs := (ns .u32 (r))) rfl) ?_
    refine awp_ret ?_
    refine post_ret ⟨[(AV.agg [(bp ((i) < (((0 : Nat) : Int)))), (AV.sl 1 (ns .u32 (r)))])], And.intro ⟨2, (AO.var 89 [(bp ((i) < (((0 : Nat) : Int)))), (AV.sl 1 (ns .u32 (r)))]), rfl, rfl, rfl, Or.inl ⟨Wb_tA89, AV.le_refl _⟩⟩ (trivial), rfl, ?_⟩
    refine (intK_eq (k := .u32) (bp_congr (by omega)) (of_end hr (by assumption))).symm

theorem c_rMul (x y : Int) (hx : (digs x.natAbs).length ≤ 1000000000) (hy : (digs y.natAbs).length ≤ 1000000000) : ECalls cx 30 [(intR (x)), (intR (y))] (intR (x * y)) := by
  refine ecalls_of_awp Tryd.func30 (c := _) rfl (Nat.le_of_ble_eq_true rfl) ?_
  show awp cx 72 _ (postF cx Tryd.f30 _) ⟨[(0, (intR (x))), (1, (intR (y)))], []⟩
  refine awp_seq fun K0 hK0 => ?_
  refine awp_region rfl ?_
  refine o_box 2 [(bp (x < 0)), (AV.sl 1 (ns .i64 (digs (x).natAbs)))] Gd.none rfl rfl ?_
  refine o_box 3 [(bp (y < 0)), (AV.sl 1 (ns .i64 (digs (y).natAbs)))] Gd.none rfl rfl ?_
  refine o_alloc 4 [(AV.lit (.bool false)), (AV.lit (.slice none 0 0))] Gd.none Wb_tO36 rfl rfl rfl ?_
  refine aops_end ?_
  refine hK0 _ ?_
  refine awp_seq fun K1 hK1 => ?_
  refine awp_region rfl ?_
  refine o_fieldRef 1 Gd.none Wb_tF36_1 rfl rfl ?_
  refine o_loadS (AV.sl 1 (ns .i64 (digs (x).natAbs))) Gd.none Wb_tS22 rfl rfl rfl ?_
  refine n_len (digs (x).natAbs) Gd.none Wb_tU22 rfl ?_
  refine o_fieldRef 1 Gd.none Wb_tF36_1 rfl rfl ?_
  refine o_loadS (AV.sl 1 (ns .i64 (digs (y).natAbs))) Gd.none Wb_tS22 rfl rfl rfl ?_
  refine n_len (digs (y).natAbs) Gd.none Wb_tU22 rfl ?_
  refine n_add ((digs (x).natAbs).length) ((digs (y).natAbs).length) Gd.none rfl rfl (by simp only [topOf]; omega) ?_
  refine n_add (((digs (x).natAbs).length) + ((digs (y).natAbs).length)) (1) Gd.none rfl rfl (by simp only [topOf]; omega) ?_
  refine n_make 5 ((((digs (x).natAbs).length) + ((digs (y).natAbs).length)) + (1)) Gd.none Wb_tE22 Wb_tO3 rfl rfl (by omega) rfl rfl ?_
  refine o_assign (AV.row 5) Gd.none rfl ?_
  refine aops_end ?_
  refine hK1 _ ?_
  refine awp_seq fun K2 hK2 => ?_
  refine awp_seq fun K3 hK3 => ?_
  refine awp_region rfl ?_
  refine o_assign (nm .i64 (0)) Gd.none rfl ?_
  refine aops_end ?_
  refine hK3 _ ?_
  refine awp_block ?_
  refine awp_loopR (fun κ σ => ∃ (i : Nat), ∃ (o : List Nat), (o.length = (digs x.natAbs).length + (digs y.natAbs).length + 1) ∧ (Dig o) ∧ (i ≤ (digs x.natAbs).length) ∧ (val o = val ((digs x.natAbs).take i) * y.natAbs) ∧ ((digs x.natAbs).length - i) = κ ∧ σ = ⟨[(2, (AV.ref 2 (0))), (3, (AV.ref 3 (0))), (4, (AV.ref 4 (0))), (5, (AV.row 5)), (6, (nm .i64 (i)))], [(2, (AO.var 36 [(bp (x < 0)), (AV.sl 1 (ns .i64 (digs (x).natAbs)))])), (3, (AO.var 36 [(bp (y < 0)), (AV.sl 1 (ns .i64 (digs (y).natAbs)))])), (4, (AO.var 36 [(AV.lit (.bool false)), (AV.lit (.slice none 0 0))])), (5, (AO.row 3 1 (ns .i64 (o))))]⟩) ⟨_, _, ⟨0, List.replicate ((digs x.natAbs).length + (digs y.natAbs).length + 1) 0, (by simp), (Dig.repl _), (by omega), (by rw [val_repl]; simp [val]), rfl, rfl⟩, ?wk0⟩ ?rd0
  case wk0 =>
    exact Wk.sub (And.intro (by exact rfl) (And.intro (by exact rfl) (And.intro (by exact rfl) (And.intro (by exact rfl) (And.intro (by first | rfl | exact congrArg (nm _) (by omega) | exact nm_int (by omega) | exact nm_int (by simp [IntKind.wrap, IntKind.bits, IntKind.signed]; omega)) (trivial)))))) (And.intro (by first | rfl | exact row_ns (by simp) | exact congrArg (fun x => some (AO.blk (.stringIter _ x))) (by omega)) (And.intro (by first | rfl | exact row_ns (by simp) | exact congrArg (fun x => some (AO.blk (.stringIter _ x))) (by omega)) (And.intro (by first | rfl | exact row_ns (by simp) | exact congrArg (fun x => some (AO.blk (.stringIter _ x))) (by omega)) (And.intro (by first | rfl | exact row_ns (by simp) | exact congrArg (fun x => some (AO.blk (.stringIter _ x))) (by omega)) (trivial)))))
  rintro κ _ ⟨i, o, hl, hd, hi, hv, rfl, rfl⟩
  refine awp_seq fun K4 hK4 => ?_
  refine awp_seq fun K5 hK5 => ?_
  refine awp_region rfl ?_
  refine o_move (nm .i64 (i)) Gd.none rfl ?_
  refine o_fieldRef 1 Gd.none Wb_tF36_1 rfl rfl ?_
  refine o_loadS (AV.sl 1 (ns .i64 (digs (x).natAbs))) Gd.none Wb_tS22 rfl rfl rfl ?_
  refine n_len (digs (x).natAbs) Gd.none Wb_tU22 rfl ?_
  refine n_lss (i) ((digs (x).natAbs).length) Gd.none rfl rfl ?_
  refine aops_end ?_
  refine hK5 _ ?_
  refine awp_condQ (q := (i) < ((digs (x).natAbs).length)) rfl (fun h1 => ?_) (fun h1 => ?_)
  · refine awp_skip ?_
    refine hK4 _ ?_
    refine awp_seq fun K6 hK6 => ?_
    refine awp_block ?_
    refine awp_seq fun K7 hK7 => ?_
    refine awp_region rfl ?_
    refine o_assign (nm .i64 (0)) Gd.none rfl ?_
    refine aops_end ?_
    refine hK7 _ ?_
    refine awp_seq fun K8 hK8 => ?_
    refine awp_region rfl ?_
    refine o_assign (nm .i64 (0)) Gd.none rfl ?_
    refine aops_end ?_
    refine hK8 _ ?_
    refine awp_block ?_
    refine awp_loopR (fun κ σ => ∃ (k : Nat), ∃ (c : Nat), ∃ (o : List Nat), (o.length = (digs x.natAbs).length + (digs y.natAbs).length + 1) ∧ (Dig o) ∧ (k ≤ (digs y.natAbs).length + 1) ∧ (c < 1000000000) ∧ (val o + 1000000000 ^ (i + k) * c = val ((digs x.natAbs).take i) * y.natAbs + 1000000000 ^ i * ((digs x.natAbs).getD i 0 * val ((digs y.natAbs).take k))) ∧ ((digs y.natAbs).length + 2 - k) = κ ∧ σ = ⟨[(2, (AV.ref 2 (0))), (3, (AV.ref 3 (0))), (4, (AV.ref 4 (0))), (5, (AV.row 5)), (6, (nm .i64 (i))), (7, (nm .i64 (c))), (8, (nm .i64 (k)))], [(2, (AO.var 36 [(bp (x < 0)), (AV.sl 1 (ns .i64 (digs (x).natAbs)))])), (3, (AO.var 36 [(bp (y < 0)), (AV.sl 1 (ns .i64 (digs (y).natAbs)))])), (4, (AO.var 36 [(AV.lit (.bool false)), (AV.lit (.slice none 0 0))])), (5, (AO.row 3 1 (ns .i64 (o))))]⟩) ⟨_, _, ⟨0, 0, _, hl, hd, (by omega), (by omega), (by simp only [Nat.mul_zero, Nat.add_zero, hv, List.take_zero, val]), rfl, rfl⟩, ?wk1⟩ ?rd1
    case wk1 =>
      exact Wk.sub (And.intro (by exact rfl) (And.intro (by exact rfl) (And.intro (by exact rfl) (And.intro (by exact rfl) (And.intro (by exact rfl) (And.intro (by first | rfl | exact congrArg (nm _) (by omega) | exact nm_int (by omega) | exact nm_int (by simp [IntKind.wrap, IntKind.bits, IntKind.signed]; omega)) (And.intro (by first | rfl | exact congrArg (nm _) (by omega) | exact nm_int (by omega) | exact nm_int (by simp [IntKind.wrap, IntKind.bits, IntKind.signed]; omega)) (trivial)))))))) (And.intro (by first | rfl | exact row_ns (by simp) | exact congrArg (fun x => some (AO.blk (.stringIter _ x))) (by omega)) (And.intro (by first | rfl | exact row_ns (by simp) | exact congrArg (fun x => some (AO.blk (.stringIter _ x))) (by omega)) (And.intro (by first | rfl | exact row_ns (by simp) | exact congrArg (fun x => some (AO.blk (.stringIter _ x))) (by omega)) (And.intro (by first | rfl | exact row_ns (by simp) | exact congrArg (fun x => some (AO.blk (.stringIter _ x))) (by omega)) (trivial)))))
    rintro κ _ ⟨k, c, o, hl2, hd2, hk, hc, hv2, rfl, rfl⟩
    have hA := (digs_dig x.natAbs).mulb (digs_dig y.natAbs) i k
    have hO := hd2.getD (i + k)
    have hkc := mul_k hv2
    refine awp_seq fun K9 hK9 => ?_
    refine awp_seq fun K10 hK10 => ?_
    refine awp_region rfl ?_
    refine o_move (nm .i64 (k)) Gd.none rfl ?_
    refine o_fieldRef 1 Gd.none Wb_tF36_1 rfl rfl ?_
    refine o_loadS (AV.sl 1 (ns .i64 (digs (y).natAbs))) Gd.none Wb_tS22 rfl rfl rfl ?_
    refine n_len (digs (y).natAbs) Gd.none Wb_tU22 rfl ?_
    refine n_lss (k) ((digs (y).natAbs).length) Gd.none rfl rfl ?_
    refine o_move (bp ((k) < ((digs (y).natAbs).length))) Gd.none rfl ?_
    refine o_splitP (q := (k) < ((digs (y).natAbs).length)) 31 rfl (fun h2 => ?_) (fun h2 => ?_)
    · refine o_skip (b := decide ((k) < ((digs (y).natAbs).length))) rfl rfl (decide_eq_true h2) ?_
      refine o_skip (b := decide ((k) < ((digs (y).natAbs).length))) rfl rfl (decide_eq_true h2) ?_
      refine o_pickT (b := decide ((k) < ((digs (y).natAbs).length))) (AV.lit (.bool true)) Gd.none rfl (decide_eq_true h2) rfl ?_
      refine aops_end ?_
      refine hK10 _ ?_
      refine awp_condB (b := true) rfl (fun _ => ?_) (fun hh => absurd (hh.symm.trans rfl) (by decide))
      refine awp_skip ?_
      refine hK9 _ ?_
      refine awp_seq fun K11 hK11 => ?_
      refine awp_block ?_
      refine awp_seq fun K12 hK12 => ?_
      refine awp_regionD rfl ?_
      refine o_move (AV.row 5) Gd.none rfl ?_
      refine o_move (nm .i64 (i)) Gd.none rfl ?_
      refine o_move (nm .i64 (k)) Gd.none rfl ?_
      refine n_add (i) (k) Gd.none rfl rfl (by simp only [topOf]; omega) ?_
      refine n_indexRow (o) ((i) + (k)) Gd.none Wb_tE22 rfl rfl rfl (by first | omega | (have := hkc (by assumption); omega)) ?_
      refine n_loadRow (o) ((i) + (k)) Gd.none Wb_tS3 rfl rfl (by first | omega | (have := hkc (by assumption); omega)) ?_
      refine o_fieldRef 1 Gd.none Wb_tF36_1 rfl rfl ?_
      refine o_loadS (AV.sl 1 (ns .i64 (digs (x).natAbs))) Gd.none Wb_tS22 rfl rfl rfl ?_
      refine o_move (nm .i64 (i)) Gd.none rfl ?_
      refine n_index (digs (x).natAbs) (i) Gd.none Wb_tE22 rfl rfl (by omega) ?_
      refine n_loadI (digs (x).natAbs) (i) Gd.none Wb_tS3 rfl (by omega) ?_
      refine o_fieldRef 1 Gd.none Wb_tF36_1 rfl rfl ?_
      refine o_loadS (AV.sl 1 (ns .i64 (digs (y).natAbs))) Gd.none Wb_tS22 rfl rfl rfl ?_
      refine o_move (nm .i64 (k)) Gd.none rfl ?_
      refine o_call [(AV.sl 1 (ns .i64 (digs (y).natAbs))), (nm .i64 (k))] (nm .i64 ((digs (y).natAbs).getD (k) 0)) Gd.none Wb_tC77 rfl (c_rPart (digs (y).natAbs) (k)) ?_
      refine n_mul ((digs (x).natAbs).getD (i) 0) ((digs (y).natAbs).getD (k) 0) Gd.none rfl rfl (by simp only [topOf]; omega) ?_
      refine n_add ((o).getD ((i) + (k)) 0) (((digs (x).natAbs).getD (i) 0) * ((digs (y).natAbs).getD (k) 0)) Gd.none rfl rfl (by simp only [topOf]; omega) ?_
      refine o_move (nm .i64 (c)) Gd.none rfl ?_
      refine n_add (((o).getD ((i) + (k)) 0) + (((digs (x).natAbs).getD (i) 0) * ((digs (y).natAbs).getD (k) 0))) (c) Gd.none rfl rfl (by simp only [topOf]; omega) ?_
      refine o_assign (nm .i64 ((((o).getD ((i) + (k)) 0) + (((digs (x).natAbs).getD (i) 0) * ((digs (y).natAbs).getD (k) 0))) + (c))) Gd.none rfl ?_
      refine aops_end ⟨by kernel_rfl, ?_⟩
      refine hK12 _ ?_
      refine awp_seq fun K13 hK13 => ?_
      refine awp_region rfl ?_
      refine o_move (AV.row 5) Gd.none rfl ?_
      refine o_move (nm .i64 (i)) Gd.none rfl ?_
      refine o_move (nm .i64 (k)) Gd.none rfl ?_
      refine n_add (i) (k) Gd.none rfl rfl (by simp only [topOf]; omega) ?_
      refine o_move (nm .i64 ((((o).getD ((i) + (k)) 0) + (((digs (x).natAbs).getD (i) 0) * ((digs (y).natAbs).getD (k) 0))) + (c))) Gd.none rfl ?_
      refine n_rem ((((o).getD ((i) + (k)) 0) + (((digs (x).natAbs).getD (i) 0) * ((digs (y).natAbs).getD (k) 0))) + (c)) (1000000000) Gd.none rfl rfl (by omega) ?_
      refine n_indexRow (o) ((i) + (k)) Gd.none Wb_tE22 rfl rfl rfl (by first | omega | (have := hkc (by assumption); omega)) ?_
      refine n_storeRow (o) ((i) + (k)) (((((o).getD ((i) + (k)) 0) + (((digs (x).natAbs).getD (i) 0) * ((digs (y).natAbs).getD (k) 0))) + (c)) % (1000000000)) [(2, (AO.var 36 [(bp (x < 0)), (AV.sl 1 (ns .i64 (digs (x).natAbs)))])), (3, (AO.var 36 [(bp (y < 0)), (AV.sl 1 (ns .i64 (digs (y).natAbs)))])), (4, (AO.var 36 [(AV.lit (.bool false)), (AV.lit (.slice none 0 0))])), (5, (AO.row 3 1 (ns .i64 ((o).set ((i) + (k)) (((((o).getD ((i) + (k)) 0) + (((digs (x).natAbs).getD (i) 0) * ((digs (y).natAbs).getD (k) 0))) + (c)) % (1000000000))))))] Gd.none Wb_tZ3 rfl rfl rfl (by first | omega | (have := hkc (by assumption); omega)) rfl ?_
      refine aops_end ?_
      refine hK13 _ ?_
      refine awp_region rfl ?_
      refine o_move (nm .i64 ((((o).getD ((i) + (k)) 0) + (((digs (x).natAbs).getD (i) 0) * ((digs (y).natAbs).getD (k) 0))) + (c))) Gd.none rfl ?_
      refine n_quo ((((o).getD ((i) + (k)) 0) + (((digs (x).natAbs).getD (i) 0) * ((digs (y).natAbs).getD (k) 0))) + (c)) (1000000000) Gd.none rfl rfl (by omega) (by simp only [topOf]; omega) ?_
      refine o_assign (nm .i64 (((((o).getD ((i) + (k)) 0) + (((digs (x).natAbs).getD (i) 0) * ((digs (y).natAbs).getD (k) 0))) + (c)) / (1000000000))) Gd.none rfl ?_
      refine aops_end ?_
      refine hK11 _ ?_
      refine awp_region rfl ?_
      refine o_move (nm .i64 (k)) Gd.none rfl ?_
      refine n_add (k) (1) Gd.none rfl rfl (by simp only [topOf]; omega) ?_
      refine o_assign (nm .i64 ((k) + (1))) Gd.none rfl ?_
      refine aops_end ?_
      refine ⟨_, _, ?lt, ⟨k + 1, ((((o).getD ((i) + (k)) 0) + (((digs (x).natAbs).getD (i) 0) * ((digs (y).natAbs).getD (k) 0))) + (c)) / (1000000000), (o).set ((i) + (k)) (((((o).getD ((i) + (k)) 0) + (((digs (x).natAbs).getD (i) 0) * ((digs (y).natAbs).getD (k) 0))) + (c)) % (1000000000)), (by simp only [List.length_set]; exact hl2), (hd2.set (Nat.mod_lt _ (by decide))), (by omega), (by omega), (mul_step (by omega) hv2 rfl), rfl, rfl⟩, ?wk⟩
      case lt => omega
      case wk => exact Wk.sub (And.intro (by exact rfl) (And.intro (by exact rfl) (And.intro (by exact rfl) (And.intro (by exact rfl) (And.intro (by exact rfl) (And.intro (by first | rfl | exact congrArg (nm _) (by omega) | exact nm_int (by omega) | exact nm_int (by simp [IntKind.wrap, IntKind.bits, IntKind.signed]; omega)) (And.intro (by first | rfl | exact congrArg (nm _) (by omega) | exact nm_int (by omega) | exact nm_int (by simp [IntKind.wrap, IntKind.bits, IntKind.signed]; omega)) (trivial)))))))) (And.intro (by first | rfl | exact row_ns (by simp) | exact congrArg (fun x => some (AO.blk (.stringIter _ x))) (by omega)) (And.intro (by first | rfl | exact row_ns (by simp) | exact congrArg (fun x => some (AO.blk (.stringIter _ x))) (by omega)) (And.intro (by first | rfl | exact row_ns (by simp) | exact congrArg (fun x => some (AO.blk (.stringIter _ x))) (by omega)) (And.intro (by first | rfl | exact row_ns (by simp) | exact congrArg (fun x => some (AO.blk (.stringIter _ x))) (by omega)) (trivial)))))
    · refine o_move (nm .i64 (c)) (Gd.yes rfl rfl (decide_eq_false h2)) rfl ?_
      refine n_gtr (c) (0) (Gd.yes rfl rfl (decide_eq_false h2)) rfl rfl ?_
      refine o_pickF (b := decide ((k) < ((digs (y).natAbs).length))) (bp ((0) < (c))) Gd.none rfl (decide_eq_false h2) rfl ?_
      refine aops_end ?_
      refine hK10 _ ?_
      refine awp_condQ (q := (0) < (c)) rfl (fun h3 => ?_) (fun h3 => ?_)
      · refine awp_skip ?_
        refine hK9 _ ?_
        refine awp_seq fun K14 hK14 => ?_
        refine awp_block ?_
        refine awp_seq fun K15 hK15 => ?_
        refine awp_regionD rfl ?_
        refine o_move (AV.row 5) Gd.none rfl ?_
        refine o_move (nm .i64 (i)) Gd.none rfl ?_
        refine o_move (nm .i64 (k)) Gd.none rfl ?_
        refine n_add (i) (k) Gd.none rfl rfl (by simp only [topOf]; omega) ?_
        refine n_indexRow (o) ((i) + (k)) Gd.none Wb_tE22 rfl rfl rfl (by first | omega | (have := hkc (by assumption); omega)) ?_
        refine n_loadRow (o) ((i) + (k)) Gd.none Wb_tS3 rfl rfl (by first | omega | (have := hkc (by assumption); omega)) ?_
        refine o_fieldRef 1 Gd.none Wb_tF36_1 rfl rfl ?_
        refine o_loadS (AV.sl 1 (ns .i64 (digs (x).natAbs))) Gd.none Wb_tS22 rfl rfl rfl ?_
        refine o_move (nm .i64 (i)) Gd.none rfl ?_
        refine n_index (digs (x).natAbs) (i) Gd.none Wb_tE22 rfl rfl (by omega) ?_
        refine n_loadI (digs (x).natAbs) (i) Gd.none Wb_tS3 rfl (by omega) ?_
        refine o_fieldRef 1 Gd.none Wb_tF36_1 rfl rfl ?_
        refine o_loadS (AV.sl 1 (ns .i64 (digs (y).natAbs))) Gd.none Wb_tS22 rfl rfl rfl ?_
        refine o_move (nm .i64 (k)) Gd.none rfl ?_
        refine o_call [(AV.sl 1 (ns .i64 (digs (y).natAbs))), (nm .i64 (k))] (nm .i64 ((digs (y).natAbs).getD (k) 0)) Gd.none Wb_tC77 rfl (c_rPart (digs (y).natAbs) (k)) ?_
        refine n_mul ((digs (x).natAbs).getD (i) 0) ((digs (y).natAbs).getD (k) 0) Gd.none rfl rfl (by simp only [topOf]; omega) ?_
        refine n_add ((o).getD ((i) + (k)) 0) (((digs (x).natAbs).getD (i) 0) * ((digs (y).natAbs).getD (k) 0)) Gd.none rfl rfl (by simp only [topOf]; omega) ?_
        refine o_move (nm .i64 (c)) Gd.none rfl ?_
        refine n_add (((o).getD ((i) + (k)) 0) + (((digs (x).natAbs).getD (i) 0) * ((digs (y).natAbs).getD (k) 0))) (c) Gd.none rfl rfl (by simp only [topOf]; omega) ?_
        refine o_assign (nm .i64 ((((o).getD ((i) + (k)) 0) + (((digs (x).natAbs).getD (i) 0) * ((digs (y).natAbs).getD (k) 0))) + (c))) Gd.none rfl ?_
        refine aops_end ⟨by kernel_rfl, ?_⟩
        refine hK15 _ ?_
        refine awp_seq fun K16 hK16 => ?_
        refine awp_region rfl ?_
        refine o_move (AV.row 5) Gd.none rfl ?_
        refine o_move (nm .i64 (i)) Gd.none rfl ?_
        refine o_move (nm .i64 (k)) Gd.none rfl ?_
        refine n_add (i) (k) Gd.none rfl rfl (by simp only [topOf]; omega) ?_
        refine o_move (nm .i64 ((((o).getD ((i) + (k)) 0) + (((digs (x).natAbs).getD (i) 0) * ((digs (y).natAbs).getD (k) 0))) + (c))) Gd.none rfl ?_
        refine n_rem ((((o).getD ((i) + (k)) 0) + (((digs (x).natAbs).getD (i) 0) * ((digs (y).natAbs).getD (k) 0))) + (c)) (1000000000) Gd.none rfl rfl (by omega) ?_
        refine n_indexRow (o) ((i) + (k)) Gd.none Wb_tE22 rfl rfl rfl (by first | omega | (have := hkc (by assumption); omega)) ?_
        refine n_storeRow (o) ((i) + (k)) (((((o).getD ((i) + (k)) 0) + (((digs (x).natAbs).getD (i) 0) * ((digs (y).natAbs).getD (k) 0))) + (c)) % (1000000000)) [(2, (AO.var 36 [(bp (x < 0)), (AV.sl 1 (ns .i64 (digs (x).natAbs)))])), (3, (AO.var 36 [(bp (y < 0)), (AV.sl 1 (ns .i64 (digs (y).natAbs)))])), (4, (AO.var 36 [(AV.lit (.bool false)), (AV.lit (.slice none 0 0))])), (5, (AO.row 3 1 (ns .i64 ((o).set ((i) + (k)) (((((o).getD ((i) + (k)) 0) + (((digs (x).natAbs).getD (i) 0) * ((digs (y).natAbs).getD (k) 0))) + (c)) % (1000000000))))))] Gd.none Wb_tZ3 rfl rfl rfl (by first | omega | (have := hkc (by assumption); omega)) rfl ?_
        refine aops_end ?_
        refine hK16 _ ?_
        refine awp_region rfl ?_
        refine o_move (nm .i64 ((((o).getD ((i) + (k)) 0) + (((digs (x).natAbs).getD (i) 0) * ((digs (y).natAbs).getD (k) 0))) + (c))) Gd.none rfl ?_
        refine n_quo ((((o).getD ((i) + (k)) 0) + (((digs (x).natAbs).getD (i) 0) * ((digs (y).natAbs).getD (k) 0))) + (c)) (1000000000) Gd.none rfl rfl (by omega) (by simp only [topOf]; omega) ?_
        refine o_assign (nm .i64 (((((o).getD ((i) + (k)) 0) + (((digs (x).natAbs).getD (i) 0) * ((digs (y).natAbs).getD (k) 0))) + (c)) / (1000000000))) Gd.none rfl ?_
        refine aops_end ?_
        refine hK14 _ ?_
        refine awp_region rfl ?_
        refine o_move (nm .i64 (k)) Gd.none rfl ?_
        refine n_add (k) (1) Gd.none rfl rfl (by simp only [topOf]; omega) ?_
        refine o_assign (nm .i64 ((k) + (1))) Gd.none rfl ?_
        refine aops_end ?_
        refine ⟨_, _, ?lt, ⟨k + 1, ((((o).getD ((i) + (k)) 0) + (((digs (x).natAbs).getD (i) 0) * ((digs (y).natAbs).getD (k) 0))) + (c)) / (1000000000), (o).set ((i) + (k)) (((((o).getD ((i) + (k)) 0) + (((digs (x).natAbs).getD (i) 0) * ((digs (y).natAbs).getD (k) 0))) + (c)) % (1000000000)), (by simp only [List.length_set]; exact hl2), (hd2.set (Nat.mod_lt _ (by decide))), (by have := hkc (by assumption); omega), (by omega), (mul_step (by have := hkc (by assumption); omega) hv2 rfl), rfl, rfl⟩, ?wk⟩
        case lt => omega
        case wk => exact Wk.sub (And.intro (by exact rfl) (And.intro (by exact rfl) (And.intro (by exact rfl) (And.intro (by exact rfl) (And.intro (by exact rfl) (And.intro (by first | rfl | exact congrArg (nm _) (by omega) | exact nm_int (by omega) | exact nm_int (by simp [IntKind.wrap, IntKind.bits, IntKind.signed]; omega)) (And.intro (by first | rfl | exact congrArg (nm _) (by omega) | exact nm_int (by omega) | exact nm_int (by simp [IntKind.wrap, IntKind.bits, IntKind.signed]; omega)) (trivial)))))))) (And.intro (by first | rfl | exact row_ns (by simp) | exact congrArg (fun x => some (AO.blk (.stringIter _ x))) (by omega)) (And.intro (by first | rfl | exact row_ns (by simp) | exact congrArg (fun x => some (AO.blk (.stringIter _ x))) (by omega)) (And.intro (by first | rfl | exact row_ns (by simp) | exact congrArg (fun x => some (AO.blk (.stringIter _ x))) (by omega)) (And.intro (by first | rfl | exact row_ns (by simp) | exact congrArg (fun x => some (AO.blk (.stringIter _ x))) (by omega)) (trivial)))))
      · refine awp_exit ?_
        refine hK6 _ ?_
        refine awp_region rfl ?_
        refine o_move (nm .i64 (i)) Gd.none rfl ?_
        refine n_add (i) (1) Gd.none rfl rfl (by simp only [topOf]; omega) ?_
        refine o_assign (nm .i64 ((i) + (1))) Gd.none rfl ?_
        refine aops_end ?_
        refine ⟨_, _, ?lt, ⟨i + 1, o, hl2, hd2, (by omega), (mul_end (k := k) (by omega) (by rw [show c = 0 by omega] at hv2; exact hv2)), rfl, rfl⟩, ?wk⟩
        case lt => omega
        case wk => exact Wk.sub (And.intro (by exact rfl) (And.intro (by exact rfl) (And.intro (by exact rfl) (And.intro (by exact rfl) (And.intro (by first | rfl | exact congrArg (nm _) (by omega) | exact nm_int (by omega) | exact nm_int (by simp [IntKind.wrap, IntKind.bits, IntKind.signed]; omega)) (trivial)))))) (And.intro (by first | rfl | exact row_ns (by simp) | exact congrArg (fun x => some (AO.blk (.stringIter _ x))) (by omega)) (And.intro (by first | rfl | exact row_ns (by simp) | exact congrArg (fun x => some (AO.blk (.stringIter _ x))) (by omega)) (And.intro (by first | rfl | exact row_ns (by simp) | exact congrArg (fun x => some (AO.blk (.stringIter _ x))) (by omega)) (And.intro (by first | rfl | exact row_ns (by simp) | exact congrArg (fun x => some (AO.blk (.stringIter _ x))) (by omega)) (trivial)))))
  · refine awp_exit ?_
    refine hK2 _ ?_
    refine awp_seq fun K17 hK17 => ?_
    refine awp_region rfl ?_
    refine o_fieldRef 0 Gd.none Wb_tF36_0 rfl rfl ?_
    refine o_loadS (bp (x < 0)) Gd.none Wb_tS4 rfl rfl rfl ?_
    refine o_fieldRef 0 Gd.none Wb_tF36_0 rfl rfl ?_
    refine o_loadS (bp (y < 0)) Gd.none Wb_tS4 rfl rfl rfl ?_
    refine o_neqB (a := (decide (x < 0))) (c := (decide (y < 0))) Gd.none rfl rfl Wb_tB4 ?_
    refine o_move (AV.row 5) Gd.none rfl ?_
    refine o_callG [(5, 1, (ns .i64 (o)))] [(bp ((decide (x < 0)) ≠ (decide (y < 0)))), (AV.sl 1 (ns .i64 (o)))] _ (intR ((sg (decide ((decide (x < 0)) ≠ (decide (y < 0)))) (val (o))))) [(2, (AO.var 36 [(bp (x < 0)), (AV.sl 1 (ns .i64 (digs (x).natAbs)))])), (3, (AO.var 36 [(bp (y < 0)), (AV.sl 1 (ns .i64 (digs (y).natAbs)))])), (4, (AO.var 36 [(AV.lit (.bool false)), (AV.lit (.slice none 0 0))]))] Gd.none Wb_tC74 rfl (And.intro ⟨_, rfl⟩ (trivial)) rfl rfl (LeL.cons (AV.le_refl _) (LeL.cons (AV.le_refl _) (LeL.nil))) (c_rTrim (decide ((decide (x < 0)) ≠ (decide (y < 0)))) (o) (by first | assumption | exact dgn_dig _ _ | exact digs_dig _)) rfl ?_
    refine o_store [(2, (AO.var 36 [(bp (x < 0)), (AV.sl 1 (ns .i64 (digs (x).natAbs)))])), (3, (AO.var 36 [(bp (y < 0)), (AV.sl 1 (ns .i64 (digs (y).natAbs)))])), (4, (AO.var 36 [(bp ((sg (decide ((decide (x < 0)) ≠ (decide (y < 0)))) (val (o))) < 0)), (AV.sl 1 (ns .i64 (digs ((sg (decide ((decide (x < 0)) ≠ (decide (y < 0)))) (val (o)))).natAbs)))]))] Gd.none Wb_tZ36 rfl rfl rfl rfl rfl rfl ?_
    refine aops_end ?_
    refine hK17 _ ?_
    refine awp_ret ?_
    refine post_ret ⟨[(AV.agg [(bp ((sg (decide ((decide (x < 0)) ≠ (decide (y < 0)))) (val (o))) < 0)), (AV.sl 1 (ns .i64 (digs ((sg (decide ((decide (x < 0)) ≠ (decide (y < 0)))) (val (o)))).natAbs)))])], And.intro ⟨4, (AO.var 36 [(bp ((sg (decide ((decide (x < 0)) ≠ (decide (y < 0)))) (val (o))) < 0)), (AV.sl 1 (ns .i64 (digs ((sg (decide ((decide (x < 0)) ≠ (decide (y < 0)))) (val (o)))).natAbs)))]), rfl, rfl, rfl, Or.inl ⟨Wb_tA36, AV.le_refl _⟩⟩ (trivial), rfl, ?_⟩
    refine congrArg (intK .i64) ?_
    rw [hv, val_take_all (by omega), val_digs]
    exact sg_mul x y

theorem c_wMul (x y : Int) (hx : (digs x.natAbs).length ≤ 1000000000) (hy : (digs y.natAbs).length ≤ 1000000000) : ECalls cx 91 [(intW (x)), (intW (y))] (intW (x * y)) := by
  refine ecalls_of_awp Tryd.func91 (c := _) rfl (Nat.le_of_ble_eq_true rfl) ?_
  show awp cx 97 _ (postF cx Tryd.f91 _) ⟨[(0, (intW (x))), (1, (intW (y)))], []⟩
  refine awp_seq fun K0 hK0 => ?_
  refine awp_region rfl ?_
  refine o_box 2 [(bp (x < 0)), (AV.sl 1 (ns .u32 (digs (x).natAbs)))] Gd.none rfl rfl ?_
  refine o_box 3 [(bp (y < 0)), (AV.sl 1 (ns .u32 (digs (y).natAbs)))] Gd.none rfl rfl ?_
  refine o_alloc 4 [(AV.lit (.bool false)), (AV.lit (.slice none 0 0))] Gd.none Wb_tO89 rfl rfl rfl ?_
  refine aops_end ?_
  refine hK0 _ ?_
  refine awp_seq fun K1 hK1 => ?_
  refine awp_region rfl ?_
  refine o_fieldRef 1 Gd.none Wb_tF89_1 rfl rfl ?_
  refine o_loadS (AV.sl 1 (ns .u32 (digs (x).natAbs))) Gd.none Wb_tS87 rfl rfl rfl ?_
  refine n_len (digs (x).natAbs) Gd.none Wb_tU87 rfl ?_
  refine o_fieldRef 1 Gd.none Wb_tF89_1 rfl rfl ?_
  refine o_loadS (AV.sl 1 (ns .u32 (digs (y).natAbs))) Gd.none Wb_tS87 rfl rfl rfl ?_
  refine n_len (digs (y).natAbs) Gd.none Wb_tU87 rfl ?_
  refine n_add ((digs (x).natAbs).length) ((digs (y).natAbs).length) Gd.none rfl rfl (by simp only [topOf]; omega) ?_
  refine n_add (((digs (x).natAbs).length) + ((digs (y).natAbs).length)) (1) Gd.none rfl rfl (by simp only [topOf]; omega) ?_
  refine n_make 5 ((((digs (x).natAbs).length) + ((digs (y).natAbs).length)) + (1)) Gd.none Wb_tE87 Wb_tO122 rfl rfl (by omega) rfl rfl ?_
  refine o_assign (AV.row 5) Gd.none rfl ?_
  refine aops_end ?_
  refine hK1 _ ?_
  refine awp_seq fun K2 hK2 => ?_
  refine awp_seq fun K3 hK3 => ?_
  refine awp_region rfl ?_
  refine o_fieldRef 1 Gd.none Wb_tF89_1 rfl rfl ?_
  refine o_loadS (AV.sl 1 (ns .u32 (digs (x).natAbs))) Gd.none Wb_tS87 rfl rfl rfl ?_
  refine n_len (digs (x).natAbs) Gd.none Wb_tU87 rfl ?_
  refine o_move (nm .i64 (0)) Gd.none rfl ?_
  refine aops_end ?_
  refine hK3 _ ?_
  refine awp_block ?_
  refine awp_loopR (fun κ σ => ∃ (i : Nat), ∃ (o : List Nat), (o.length = (digs x.natAbs).length + (digs y.natAbs).length + 1) ∧ (Dig o) ∧ (i ≤ (digs x.natAbs).length) ∧ (val o = val ((digs x.natAbs).take i) * y.natAbs) ∧ ((digs x.natAbs).length - i) = κ ∧ σ = ⟨[(2, (AV.ref 2 (0))), (3, (AV.ref 3 (0))), (4, (AV.ref 4 (0))), (5, (AV.row 5)), (24, (AV.sl 1 (ns .u32 (digs (x).natAbs)))), (25, (nm .i64 ((digs x.natAbs).length))), (26, (nm .i64 (i)))], [(2, (AO.var 89 [(bp (x < 0)), (AV.sl 1 (ns .u32 (digs (x).natAbs)))])), (3, (AO.var 89 [(bp (y < 0)), (AV.sl 1 (ns .u32 (digs (y).natAbs)))])), (4, (AO.var 89 [(AV.lit (.bool false)), (AV.lit (.slice none 0 0))])), (5, (AO.row 122 1 (ns .u32 (o))))]⟩) ⟨_, _, ⟨0, List.replicate ((digs x.natAbs).length + (digs y.natAbs).length + 1) 0, (by simp), (Dig.repl _), (by omega), (by rw [val_repl]; simp [val]), rfl, rfl⟩, ?wk0⟩ ?rd0
  case wk0 =>
    exact Wk.sub (And.intro (by exact rfl) (And.intro (by exact rfl) (And.intro (by exact rfl) (And.intro (by exact rfl) (And.intro (by exact rfl) (And.intro (by first | rfl | exact congrArg (nm _) (by omega) | exact nm_int (by omega) | exact nm_int (by simp [IntKind.wrap, IntKind.bits, IntKind.signed]; omega)) (And.intro (by first | rfl | exact congrArg (nm _) (by omega) | exact nm_int (by omega) | exact nm_int (by simp [IntKind.wrap, IntKind.bits, IntKind.signed]; omega)) (trivial)))))))) (And.intro (by first | rfl | exact row_ns (by simp) | exact congrArg (fun x => some (AO.blk (.stringIter _ x))) (by omega)) (And.intro (by first | rfl | exact row_ns (by simp) | exact congrArg (fun x => some (AO.blk (.stringIter _ x))) (by omega)) (And.intro (by first | rfl | exact row_ns (by simp) | exact congrArg (fun x => some (AO.blk (.stringIter _ x))) (by omega)) (And.intro (by first | rfl | exact row_ns (by simp) | exact congrArg (fun x => some (AO.blk (.stringIter _ x))) (by omega)) (trivial)))))
  rintro κ _ ⟨i, o, hl, hd, hi, hv, rfl, rfl⟩
  refine awp_seq fun K4 hK4 => ?_
  refine awp_region rfl ?_
  refine n_lss (i) ((digs x.natAbs).length) Gd.none rfl rfl ?_
  refine aops_end ?_
  refine hK4 _ ?_
  refine awp_seq fun K5 hK5 => ?_
  refine awp_condQ (q := (i) < ((digs x.natAbs).length)) rfl (fun h1 => ?_) (fun h1 => ?_)
  · refine awp_skip ?_
    refine hK5 _ ?_
    refine awp_seq fun K6 hK6 => ?_
    refine awp_block ?_
    refine awp_seq fun K7 hK7 => ?_
    refine awp_region rfl ?_
    refine o_move (nm .i64 (i)) Gd.none rfl ?_
    refine n_index (digs (x).natAbs) (i) Gd.none Wb_tE87 rfl rfl (by omega) ?_
    refine n_loadI (digs (x).natAbs) (i) Gd.none Wb_tS122 rfl (by omega) ?_
    refine o_assign (nm .i64 (i)) Gd.none rfl ?_
    refine o_assign (nm .u32 ((digs (x).natAbs).getD (i) 0)) Gd.none rfl ?_
    refine aops_end ?_
    refine hK7 _ ?_
    refine awp_seq fun K8 hK8 => ?_
    refine awp_region rfl ?_
    refine o_assign (nm .u64 (0)) Gd.none rfl ?_
    refine aops_end ?_
    refine hK8 _ ?_
    refine awp_seq fun K9 hK9 => ?_
    refine awp_seq fun K10 hK10 => ?_
    refine awp_region rfl ?_
    refine o_fieldRef 1 Gd.none Wb_tF89_1 rfl rfl ?_
    refine o_loadS (AV.sl 1 (ns .u32 (digs (y).natAbs))) Gd.none Wb_tS87 rfl rfl rfl ?_
    refine n_len (digs (y).natAbs) Gd.none Wb_tU87 rfl ?_
    refine o_move (nm .i64 (0)) Gd.none rfl ?_
    refine aops_end ?_
    refine hK10 _ ?_
    refine awp_block ?_
    refine awp_loopR (fun κ σ => ∃ (k : Nat), ∃ (c : Nat), ∃ (o : List Nat), (o.length = (digs x.natAbs).length + (digs y.natAbs).length + 1) ∧ (Dig o) ∧ (k ≤ (digs y.natAbs).length) ∧ (c < 1000000000) ∧ (val o + 1000000000 ^ (i + k) * c = val ((digs x.natAbs).take i) * y.natAbs + 1000000000 ^ i * ((digs x.natAbs).getD i 0 * val ((digs y.natAbs).take k))) ∧ ((digs y.natAbs).length - k) = κ ∧ σ = ⟨[(2, (AV.ref 2 (0))), (3, (AV.ref 3 (0))), (4, (AV.ref 4 (0))), (5, (AV.row 5)), (24, (AV.sl 1 (ns .u32 (digs (x).natAbs)))), (25, (nm .i64 ((digs x.natAbs).length))), (26, (nm .i64 (i))), (6, (nm .i64 (i))), (7, (nm .u32 ((digs x.natAbs).getD (i) 0))), (8, (nm .u64 (c))), (32, (AV.sl 1 (ns .u32 (digs (y).natAbs)))), (33, (nm .i64 ((digs y.natAbs).length))), (34, (nm .i64 (k)))], [(2, (AO.var 89 [(bp (x < 0)), (AV.sl 1 (ns .u32 (digs (x).natAbs)))])), (3, (AO.var 89 [(bp (y < 0)), (AV.sl 1 (ns .u32 (digs (y).natAbs)))])), (4, (AO.var 89 [(AV.lit (.bool false)), (AV.lit (.slice none 0 0))])), (5, (AO.row 122 1 (ns .u32 (o))))]⟩) ⟨_, _, ⟨0, 0, _, hl, hd, (by omega), (by omega), (by simp only [Nat.mul_zero, Nat.add_zero, hv, List.take_zero, val]), rfl, rfl⟩, ?wk1⟩ ?rd1
    case wk1 =>
      exact Wk.sub (And.intro (by exact rfl) (And.intro (by exact rfl) (And.intro (by exact rfl) (And.intro (by exact rfl) (And.intro (by exact rfl) (And.intro (by exact rfl) (And.intro (by exact rfl) (And.intro (by exact rfl) (And.intro (by first | rfl | exact congrArg (nm _) (by omega) | exact nm_int (by omega) | exact nm_int (by simp [IntKind.wrap, IntKind.bits, IntKind.signed]; omega)) (And.intro (by first | rfl | exact congrArg (nm _) (by omega) | exact nm_int (by omega) | exact nm_int (by simp [IntKind.wrap, IntKind.bits, IntKind.signed]; omega)) (And.intro (by exact rfl) (And.intro (by first | rfl | exact congrArg (nm _) (by omega) | exact nm_int (by omega) | exact nm_int (by simp [IntKind.wrap, IntKind.bits, IntKind.signed]; omega)) (And.intro (by first | rfl | exact congrArg (nm _) (by omega) | exact nm_int (by omega) | exact nm_int (by simp [IntKind.wrap, IntKind.bits, IntKind.signed]; omega)) (trivial)))))))))))))) (And.intro (by first | rfl | exact row_ns (by simp) | exact congrArg (fun x => some (AO.blk (.stringIter _ x))) (by omega)) (And.intro (by first | rfl | exact row_ns (by simp) | exact congrArg (fun x => some (AO.blk (.stringIter _ x))) (by omega)) (And.intro (by first | rfl | exact row_ns (by simp) | exact congrArg (fun x => some (AO.blk (.stringIter _ x))) (by omega)) (And.intro (by first | rfl | exact row_ns (by simp) | exact congrArg (fun x => some (AO.blk (.stringIter _ x))) (by omega)) (trivial)))))
    rintro κ _ ⟨k, c, o, hl2, hd2, hk, hc, hv2, rfl, rfl⟩
    have hA := (digs_dig x.natAbs).mulb (digs_dig y.natAbs) i k
    have hA1 := (digs_dig x.natAbs).getD i
    have hB1 := (digs_dig y.natAbs).getD k
    have hO := hd2.getD (i + k)
    refine awp_seq fun K11 hK11 => ?_
    refine awp_region rfl ?_
    refine n_lss (k) ((digs y.natAbs).length) Gd.none rfl rfl ?_
    refine aops_end ?_
    refine hK11 _ ?_
    refine awp_seq fun K12 hK12 => ?_
    refine awp_condQ (q := (k) < ((digs y.natAbs).length)) rfl (fun h2 => ?_) (fun h2 => ?_)
    · refine awp_skip ?_
      refine hK12 _ ?_
      refine awp_seq fun K13 hK13 => ?_
      refine awp_block ?_
      refine awp_seq fun K14 hK14 => ?_
      refine awp_region rfl ?_
      refine o_move (nm .i64 (k)) Gd.none rfl ?_
      refine n_index (digs (y).natAbs) (k) Gd.none Wb_tE87 rfl rfl (by omega) ?_
      refine n_loadI (digs (y).natAbs) (k) Gd.none Wb_tS122 rfl (by omega) ?_
      refine o_assign (nm .i64 (k)) Gd.none rfl ?_
      refine o_assign (nm .u32 ((digs (y).natAbs).getD (k) 0)) Gd.none rfl ?_
      refine aops_end ?_
      refine hK14 _ ?_
      refine awp_seq fun K15 hK15 => ?_
      refine awp_region rfl ?_
      refine o_move (AV.row 5) Gd.none rfl ?_
      refine o_move (nm .i64 (i)) Gd.none rfl ?_
      refine o_move (nm .i64 (k)) Gd.none rfl ?_
      refine n_add (i) (k) Gd.none rfl rfl (by simp only [topOf]; omega) ?_
      refine n_indexRow (o) ((i) + (k)) Gd.none Wb_tE87 rfl rfl rfl (by omega) ?_
      refine n_loadRow (o) ((i) + (k)) Gd.none Wb_tS122 rfl rfl (by omega) ?_
      refine n_conv ((o).getD ((i) + (k)) 0) Gd.none rfl Wb_tI122 Wb_tI117 (by simp only [topOf]; omega) ?_
      refine o_move (nm .u32 ((digs x.natAbs).getD (i) 0)) Gd.none rfl ?_
      refine n_conv ((digs x.natAbs).getD (i) 0) Gd.none rfl Wb_tI122 Wb_tI117 (by simp only [topOf]; omega) ?_
      refine o_move (nm .u32 ((digs (y).natAbs).getD (k) 0)) Gd.none rfl ?_
      refine n_conv ((digs (y).natAbs).getD (k) 0) Gd.none rfl Wb_tI122 Wb_tI117 (by simp only [topOf]; omega) ?_
      refine n_mul ((digs x.natAbs).getD (i) 0) ((digs (y).natAbs).getD (k) 0) Gd.none rfl rfl (by simp only [topOf]; omega) ?_
      refine n_add ((o).getD ((i) + (k)) 0) (((digs x.natAbs).getD (i) 0) * ((digs (y).natAbs).getD (k) 0)) Gd.none rfl rfl (by simp only [topOf]; omega) ?_
      refine o_move (nm .u64 (c)) Gd.none rfl ?_
      refine n_add (((o).getD ((i) + (k)) 0) + (((digs x.natAbs).getD (i) 0) * ((digs (y).natAbs).getD (k) 0))) (c) Gd.none rfl rfl (by simp only [topOf]; omega) ?_
      refine o_assign (nm .u64 ((((o).getD ((i) + (k)) 0) + (((digs x.natAbs).getD (i) 0) * ((digs (y).natAbs).getD (k) 0))) + (c))) Gd.none rfl ?_
      refine aops_end ?_
      refine hK15 _ ?_
      refine awp_seq fun K16 hK16 => ?_
      refine awp_region rfl ?_
      refine o_move (AV.row 5) Gd.none rfl ?_
      refine o_move (nm .i64 (i)) Gd.none rfl ?_
      refine o_move (nm .i64 (k)) Gd.none rfl ?_
      refine n_add (i) (k) Gd.none rfl rfl (by simp only [topOf]; omega) ?_
      refine o_move (nm .u64 ((((o).getD ((i) + (k)) 0) + (((digs x.natAbs).getD (i) 0) * ((digs (y).natAbs).getD (k) 0))) + (c))) Gd.none rfl ?_
      refine n_rem ((((o).getD ((i) + (k)) 0) + (((digs x.natAbs).getD (i) 0) * ((digs (y).natAbs).getD (k) 0))) + (c)) (1000000000) Gd.none rfl rfl (by omega) ?_
      refine n_conv (((((o).getD ((i) + (k)) 0) + (((digs x.natAbs).getD (i) 0) * ((digs (y).natAbs).getD (k) 0))) + (c)) % (1000000000)) Gd.none rfl Wb_tI117 Wb_tI122 (by simp only [topOf]; omega) ?_
      refine n_indexRow (o) ((i) + (k)) Gd.none Wb_tE87 rfl rfl rfl (by omega) ?_
      refine n_storeRow (o) ((i) + (k)) (((((o).getD ((i) + (k)) 0) + (((digs x.natAbs).getD (i) 0) * ((digs (y).natAbs).getD (k) 0))) + (c)) % (1000000000)) [(2, (AO.var 89 [(bp (x < 0)), (AV.sl 1 (ns .u32 (digs (x).natAbs)))])), (3, (AO.var 89 [(bp (y < 0)), (AV.sl 1 (ns .u32 (digs (y).natAbs)))])), (4, (AO.var 89 [(AV.lit (.bool false)), (AV.lit (.slice none 0 0))])), (5, (AO.row 122 1 (ns .u32 ((o).set ((i) + (k)) (((((o).getD ((i) + (k)) 0) + (((digs x.natAbs).getD (i) 0) * ((digs (y).natAbs).getD (k) 0))) + (c)) % (1000000000))))))] Gd.none Wb_tZ122 rfl rfl rfl (by omega) rfl ?_
      refine aops_end ?_
      refine hK16 _ ?_
      refine awp_region rfl ?_
      refine o_move (nm .u64 ((((o).getD ((i) + (k)) 0) + (((digs x.natAbs).getD (i) 0) * ((digs (y).natAbs).getD (k) 0))) + (c))) Gd.none rfl ?_
      refine n_quo ((((o).getD ((i) + (k)) 0) + (((digs x.natAbs).getD (i) 0) * ((digs (y).natAbs).getD (k) 0))) + (c)) (1000000000) Gd.none rfl rfl (by omega) (by simp only [topOf]; omega) ?_
      refine o_assign (nm .u64 (((((o).getD ((i) + (k)) 0) + (((digs x.natAbs).getD (i) 0) * ((digs (y).natAbs).getD (k) 0))) + (c)) / (1000000000))) Gd.none rfl ?_
      refine aops_end ?_
      refine hK13 _ ?_
      refine awp_region rfl ?_
      refine n_add (k) (1) Gd.none rfl rfl (by simp only [topOf]; omega) ?_
      refine o_move (nm .i64 ((k) + (1))) Gd.none rfl ?_
      refine aops_end ?_
      refine ⟨_, _, ?lt, ⟨k + 1, ((((o).getD ((i) + (k)) 0) + (((digs x.natAbs).getD (i) 0) * ((digs (y).natAbs).getD (k) 0))) + (c)) / (1000000000), (o).set ((i) + (k)) (((((o).getD ((i) + (k)) 0) + (((digs x.natAbs).getD (i) 0) * ((digs (y).natAbs).getD (k) 0))) + (c)) % (1000000000)), (by simp only [List.length_set]; exact hl2), (hd2.set (Nat.mod_lt _ (by decide))), (by omega), (by omega), (mul_step (by omega) hv2 rfl), rfl, rfl⟩, ?wk⟩
      case lt => omega
      case wk => exact Wk.sub (And.intro (by exact rfl) (And.intro (by exact rfl) (And.intro (by exact rfl) (And.intro (by exact rfl) (And.intro (by exact rfl) (And.intro (by exact rfl) (And.intro (by exact rfl) (And.intro (by exact rfl) (And.intro (by exact rfl) (And.intro (by first | rfl | exact congrArg (nm _) (by omega) | exact nm_int (by omega) | exact nm_int (by simp [IntKind.wrap, IntKind.bits, IntKind.signed]; omega)) (And.intro (by exact rfl) (And.intro (by exact rfl) (And.intro (by first | rfl | exact congrArg (nm _) (by omega) | exact nm_int (by omega) | exact nm_int (by simp [IntKind.wrap, IntKind.bits, IntKind.signed]; omega)) (trivial)))))))))))))) (And.intro (by first | rfl | exact row_ns (by simp) | exact congrArg (fun x => some (AO.blk (.stringIter _ x))) (by omega)) (And.intro (by first | rfl | exact row_ns (by simp) | exact congrArg (fun x => some (AO.blk (.stringIter _ x))) (by omega)) (And.intro (by first | rfl | exact row_ns (by simp) | exact congrArg (fun x => some (AO.blk (.stringIter _ x))) (by omega)) (And.intro (by first | rfl | exact row_ns (by simp) | exact congrArg (fun x => some (AO.blk (.stringIter _ x))) (by omega)) (trivial)))))
    · refine awp_exit ?_
      refine hK9 _ ?_
      refine awp_seq fun K17 hK17 => ?_
      refine awp_region rfl ?_
      refine o_move (nm .i64 (i)) Gd.none rfl ?_
      refine o_fieldRef 1 Gd.none Wb_tF89_1 rfl rfl ?_
      refine o_loadS (AV.sl 1 (ns .u32 (digs (y).natAbs))) Gd.none Wb_tS87 rfl rfl rfl ?_
      refine n_len (digs (y).natAbs) Gd.none Wb_tU87 rfl ?_
      refine n_add (i) ((digs (y).natAbs).length) Gd.none rfl rfl (by simp only [topOf]; omega) ?_
      refine o_assign (nm .i64 ((i) + ((digs (y).natAbs).length))) Gd.none rfl ?_
      refine aops_end ?_
      refine hK17 _ ?_
      refine awp_block ?_
      refine awp_loopR (fun κ σ => ∃ (k : Nat), ∃ (c : Nat), ∃ (o : List Nat), (o.length = (digs x.natAbs).length + (digs y.natAbs).length + 1) ∧ (Dig o) ∧ ((digs y.natAbs).length ≤ k) ∧ (k ≤ (digs y.natAbs).length + 1) ∧ (c < 1000000000) ∧ (val o + 1000000000 ^ (i + k) * c = val ((digs x.natAbs).take i) * y.natAbs + 1000000000 ^ i * ((digs x.natAbs).getD i 0 * val ((digs y.natAbs).take k))) ∧ ((digs y.natAbs).length + 1 - k) = κ ∧ σ = ⟨[(2, (AV.ref 2 (0))), (3, (AV.ref 3 (0))), (4, (AV.ref 4 (0))), (5, (AV.row 5)), (24, (AV.sl 1 (ns .u32 (digs (x).natAbs)))), (25, (nm .i64 ((digs x.natAbs).length))), (26, (nm .i64 (i))), (6, (nm .i64 (i))), (8, (nm .u64 (c))), (12, (nm .i64 (i + k)))], [(2, (AO.var 89 [(bp (x < 0)), (AV.sl 1 (ns .u32 (digs (x).natAbs)))])), (3, (AO.var 89 [(bp (y < 0)), (AV.sl 1 (ns .u32 (digs (y).natAbs)))])), (4, (AO.var 89 [(AV.lit (.bool false)), (AV.lit (.slice none 0 0))])), (5, (AO.row 122 1 (ns .u32 (o))))]⟩) ⟨_, _, ⟨k, c, o, hl2, hd2, (by omega), (by omega), hc, hv2, rfl, rfl⟩, ?wk2⟩ ?rd2
      case wk2 =>
        exact Wk.sub (And.intro (by exact rfl) (And.intro (by exact rfl) (And.intro (by exact rfl) (And.intro (by exact rfl) (And.intro (by exact rfl) (And.intro (by exact rfl) (And.intro (by exact rfl) (And.intro (by exact rfl) (And.intro (by exact rfl) (And.intro (by first | rfl | exact congrArg (nm _) (by omega) | exact nm_int (by omega) | exact nm_int (by simp [IntKind.wrap, IntKind.bits, IntKind.signed]; omega)) (trivial))))))))))) (And.intro (by first | rfl | exact row_ns (by simp) | exact congrArg (fun x => some (AO.blk (.stringIter _ x))) (by omega)) (And.intro (by first | rfl | exact row_ns (by simp) | exact congrArg (fun x => some (AO.blk (.stringIter _ x))) (by omega)) (And.intro (by first | rfl | exact row_ns (by simp) | exact congrArg (fun x => some (AO.blk (.stringIter _ x))) (by omega)) (And.intro (by first | rfl | exact row_ns (by simp) | exact congrArg (fun x => some (AO.blk (.stringIter _ x))) (by omega)) (trivial)))))
      rintro κ _ ⟨k, c, o, hl3, hd3, hk3, hk4, hc3, hv3, rfl, rfl⟩
      have hO3 := hd3.getD (i + k)
      have hkc := mul_k hv3
      refine awp_seq fun K18 hK18 => ?_
      refine awp_seq fun K19 hK19 => ?_
      refine awp_region rfl ?_
      refine o_move (nm .u64 (c)) Gd.none rfl ?_
      refine n_gtr (c) (0) Gd.none rfl rfl ?_
      refine aops_end ?_
      refine hK19 _ ?_
      refine awp_condQ (q := (0) < (c)) rfl (fun h3 => ?_) (fun h3 => ?_)
      · refine awp_skip ?_
        refine hK18 _ ?_
        refine awp_seq fun K20 hK20 => ?_
        refine awp_block ?_
        refine awp_seq fun K21 hK21 => ?_
        refine awp_region rfl ?_
        refine o_move (AV.row 5) Gd.none rfl ?_
        refine o_move (nm .i64 (i + k)) Gd.none rfl ?_
        refine n_indexRow (o) (i + k) Gd.none Wb_tE87 rfl rfl rfl (by have := hkc (by assumption); omega) ?_
        refine n_loadRow (o) (i + k) Gd.none Wb_tS122 rfl rfl (by have := hkc (by assumption); omega) ?_
        refine n_conv ((o).getD (i + k) 0) Gd.none rfl Wb_tI122 Wb_tI117 (by simp only [topOf]; omega) ?_
        refine o_move (nm .u64 (c)) Gd.none rfl ?_
        refine n_add ((o).getD (i + k) 0) (c) Gd.none rfl rfl (by simp only [topOf]; omega) ?_
        refine o_assign (nm .u64 (((o).getD (i + k) 0) + (c))) Gd.none rfl ?_
        refine aops_end ?_
        refine hK21 _ ?_
        refine awp_seq fun K22 hK22 => ?_
        refine awp_region rfl ?_
        refine o_move (AV.row 5) Gd.none rfl ?_
        refine o_move (nm .i64 (i + k)) Gd.none rfl ?_
        refine o_move (nm .u64 (((o).getD (i + k) 0) + (c))) Gd.none rfl ?_
        refine n_rem (((o).getD (i + k) 0) + (c)) (1000000000) Gd.none rfl rfl (by omega) ?_
        refine n_conv ((((o).getD (i + k) 0) + (c)) % (1000000000)) Gd.none rfl Wb_tI117 Wb_tI122 (by simp only [topOf]; omega) ?_
        refine n_indexRow (o) (i + k) Gd.none Wb_tE87 rfl rfl rfl (by have := hkc (by assumption); omega) ?_
        refine n_storeRow (o) (i + k) ((((o).getD (i + k) 0) + (c)) % (1000000000)) [(2, (AO.var 89 [(bp (x < 0)), (AV.sl 1 (ns .u32 (digs (x).natAbs)))])), (3, (AO.var 89 [(bp (y < 0)), (AV.sl 1 (ns .u32 (digs (y).natAbs)))])), (4, (AO.var 89 [(AV.lit (.bool false)), (AV.lit (.slice none 0 0))])), (5, (AO.row 122 1 (ns .u32 ((o).set (i + k) ((((o).getD (i + k) 0) + (c)) % (1000000000))))))] Gd.none Wb_tZ122 rfl rfl rfl (by have := hkc (by assumption); omega) rfl ?_
        refine aops_end ?_
        refine hK22 _ ?_
        refine awp_region rfl ?_
        refine o_move (nm .u64 (((o).getD (i + k) 0) + (c))) Gd.none rfl ?_
        refine n_quo (((o).getD (i + k) 0) + (c)) (1000000000) Gd.none rfl rfl (by omega) (by simp only [topOf]; omega) ?_
        refine o_assign (nm .u64 ((((o).getD (i + k) 0) + (c)) / (1000000000))) Gd.none rfl ?_
        refine aops_end ?_
        refine hK20 _ ?_
        refine awp_region rfl ?_
        refine o_move (nm .i64 (i + k)) Gd.none rfl ?_
        refine n_add (i + k) (1) Gd.none rfl rfl (by simp only [topOf]; omega) ?_
        refine o_assign (nm .i64 ((i + k) + (1))) Gd.none rfl ?_
        refine aops_end ?_
        refine ⟨_, _, ?lt, ⟨k + 1, (((o).getD (i + k) 0) + (c)) / (1000000000), (o).set (i + k) ((((o).getD (i + k) 0) + (c)) % (1000000000)), (by simp only [List.length_set]; exact hl3), (hd3.set (Nat.mod_lt _ (by decide))), (by omega), (by have := hkc (by assumption); omega), (by omega), (mul_step (by have := hkc (by assumption); omega) hv3 (by rw [getD_ge (xs := digs y.natAbs) hk3]; simp)), rfl, rfl⟩, ?wk⟩
        case lt => (have := hkc (by assumption); omega)
        case wk => exact Wk.sub (And.intro (by exact rfl) (And.intro (by exact rfl) (And.intro (by exact rfl) (And.intro (by exact rfl) (And.intro (by exact rfl) (And.intro (by exact rfl) (And.intro (by exact rfl) (And.intro (by exact rfl) (And.intro (by first | rfl | exact congrArg (nm _) (by omega) | exact nm_int (by omega) | exact nm_int (by simp [IntKind.wrap, IntKind.bits, IntKind.signed]; omega)) (And.intro (by first | rfl | exact congrArg (nm _) (by omega) | exact nm_int (by omega) | exact nm_int (by simp [IntKind.wrap, IntKind.bits, IntKind.signed]; omega)) (trivial))))))))))) (And.intro (by first | rfl | exact row_ns (by simp) | exact congrArg (fun x => some (AO.blk (.stringIter _ x))) (by omega)) (And.intro (by first | rfl | exact row_ns (by simp) | exact congrArg (fun x => some (AO.blk (.stringIter _ x))) (by omega)) (And.intro (by first | rfl | exact row_ns (by simp) | exact congrArg (fun x => some (AO.blk (.stringIter _ x))) (by omega)) (And.intro (by first | rfl | exact row_ns (by simp) | exact congrArg (fun x => some (AO.blk (.stringIter _ x))) (by omega)) (trivial)))))
      · refine awp_exit ?_
        refine hK6 _ ?_
        refine awp_region rfl ?_
        refine n_add (i) (1) Gd.none rfl rfl (by simp only [topOf]; omega) ?_
        refine o_move (nm .i64 ((i) + (1))) Gd.none rfl ?_
        refine aops_end ?_
        refine ⟨_, _, ?lt, ⟨i + 1, o, hl3, hd3, (by omega), (mul_end (k := k) (by omega) (by rw [show c = 0 by omega] at hv3; exact hv3)), rfl, rfl⟩, ?wk⟩
        case lt => omega
        case wk => exact Wk.sub (And.intro (by exact rfl) (And.intro (by exact rfl) (And.intro (by exact rfl) (And.intro (by exact rfl) (And.intro (by exact rfl) (And.intro (by exact rfl) (And.intro (by first | rfl | exact congrArg (nm _) (by omega) | exact nm_int (by omega) | exact nm_int (by simp [IntKind.wrap, IntKind.bits, IntKind.signed]; omega)) (trivial)))))))) (And.intro (by first | rfl | exact row_ns (by simp) | exact congrArg (fun x => some (AO.blk (.stringIter _ x))) (by omega)) (And.intro (by first | rfl | exact row_ns (by simp) | exact congrArg (fun x => some (AO.blk (.stringIter _ x))) (by omega)) (And.intro (by first | rfl | exact row_ns (by simp) | exact congrArg (fun x => some (AO.blk (.stringIter _ x))) (by omega)) (And.intro (by first | rfl | exact row_ns (by simp) | exact congrArg (fun x => some (AO.blk (.stringIter _ x))) (by omega)) (trivial)))))
  · refine awp_exit ?_
    refine hK2 _ ?_
    refine awp_seq fun K23 hK23 => ?_
    refine awp_region rfl ?_
    refine o_fieldRef 0 Gd.none Wb_tF89_0 rfl rfl ?_
    refine o_loadS (bp (x < 0)) Gd.none Wb_tS4 rfl rfl rfl ?_
    refine o_fieldRef 0 Gd.none Wb_tF89_0 rfl rfl ?_
    refine o_loadS (bp (y < 0)) Gd.none Wb_tS4 rfl rfl rfl ?_
    refine o_neqB (a := (decide (x < 0))) (c := (decide (y < 0))) Gd.none rfl rfl Wb_tB4 ?_
    refine o_move (AV.row 5) Gd.none rfl ?_
    refine o_callG [(5, 1, (ns .u32 (o)))] [(bp ((decide (x < 0)) ≠ (decide (y < 0)))), (AV.sl 1 (ns .u32 (o)))] _ (intW ((sg (decide ((decide (x < 0)) ≠ (decide (y < 0)))) (val (o))))) [(2, (AO.var 89 [(bp (x < 0)), (AV.sl 1 (ns .u32 (digs (x).natAbs)))])), (3, (AO.var 89 [(bp (y < 0)), (AV.sl 1 (ns .u32 (digs (y).natAbs)))])), (4, (AO.var 89 [(AV.lit (.bool false)), (AV.lit (.slice none 0 0))]))] Gd.none Wb_tC101 rfl (And.intro ⟨_, rfl⟩ (trivial)) rfl rfl (LeL.cons (AV.le_refl _) (LeL.cons (AV.le_refl _) (LeL.nil))) (c_wTrim (decide ((decide (x < 0)) ≠ (decide (y < 0)))) (o) (by first | assumption | exact dgn_dig _ _ | exact digs_dig _)) rfl ?_
    refine o_store [(2, (AO.var 89 [(bp (x < 0)), (AV.sl 1 (ns .u32 (digs (x).natAbs)))])), (3, (AO.var 89 [(bp (y < 0)), (AV.sl 1 (ns .u32 (digs (y).natAbs)))])), (4, (AO.var 89 [(bp ((sg (decide ((decide (x < 0)) ≠ (decide (y < 0)))) (val (o))) < 0)), (AV.sl 1 (ns .u32 (digs ((sg (decide ((decide (x < 0)) ≠ (decide (y < 0)))) (val (o)))).natAbs)))]))] Gd.none Wb_tZ89 rfl rfl rfl rfl rfl rfl ?_
    refine aops_end ?_
    refine hK23 _ ?_
    refine awp_ret ?_
    refine post_ret ⟨[(AV.agg [(bp ((sg (decide ((decide (x < 0)) ≠ (decide (y < 0)))) (val (o))) < 0)), (AV.sl 1 (ns .u32 (digs ((sg (decide ((decide (x < 0)) ≠ (decide (y < 0)))) (val (o)))).natAbs)))])], And.intro ⟨4, (AO.var 89 [(bp ((sg (decide ((decide (x < 0)) ≠ (decide (y < 0)))) (val (o))) < 0)), (AV.sl 1 (ns .u32 (digs ((sg (decide ((decide (x < 0)) ≠ (decide (y < 0)))) (val (o)))).natAbs)))]), rfl, rfl, rfl, Or.inl ⟨Wb_tA89, AV.le_refl _⟩⟩ (trivial), rfl, ?_⟩
    refine congrArg (intK .u32) ?_
    rw [hv, val_take_all (by omega), val_digs]
    exact sg_mul x y

end Go.Proofs.YtkngglpnejdicaaDoor
