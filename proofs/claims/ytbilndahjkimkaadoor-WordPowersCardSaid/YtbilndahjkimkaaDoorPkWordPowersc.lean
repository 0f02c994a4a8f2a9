/- What the proof of a row of this seat leans on (part 3 of 5): a library of abstract values, walks of functions, and plain laws. -/
import Derived.Test.YtbilndahjkimkaaDoorPkWordPowersb
set_option linter.unusedVariables false
set_option linter.unusedSimpArgs false
namespace Go.Proofs.YtbilndahjkimkaaDoor
open Go Go.Ab Go.Mth
theorem Wb_tO36 : tyZero cx.P 36 = some [(Go.Value.bool false), (Go.Value.slice none 0 0)] := by kernel_rfl
theorem Wb_tE22 : tyElem cx.P 22 = some (3, 1, 8) := by kernel_rfl
theorem Wb_tO3 : tyZero cx.P 3 = some [(Go.Value.int IntKind.i64 0)] := by kernel_rfl
theorem Wb_tP36 : tyPlaces cx.P 36 = some (fun i => (#[(0, 1), (1, 1)] : Array (Nat × Nat))[i]?) := by kernel_rfl
theorem Wb_tZ36 : tySize cx.P 36 = some 2 := by kernel_rfl
theorem Wb_tA36 : tyAgg cx.P 36 = some 2 := by kernel_rfl
theorem Wb_tO79 : tyZero cx.P 79 = some [(Go.Value.bool false), (Go.Value.slice none 0 0)] := by kernel_rfl
theorem Wb_tI3 : tyInt cx.P 3 = some .i64 := by kernel_rfl
theorem Wb_tI110 : tyInt cx.P 110 = some .u64 := by kernel_rfl
theorem Wb_tI115 : tyInt cx.P 115 = some .u32 := by kernel_rfl
theorem Wb_tE77 : tyElem cx.P 77 = some (115, 1, 4) := by kernel_rfl
theorem Wb_tO115 : tyZero cx.P 115 = some [(Go.Value.int IntKind.u32 0)] := by kernel_rfl
theorem Wb_tP79 : tyPlaces cx.P 79 = some (fun i => (#[(0, 1), (1, 1)] : Array (Nat × Nat))[i]?) := by kernel_rfl
theorem Wb_tZ79 : tySize cx.P 79 = some 2 := by kernel_rfl
theorem Wb_tA79 : tyAgg cx.P 79 = some 2 := by kernel_rfl
theorem Wb_tF36_1 : tyField cx.P 36 1 = some (1, 22) := by kernel_rfl
theorem Wb_tS22 : tySc cx.P 22 = true := by kernel_rfl
theorem Wb_tU22 : cx.P.underlying 22 = some (.slice 3) := by kernel_rfl
theorem Wb_tS3 : tySc cx.P 3 = true := by kernel_rfl
theorem Wb_tC75 : callable cx.P 75 = true := by kernel_rfl
theorem Wb_tZ3 : tySize cx.P 3 = some 1 := by kernel_rfl
theorem Wb_tF36_0 : tyField cx.P 36 0 = some (0, 4) := by kernel_rfl
theorem Wb_tS4 : tySc cx.P 4 = true := by kernel_rfl
theorem Wb_tB4 : cx.P.underlying 4 = some .bool := by kernel_rfl
theorem Wb_tC54 : callable cx.P 54 = true := by kernel_rfl
theorem Wb_tF79_1 : tyField cx.P 79 1 = some (1, 77) := by kernel_rfl
theorem Wb_tS77 : tySc cx.P 77 = true := by kernel_rfl
theorem Wb_tU77 : cx.P.underlying 77 = some (.slice 115) := by kernel_rfl
theorem Wb_tS115 : tySc cx.P 115 = true := by kernel_rfl
theorem Wb_tZ115 : tySize cx.P 115 = some 1 := by kernel_rfl
theorem Wb_tF79_0 : tyField cx.P 79 0 = some (0, 4) := by kernel_rfl
theorem Wb_tC81 : callable cx.P 81 = true := by kernel_rfl
theorem c_rOf (i : Int) (h0 : -4611686018427387904 ≤ i) (h1' : i ≤ 4611686018427387904) : ECalls cx 38 [(AV.lit (.int .i64 (i)))] (intR (i)) := by
  refine ecalls_of_awp Tryd.func38 (c := _) rfl (Nat.le_of_ble_eq_true rfl) ?_
  show awp cx 22 _ (postF cx Tryd.f38 _) ⟨[(0, (AV.lit (.int .i64 (i))))], []⟩
  refine awp_seq fun K0 hK0 => ?_
  refine awp_region rfl ?_
  refine o_alloc 2 [(AV.lit (.bool false)), (AV.lit (.slice none 0 0))] Gd.none Wb_tO36 rfl rfl rfl ?_
  refine aops_end ?_
  refine hK0 _ ?_
  refine awp_seq fun K1 hK1 => ?_
  refine awp_region rfl ?_
  refine o_move (AV.lit (.int .i64 (i))) Gd.none rfl ?_
  refine o_lss (a := (i)) (c := (((0 : Nat) : Int))) Gd.none rfl rfl ?_
  refine o_assign (bp ((i) < (((0 : Nat) : Int)))) Gd.none rfl ?_
  refine aops_end ?_
  refine hK1 _ ?_
  refine awp_seqJ (J := fun σ => True ∧ σ = ⟨[(0, (nm .i64 (i.natAbs))), (3, (bp (i < 0))), (2, (AV.ref 2 (0)))], [(2, (AO.var 36 [(AV.lit (.bool false)), (AV.lit (.slice none 0 0))]))]⟩) ?ja0 ?jb0
  case ja0 =>
    refine awp_seq fun K2 hK2 => ?_
    refine awp_region rfl ?_
    refine o_move (bp ((i) < (((0 : Nat) : Int)))) Gd.none rfl ?_
    refine aops_end ?_
    refine hK2 _ ?_
    refine awp_condQ (q := (i) < (((0 : Nat) : Int))) rfl (fun h1 => ?_) (fun h1 => ?_)
    · refine awp_region rfl ?_
      refine o_move (AV.lit (.int .i64 (i))) Gd.none rfl ?_
      refine o_neg (a := i) Gd.none rfl (by exact wrap64 (by omega) (by omega)) ?_
      refine o_assign (AV.lit (.int .i64 (-(i)))) Gd.none rfl ?_
      refine aops_end ?_
      exact ⟨_, ⟨trivial, rfl⟩, Wk.sub (And.intro (by first | rfl | exact congrArg (nm _) (by omega) | exact nm_int (by omega) | exact nm_int (by simp [IntKind.wrap, IntKind.bits, IntKind.signed]; omega)) (And.intro (by first | rfl | exact bp_congr (by first | omega | simp) | exact bl_bp (by first | omega | simp)) (And.intro (by exact rfl) (trivial)))) (And.intro (by first | rfl | exact row_ns (by simp) | exact congrArg (fun x => some (AO.blk (.stringIter _ x))) (by omega)) (trivial))⟩
    · refine awp_skip ?_
      exact ⟨_, ⟨trivial, rfl⟩, Wk.sub (And.intro (by first | rfl | exact congrArg (nm _) (by omega) | exact nm_int (by omega) | exact nm_int (by simp [IntKind.wrap, IntKind.bits, IntKind.signed]; omega)) (And.intro (by first | rfl | exact bp_congr (by first | omega | simp) | exact bl_bp (by first | omega | simp)) (And.intro (by exact rfl) (trivial)))) (And.intro (by first | rfl | exact row_ns (by simp) | exact congrArg (fun x => some (AO.blk (.stringIter _ x))) (by omega)) (trivial))⟩
  rintro _ ⟨-, rfl⟩
  refine awp_seq fun K3 hK3 => ?_
  refine awp_region rfl ?_
  refine o_assign (AV.lit (.slice none 0 0)) Gd.none rfl ?_
  refine aops_end ?_
  refine hK3 _ ?_
  refine awp_seq fun K4 hK4 => ?_
  refine awp_block ?_
  refine awp_loopR (fun κ σ => ∃ (x : Nat), ∃ (r : List Nat), (x ≤ 4611686018427387904) ∧ (r ++ digs x = digs i.natAbs) ∧ (x) = κ ∧ σ = ⟨[(2, (AV.ref 2 (0))), (4, (AV.row 3)), (0, (nm .i64 (x))), (3, (bp (i < 0)))], [(2, (AO.var 36 [(AV.lit (.bool false)), (AV.lit (.slice none 0 0))])), (3, (AO.row 3 1 (ns .i64 (r))))]⟩) ⟨_, _, ⟨i.natAbs, [], (by omega), rfl, rfl, rfl⟩, ?wk1⟩ ?rd1
  case wk1 =>
    exact Wk.trans (Wk.newNil (i := 4) (id := 601) (e := 3) (sz := 1) rfl rfl (by decide)) (Wk.trans (Wk.sub (σ' := ⟨[(2, (AV.ref 2 (0))), (4, (AV.row 601)), (0, (nm .i64 (i.natAbs))), (3, (bp (i < 0)))], [(2, (AO.var 36 [(AV.lit (.bool false)), (AV.lit (.slice none 0 0))])), (601, (AO.row 3 1 (ns .i64 ([]))))]⟩) (And.intro rfl (And.intro rfl (And.intro rfl (And.intro rfl (trivial))))) (And.intro rfl (And.intro rfl (trivial)))) (Wk.trans (Wk.ren (id := 601) (id' := 3) rfl) (Wk.sub (And.intro (by exact rfl) (And.intro (by first | rfl | (simp)) (And.intro (by first | rfl | exact congrArg (nm _) (by omega) | exact nm_int (by omega) | exact nm_int (by simp [IntKind.wrap, IntKind.bits, IntKind.signed]; omega)) (And.intro (by exact rfl) (trivial))))) (And.intro (by first | rfl | exact row_ns (by simp) | exact congrArg (fun x => some (AO.blk (.stringIter _ x))) (by omega)) (And.intro (by first | rfl | exact row_ns (by simp) | exact congrArg (fun x => some (AO.blk (.stringIter _ x))) (by omega)) (trivial))))))
  rintro κ _ ⟨x, r, hx, hr, rfl, rfl⟩
  have hlen := fun h => of_len hr h (by omega)
  refine awp_seq fun K5 hK5 => ?_
  refine awp_seq fun K6 hK6 => ?_
  refine awp_region rfl ?_
  refine o_move (nm .i64 (x)) Gd.none rfl ?_
  refine n_gtr (x) (0) Gd.none rfl rfl ?_
  refine aops_end ?_
  refine hK6 _ ?_
  refine awp_condQ (q := (0) < (x)) rfl (fun h2 => ?_) (fun h2 => ?_)
  · refine awp_skip ?_
    refine hK5 _ ?_
    refine awp_block ?_
    refine awp_seq fun K7 hK7 => ?_
    refine awp_region rfl ?_
    refine o_move (AV.row 3) Gd.none rfl ?_
    refine o_move (nm .i64 (x)) Gd.none rfl ?_
    refine n_rem (x) (1000000000) Gd.none rfl rfl (by omega) ?_
    refine o_buildSlice 201 (ns .i64 ([(x) % (1000000000)])) [(0, [(nm .i64 ((x) % (1000000000)))])] Gd.none Wb_tE22 rfl Wb_tO3 rfl rfl rfl rfl rfl rfl rfl ?_
    refine n_append 202 (r) ([(x) % (1000000000)]) [(201, (AO.row 3 1 (ns .i64 ([(x) % (1000000000)])))), (2, (AO.var 36 [(AV.lit (.bool false)), (AV.lit (.slice none 0 0))]))] Gd.none Wb_tE22 Wb_tO3 rfl rfl rfl rfl rfl (by have hl' := hlen (by assumption); simp only [List.length_append, List.length_cons, List.length_nil]; omega) (by decide) rfl rfl ?_
    refine o_assign (AV.row 202) Gd.none rfl ?_
    refine aops_end ?_
    refine hK7 _ ?_
    refine awp_region rfl ?_
    refine o_move (nm .i64 (x)) Gd.none rfl ?_
    refine n_quo (x) (1000000000) Gd.none rfl rfl (by omega) (by simp only [topOf]; omega) ?_
    refine o_assign (nm .i64 ((x) / (1000000000))) Gd.none rfl ?_
    refine aops_end ?_
    refine ⟨_, _, ?lt, ⟨(x) / (1000000000), (r) ++ ([(x) % (1000000000)]), (by omega), (of_step hr (by assumption)), rfl, rfl⟩, ?wk⟩
    case lt => omega
    case wk => exact Wk.trans (Wk.sub (σ' := ⟨[(2, (AV.ref 2 (0))), (4, (AV.row 202)), (0, (nm .i64 ((x) / (1000000000)))), (3, (bp (i < 0)))], [(2, (AO.var 36 [(AV.lit (.bool false)), (AV.lit (.slice none 0 0))])), (202, (AO.row 3 1 (ns .i64 ((r) ++ ([(x) % (1000000000)])))))]⟩) (And.intro rfl (And.intro rfl (And.intro rfl (And.intro rfl (trivial))))) (And.intro rfl (And.intro rfl (trivial)))) (Wk.trans (Wk.ren (id := 202) (id' := 3) rfl) (Wk.sub (And.intro (by exact rfl) (And.intro (by first | rfl | (simp)) (And.intro (by first | rfl | exact congrArg (nm _) (by omega) | exact nm_int (by omega) | exact nm_int (by simp [IntKind.wrap, IntKind.bits, IntKind.signed]; omega)) (And.intro (by exact rfl) (trivial))))) (And.intro (by first | rfl | exact row_ns (by simp) | exact congrArg (fun x => some (AO.blk (.stringIter _ x))) (by omega)) (And.intro (by first | rfl | exact row_ns (by simp) | exact congrArg (fun x => some (AO.blk (.stringIter _ x))) (by omega)) (trivial)))))
  · refine awp_exit ?_
    refine hK4 _ ?_
    refine awp_seq fun K8 hK8 => ?_
    refine awp_region rfl ?_
    refine o_move (bp (i < 0)) Gd.none rfl ?_
    refine o_move (AV.row 3) Gd.none rfl ?_
    refine o_build [(bp (i < 0)), (AV.row 3)] [(0, [(bp (i < 0))]), (1, [(AV.row 3)])] Gd.none Wb_tP36 Wb_tO36 rfl rfl rfl ?_
    refine o_store [(2, (AO.var 36 [(bp (i < 0)), (AV.row 3)])), (3, (AO.row 3 1 (ns .i64 (r))))] Gd.none Wb_tZ36 rfl rfl rfl rfl rfl rfl ?_
    refine aops_end ?_
    refine hK8 _ ?_
    refine awp_wk (σ' := ⟨[(2, (AV.ref 2 (0)))], [(2, (AO.var 36 [(bp (i < 0)), (AV.row 3)])), (3, (AO.row 3 1 (ns .i64 (r))))]⟩) (Wk.sub (And.intro rfl (trivial)) (And.intro rfl (And.intro rfl (trivial)))) ?_
    refine awp_wk (σ' := ⟨[(2, (AV.ref 2 (0)))], [(2, (AO.var 36 [(bp (i < 0)), (AV.sl 1 (ns .i64 (r)))]))]⟩) (Wk.freeze (id := 3) (e := 3) (sz := 1) (cs := (ns .i64 (r))) rfl) ?_
    refine awp_ret ?_
    refine post_ret ⟨[(AV.agg [(bp (i < 0)), (AV.sl 1 (ns .i64 (r)))])], And.intro ⟨2, (AO.var 36 [(bp (i < 0)), (AV.sl 1 (ns .i64 (r)))]), rfl, rfl, rfl, Or.inl ⟨Wb_tA36, AV.le_refl _⟩⟩ (trivial), rfl, ?_⟩
    refine (intK_eq (k := .i64) (bp_congr (by omega)) (of_end hr (by assumption))).symm

theorem c_wOf (i : Int) (h0 : -4611686018427387904 ≤ i) (h1' : i ≤ 4611686018427387904) : ECalls cx 59 [(AV.lit (.int .i64 (i)))] (intW (i)) := by
  refine ecalls_of_awp Tryd.func59 (c := _) rfl (Nat.le_of_ble_eq_true rfl) ?_
  show awp cx 25 _ (postF cx Tryd.f59 _) ⟨[(0, (AV.lit (.int .i64 (i))))], []⟩
  refine awp_seq fun K0 hK0 => ?_
  refine awp_region rfl ?_
  refine o_alloc 2 [(AV.lit (.bool false)), (AV.lit (.slice none 0 0))] Gd.none Wb_tO79 rfl rfl rfl ?_
  refine aops_end ?_
  refine hK0 _ ?_
  refine awp_seq fun K1 hK1 => ?_
  refine awp_region rfl ?_
  refine o_assign (AV.lit (.slice none 0 0)) Gd.none rfl ?_
  refine aops_end ?_
  refine hK1 _ ?_
  refine awp_seq fun K2 hK2 => ?_
  refine awp_region rfl ?_
  refine o_move (AV.lit (.int .i64 (i))) Gd.none rfl ?_
  refine o_convW (a := i) Gd.none rfl Wb_tI3 Wb_tI110 ?_
  refine o_assign (AV.lit (.int .u64 (IntKind.wrap .u64 (i)))) Gd.none rfl ?_
  refine aops_end ?_
  refine hK2 _ ?_
  refine awp_seqJ (J := fun σ => True ∧ σ = ⟨[(0, (AV.lit (.int .i64 (i)))), (4, (nm .u64 (i.natAbs))), (3, (AV.lit (.slice none 0 0))), (2, (AV.ref 2 (0)))], [(2, (AO.var 79 [(AV.lit (.bool false)), (AV.lit (.slice none 0 0))]))]⟩) ?ja0 ?jb0
  case ja0 =>
    refine awp_seq fun K3 hK3 => ?_
    refine awp_region rfl ?_
    refine o_move (AV.lit (.int .i64 (i))) Gd.none rfl ?_
    refine o_lss (a := (i)) (c := (((0 : Nat) : Int))) Gd.none rfl rfl ?_
    refine aops_end ?_
    refine hK3 _ ?_
    refine awp_condQ (q := (i) < (((0 : Nat) : Int))) rfl (fun h1 => ?_) (fun h1 => ?_)
    · refine awp_region rfl ?_
      refine o_move (AV.lit (.int .u64 (IntKind.wrap .u64 (i)))) Gd.none rfl ?_
      refine o_negW (a := IntKind.wrap .u64 (i)) Gd.none rfl ?_
      refine o_assign (AV.lit (.int .u64 (IntKind.wrap .u64 (-(IntKind.wrap .u64 (i)))))) Gd.none rfl ?_
      refine aops_end ?_
      exact ⟨_, ⟨trivial, rfl⟩, Wk.sub (And.intro (by exact rfl) (And.intro (by first | rfl | exact congrArg (nm _) (by omega) | exact nm_int (by omega) | exact nm_int (by simp [IntKind.wrap, IntKind.bits, IntKind.signed]; omega)) (And.intro (by exact rfl) (And.intro (by exact rfl) (trivial))))) (And.intro (by first | rfl | exact row_ns (by simp) | exact congrArg (fun x => some (AO.blk (.stringIter _ x))) (by omega)) (trivial))⟩
    · refine awp_skip ?_
      exact ⟨_, ⟨trivial, rfl⟩, Wk.sub (And.intro (by exact rfl) (And.intro (by first | rfl | exact congrArg (nm _) (by omega) | exact nm_int (by omega) | exact nm_int (by simp [IntKind.wrap, IntKind.bits, IntKind.signed]; omega)) (And.intro (by exact rfl) (And.intro (by exact rfl) (trivial))))) (And.intro (by first | rfl | exact row_ns (by simp) | exact congrArg (fun x => some (AO.blk (.stringIter _ x))) (by omega)) (trivial))⟩
  rintro _ ⟨-, rfl⟩
  refine awp_seq fun K4 hK4 => ?_
  refine awp_block ?_
  refine awp_loopR (fun κ σ => ∃ (x : Nat), ∃ (r : List Nat), (x ≤ 4611686018427387904) ∧ (r ++ digs x = digs i.natAbs) ∧ (x) = κ ∧ σ = ⟨[(2, (AV.ref 2 (0))), (3, (AV.row 3)), (4, (nm .u64 (x))), (0, (AV.lit (.int .i64 (i))))], [(2, (AO.var 79 [(AV.lit (.bool false)), (AV.lit (.slice none 0 0))])), (3, (AO.row 115 1 (ns .u32 (r))))]⟩) ⟨_, _, ⟨i.natAbs, [], (by omega), rfl, rfl, rfl⟩, ?wk1⟩ ?rd1
  case wk1 =>
    exact Wk.trans (Wk.newNil (i := 3) (id := 601) (e := 115) (sz := 1) rfl rfl (by decide)) (Wk.trans (Wk.sub (σ' := ⟨[(2, (AV.ref 2 (0))), (3, (AV.row 601)), (4, (nm .u64 (i.natAbs))), (0, (AV.lit (.int .i64 (i))))], [(2, (AO.var 79 [(AV.lit (.bool false)), (AV.lit (.slice none 0 0))])), (601, (AO.row 115 1 (ns .u32 ([]))))]⟩) (And.intro rfl (And.intro rfl (And.intro rfl (And.intro rfl (trivial))))) (And.intro rfl (And.intro rfl (trivial)))) (Wk.trans (Wk.ren (id := 601) (id' := 3) rfl) (Wk.sub (And.intro (by exact rfl) (And.intro (by first | rfl | (simp)) (And.intro (by first | rfl | exact congrArg (nm _) (by omega) | exact nm_int (by omega) | exact nm_int (by simp [IntKind.wrap, IntKind.bits, IntKind.signed]; omega)) (And.intro (by exact rfl) (trivial))))) (And.intro (by first | rfl | exact row_ns (by simp) | exact congrArg (fun x => some (AO.blk (.stringIter _ x))) (by omega)) (And.intro (by first | rfl | exact row_ns (by simp) | exact congrArg (fun x => some (AO.blk (.stringIter _ x))) (by omega)) (trivial))))))
  rintro κ _ ⟨x, r, hx, hr, rfl, rfl⟩
  have hlen := fun h => of_len hr h (by omega)
  refine awp_seq fun K5 hK5 => ?_
  refine awp_seq fun K6 hK6 => ?_
  refine awp_region rfl ?_
  refine o_move (nm .u64 (x)) Gd.none rfl ?_
  refine n_gtr (x) (0) Gd.none rfl rfl ?_
  refine aops_end ?_
  refine hK6 _ ?_
  refine awp_condQ (q := (0) < (x)) rfl (fun h2 => ?_) (fun h2 => ?_)
  · refine awp_skip ?_
    refine hK5 _ ?_
    refine awp_seq fun K7 hK7 => ?_
    refine awp_block ?_
    refine awp_region rfl ?_
    refine o_move (AV.row 3) Gd.none rfl ?_
    refine o_move (nm .u64 (x)) Gd.none rfl ?_
    refine n_rem (x) (1000000000) Gd.none rfl rfl (by omega) ?_
    refine n_conv ((x) % (1000000000)) Gd.none rfl Wb_tI110 Wb_tI115 (by simp only [topOf]; omega) ?_
    refine o_buildSlice 201 (ns .u32 ([(x) % (1000000000)])) [(0, [(nm .u32 ((x) % (1000000000)))])] Gd.none Wb_tE77 rfl Wb_tO115 rfl rfl rfl rfl rfl rfl rfl ?_
    refine n_append 202 (r) ([(x) % (1000000000)]) [(201, (AO.row 115 1 (ns .u32 ([(x) % (1000000000)])))), (2, (AO.var 79 [(AV.lit (.bool false)), (AV.lit (.slice none 0 0))]))] Gd.none Wb_tE77 Wb_tO115 rfl rfl rfl rfl rfl (by have hl' := hlen (by assumption); simp only [List.length_append, List.length_cons, List.length_nil]; omega) (by decide) rfl rfl ?_
    refine o_assign (AV.row 202) Gd.none rfl ?_
    refine aops_end ?_
    refine hK7 _ ?_
    refine awp_region rfl ?_
    refine o_move (nm .u64 (x)) Gd.none rfl ?_
    refine n_quo (x) (1000000000) Gd.none rfl rfl (by omega) (by simp only [topOf]; omega) ?_
    refine o_assign (nm .u64 ((x) / (1000000000))) Gd.none rfl ?_
    refine aops_end ?_
    refine ⟨_, _, ?lt, ⟨(x) / (1000000000), (r) ++ ([(x) % (1000000000)]), (by omega), (of_step hr (by assumption)), rfl, rfl⟩, ?wk⟩
    case lt => omega
    case wk => exact Wk.trans (Wk.sub (σ' := ⟨[(2, (AV.ref 2 (0))), (3, (AV.row 202)), (4, (nm .u64 ((x) / (1000000000)))), (0, (AV.lit (.int .i64 (i))))], [(2, (AO.var 79 [(AV.lit (.bool false)), (AV.lit (.slice none 0 0))])), (202, (AO.row 115 1 (ns .u32 ((r) ++ ([(x) % (1000000000)])))))]⟩) (And.intro rfl (And.intro rfl (And.intro rfl (And.intro rfl (trivial))))) (And.intro rfl (And.intro rfl (trivial)))) (Wk.trans (Wk.ren (id := 202) (id' := 3) rfl) (Wk.sub (And.intro (by exact rfl) (And.intro (by first | rfl | (simp)) (And.intro (by first | rfl | exact congrArg (nm _) (by omega) | exact nm_int (by omega) | exact nm_int (by simp [IntKind.wrap, IntKind.bits, IntKind.signed]; omega)) (And.intro (by exact rfl) (trivial))))) (And.intro (by first | rfl | exact row_ns (by simp) | exact congrArg (fun x => some (AO.blk (.stringIter _ x))) (by omega)) (And.intro (by first | rfl | exact row_ns (by simp) | exact congrArg (fun x => some (AO.blk (.stringIter _ x))) (by omega)) (trivial)))))
  · refine awp_exit ?_
    refine hK4 _ ?_
    refine awp_seq fun K8 hK8 => ?_
    refine awp_region rfl ?_
    refine o_move (AV.lit (.int .i64 (i))) Gd.none rfl ?_
    refine o_lss (a := (i)) (c := (((0 : Nat) : Int))) Gd.none rfl rfl ?_
    refine o_move (AV.row 3) Gd.none rfl ?_
    refine o_build [(bp ((i) < (((0 : Nat) : Int)))), (AV.row 3)] [(0, [(bp ((i) < (((0 : Nat) : Int))))]), (1, [(AV.row 3)])] Gd.none Wb_tP79 Wb_tO79 rfl rfl rfl ?_
    refine o_store [(2, (AO.var 79 [(bp ((i) < (((0 : Nat) : Int)))), (AV.row 3)])), (3, (AO.row 115 1 (ns .u32 (r))))] Gd.none Wb_tZ79 rfl rfl rfl rfl rfl rfl ?_
    refine aops_end ?_
    refine hK8 _ ?_
    refine awp_wk (σ' := ⟨[(2, (AV.ref 2 (0)))], [(2, (AO.var 79 [(bp ((i) < (((0 : Nat) : Int)))), (AV.row 3)])), (3, (AO.row 115 1 (ns .u32 (r))))]⟩) (Wk.sub (And.intro rfl (trivial)) (And.intro rfl (And.intro rfl (trivial)))) ?_
    refine awp_wk (σ' := ⟨[(2, (AV.ref 2 (0)))], [(2, (AO.var 79 [(bp ((i) < (((0 : Nat) : Int)))), (AV.sl 1 (ns .u32 (r)))]))]⟩) (Wk.freeze (id := 3) (e := 115) (sz := 1) (cs := (ns .u32 (r))) rfl) ?_
    refine awp_ret ?_
    refine post_ret ⟨[(AV.agg [(bp ((i) < (((0 : Nat) : Int)))), (AV.sl 1 (ns .u32 (r)))])], And.intro ⟨2, (AO.var 79 [(bp ((i) < (((0 : Nat) : Int)))), (AV.sl 1 (ns .u32 (r)))]), rfl, rfl, rfl, Or.inl ⟨Wb_tA79, AV.le_refl _⟩⟩ (trivial), rfl, ?_⟩
    refine (intK_eq (k := .u32) (bp_congr (by omega)) (of_end hr (by assumption))).symm

theorem c_rMul (x y : Int) (hx : (digs x.natAbs).length ≤ 1000000000) (hy : (digs y.natAbs).length ≤ 1000000000) : ECalls cx 37 [(intR (x)), (intR (y))] (intR (x * y)) := by
  refine ecalls_of_awp Tryd.func37 (c := _) rfl (Nat.le_of_ble_eq_true rfl) ?_
  show awp cx 72 _ (postF cx Tryd.f37 _) ⟨[(0, (intR (x))), (1, (intR (y)))], []⟩
  refine awp_seq fun K0 hK0 => ?_
  refine awp_region rfl ?_
  refine o_box 2 [(bp (x < 0)), (AV.sl 1 (ns .i64 (digs (x).natAbs)))] Gd.none rfl rfl ?_
  refine o_box 3 [(bp (y < 0)), (AV.sl 1 (ns .i64 (digs (y).natAbs)))] Gd.none rfl rfl ?_
  refine o_alloc 4 [(AV.lit (.bool false)), (AV.lit (.slice none 0 0))] Gd.none Wb_tO36 rfl rfl rfl ?_
  refine aops_end ?_
  refine hK0 _ ?_
  refine awp_seq fun K1 hK1 => ?_
  refine awp_region rfl ?_
  refine o_fieldRef 1 Gd.none Wb_tF36_1 rfl rfl ?_
  refine o_loadS (AV.sl 1 (ns .i64 (digs (x).natAbs))) Gd.none Wb_tS22 rfl rfl rfl ?_
  refine n_len (digs (x).natAbs) Gd.none Wb_tU22 rfl ?_
  refine o_fieldRef 1 Gd.none Wb_tF36_1 rfl rfl ?_
  refine o_loadS (AV.sl 1 (ns .i64 (digs (y).natAbs))) Gd.none Wb_tS22 rfl rfl rfl ?_
  refine n_len (digs (y).natAbs) Gd.none Wb_tU22 rfl ?_
  refine n_add ((digs (x).natAbs).length) ((digs (y).natAbs).length) Gd.none rfl rfl (by simp only [topOf]; omega) ?_
  refine n_add (((digs (x).natAbs).length) + ((digs (y).natAbs).length)) (1) Gd.none rfl rfl (by simp only [topOf]; omega) ?_
  refine n_make 5 ((((digs (x).natAbs).length) + ((digs (y).natAbs).length)) + (1)) Gd.none Wb_tE22 Wb_tO3 rfl rfl (by omega) rfl rfl ?_
  refine o_assign (AV.row 5) Gd.none rfl ?_
  refine aops_end ?_
  refine hK1 _ ?_
  refine awp_seq fun K2 hK2 => ?_
  refine awp_seq fun K3 hK3 => ?_
  refine awp_region rfl ?_
  refine o_assign (nm .i64 (0)) Gd.none rfl ?_
  refine aops_end ?_
  refine hK3 _ ?_
  refine awp_block ?_
  refine awp_loopR (fun κ σ => ∃ (i : Nat), ∃ (o : List Nat), (o.length = (digs x.natAbs).length + (digs y.natAbs).length + 1) ∧ (Dig o) ∧ (i ≤ (digs x.natAbs).length) ∧ (val o = val ((digs x.natAbs).take i) * y.natAbs) ∧ ((digs x.natAbs).length - i) = κ ∧ σ = ⟨[(2, (AV.ref 2 (0))), (3, (AV.ref 3 (0))), (4, (AV.ref 4 (0))), (5, (AV.row 5)), (6, (nm .i64 (i)))], [(2, (AO.var 36 [(bp (x < 0)), (AV.sl 1 (ns .i64 (digs (x).natAbs)))])), (3, (AO.var 36 [(bp (y < 0)), (AV.sl 1 (ns .i64 (digs (y).natAbs)))])), (4, (AO.var 36 [(AV.lit (.bool false)), (AV.lit (.slice none 0 0))])), (5, (AO.row 3 1 (ns .i64 (o))))]⟩) ⟨_, _, ⟨0, List.replicate ((digs x.natAbs).length + (digs y.natAbs).length + 1) 0, (by simp), (Dig.repl _), (by omega), (by rw [val_repl]; simp [val]), rfl, rfl⟩, ?wk0⟩ ?rd0
  case wk0 =>
    exact Wk.sub (And.intro (by exact rfl) (And.intro (by exact rfl) (And.intro (by exact rfl) (And.intro (by exact rfl) (And.intro (by first | rfl | exact congrArg (nm _) (by omega) | exact nm_int (by omega) | exact nm_int (by simp [IntKind.wrap, IntKind.bits, IntKind.signed]; omega)) (trivial)))))) (And.intro (by first | rfl | exact row_ns (by simp) | exact congrArg (fun x => some (AO.blk (.stringIter _ x))) (by omega)) (And.intro (by first | rfl | exact row_ns (by simp) | exact congrArg (fun x => some (AO.blk (.stringIter _ x))) (by omega)) (And.intro (by first | rfl | exact row_ns (by simp) | exact congrArg (fun x => some (AO.blk (.stringIter _ x))) (by omega)) (And.intro (by first | rfl | exact row_ns (by simp) | exact congrArg (fun x => some (AO.blk (.stringIter _ x))) (by omega)) (trivial)))))
  rintro κ _ ⟨i, o, hl, hd, hi, hv, rfl, rfl⟩
  refine awp_seq fun K4 hK4 => ?_
  refine awp_seq fun K5 hK5 => ?_
  refine awp_region rfl ?_
  refine o_move (nm .i64 (i)) Gd.none rfl ?_
  refine o_fieldRef 1 Gd.none Wb_tF36_1 rfl rfl ?_
  refine o_loadS (AV.sl 1 (ns .i64 (digs (x).natAbs))) Gd.none Wb_tS22 rfl rfl rfl ?_
  refine n_len (digs (x).natAbs) Gd.none Wb_tU22 rfl ?_
  refine n_lss (i) ((digs (x).natAbs).length) Gd.none rfl rfl ?_
  refine aops_end ?_
  refine hK5 _ ?_
  refine awp_condQ (q := (i) < ((digs (x).natAbs).length)) rfl (fun h1 => ?_) (fun h1 => ?_)
  · refine awp_skip ?_
    refine hK4 _ ?_
    refine awp_seq fun K6 hK6 => ?_
    refine awp_block ?_
    refine awp_seq fun K7 hK7 => ?_
    refine awp_region rfl ?_
    refine o_assign (nm .i64 (0)) Gd.none rfl ?_
    refine aops_end ?_
    refine hK7 _ ?_
    refine awp_seq fun K8 hK8 => ?_
    refine awp_region rfl ?_
    refine o_assign (nm .i64 (0)) Gd.none rfl ?_
    refine aops_end ?_
    refine hK8 _ ?_
    refine awp_block ?_
    refine awp_loopR (fun κ σ => ∃ (k : Nat), ∃ (c : Nat), ∃ (o : List Nat), (o.length = (digs x.natAbs).length + (digs y.natAbs).length + 1) ∧ (Dig o) ∧ (k ≤ (digs y.natAbs).length + 1) ∧ (c < 1000000000) ∧ (val o + 1000000000 ^ (i + k) * c = val ((digs x.natAbs).take i) * y.natAbs + 1000000000 ^ i * ((digs x.natAbs).getD i 0 * val ((digs y.natAbs).take k))) ∧ ((digs y.natAbs).length + 2 - k) = κ ∧ σ = ⟨[(2, (AV.ref 2 (0))), (3, (AV.ref 3 (0))), (4, (AV.ref 4 (0))), (5, (AV.row 5)), (6, (nm .i64 (i))), (7, (nm .i64 (c))), (8, (nm .i64 (k)))], [(2, (AO.var 36 [(bp (x < 0)), (AV.sl 1 (ns .i64 (digs (x).natAbs)))])), (3, (AO.var 36 [(bp (y < 0)), (AV.sl 1 (ns .i64 (digs (y).natAbs)))])), (4, (AO.var 36 [(AV.lit (.bool false)), (AV.lit (.slice none 0 0))])), (5, (AO.row 3 1 (ns .i64 (o))))]⟩) ⟨_, _, ⟨0, 0, _, hl, hd, (by omega), (by omega), (by simp only [Nat.mul_zero, Nat.add_zero, hv, List.take_zero, val]), rfl, rfl⟩, ?wk1⟩ ?rd1
    case wk1 =>
      exact Wk.sub (And.intro (by exact rfl) (And.intro (by exact rfl) (And.intro (by exact rfl) (And.intro (by exact rfl) (And.intro (by exact rfl) (And.intro (by first | rfl | exact congrArg (nm _) (by omega) | exact nm_int (by omega) | exact nm_int (by simp [IntKind.wrap, IntKind.bits, IntKind.signed]; omega)) (And.intro (by first | rfl | exact congrArg (nm _) (by omega) | exact nm_int (by omega) | exact nm_int (by simp [IntKind.wrap, IntKind.bits, IntKind.signed]; omega)) (trivial)))))))) (And.intro (by first | rfl | exact row_ns (by simp) | exact congrArg (fun x => some (AO.blk (.stringIter _ x))) (by omega)) (And.intro (by first | rfl | exact row_ns (by simp) | exact congrArg (fun x => some (AO.blk (.stringIter _ x))) (by omega)) (And.intro (by first | rfl | exact row_ns (by simp) | exact congrArg (fun x => some (AO.blk (.stringIter _ x))) (by omega)) (And.intro (by first | rfl | exact row_ns (by simp) | exact congrArg (fun x => some (AO.blk (.stringIter _ x))) (by omega)) (trivial)))))
    rintro κ _ ⟨k, c, o, hl2, hd2, hk, hc, hv2, rfl, rfl⟩
    have hA := (digs_dig x.natAbs).mulb (digs_dig y.natAbs) i k
    have hO := hd2.getD (i + k)
    have hkc := mul_k hv2
    refine awp_seq fun K9 hK9 => ?_
    refine awp_seq fun K10 hK10 => ?_
    refine awp_region rfl ?_
    refine o_move (nm .i64 (k)) Gd.none rfl ?_
    refine o_fieldRef 1 Gd.none Wb_tF36_1 rfl rfl ?_
    refine o_loadS (AV.sl 1 (ns .i64 (digs (y).natAbs))) Gd.none Wb_tS22 rfl rfl rfl ?_
    refine n_len (digs (y).natAbs) Gd.none Wb_tU22 rfl ?_
    refine n_lss (k) ((digs (y).natAbs).length) Gd.none rfl rfl ?_
    refine o_move (bp ((k) < ((digs (y).natAbs).length))) Gd.none rfl ?_
    refine o_splitP (q := (k) < ((digs (y).natAbs).length)) 31 rfl (fun h2 => ?_) (fun h2 => ?_)
    · refine o_skip (b := decide ((k) < ((digs (y).natAbs).length))) rfl rfl (decide_eq_true h2) ?_
      refine o_skip (b := decide ((k) < ((digs (y).natAbs).length))) rfl rfl (decide_eq_true h2) ?_
      refine o_pickT (b := decide ((k) < ((digs (y).natAbs).length))) (AV.lit (.bool true)) Gd.none rfl (decide_eq_true h2) rfl ?_
      refine aops_end ?_
      refine hK10 _ ?_
      refine awp_condB (b := true) rfl (fun _ => ?_) (fun hh => absurd (hh.symm.trans rfl) (by decide))
      refine awp_skip ?_
      refine hK9 _ ?_
      refine awp_seq fun K11 hK11 => ?_
      refine awp_block ?_
      refine awp_seq fun K12 hK12 => ?_
      refine awp_regionD rfl ?_
      refine o_move (AV.row 5) Gd.none rfl ?_
      refine o_move (nm .i64 (i)) Gd.none rfl ?_
      refine o_move (nm .i64 (k)) Gd.none rfl ?_
      refine n_add (i) (k) Gd.none rfl rfl (by simp only [topOf]; omega) ?_
      refine n_indexRow (o) ((i) + (k)) Gd.none Wb_tE22 rfl rfl rfl (by first | omega | (have := hkc (by assumption); omega)) ?_
      refine n_loadRow (o) ((i) + (k)) Gd.none Wb_tS3 rfl rfl (by first | omega | (have := hkc (by assumption); omega)) ?_
      refine o_fieldRef 1 Gd.none Wb_tF36_1 rfl rfl ?_
      refine o_loadS (AV.sl 1 (ns .i64 (digs (x).natAbs))) Gd.none Wb_tS22 rfl rfl rfl ?_
      refine o_move (nm .i64 (i)) Gd.none rfl ?_
      refine n_index (digs (x).natAbs) (i) Gd.none Wb_tE22 rfl rfl (by omega) ?_
      refine n_loadI (digs (x).natAbs) (i) Gd.none Wb_tS3 rfl (by omega) ?_
      refine o_fieldRef 1 Gd.none Wb_tF36_1 rfl rfl ?_
      refine o_loadS (AV.sl 1 (ns .i64 (digs (y).natAbs))) Gd.none Wb_tS22 rfl rfl rfl ?_
      refine o_move (nm .i64 (k)) Gd.none rfl ?_
      refine o_call [(AV.sl 1 (ns .i64 (digs (y).natAbs))), (nm .i64 (k))] (nm .i64 ((digs (y).natAbs).getD (k) 0)) Gd.none Wb_tC75 rfl (c_rPart (digs (y).natAbs) (k)) ?_
      refine n_mul ((digs (x).natAbs).getD (i) 0) ((digs (y).natAbs).getD (k) 0) Gd.none rfl rfl (by simp only [topOf]; omega) ?_
      refine n_add ((o).getD ((i) + (k)) 0) (((digs (x).natAbs).getD (i) 0) * ((digs (y).natAbs).getD (k) 0)) Gd.none rfl rfl (by simp only [topOf]; omega) ?_
      refine o_move (nm .i64 (c)) Gd.none rfl ?_
      refine n_add (((o).getD ((i) + (k)) 0) + (((digs (x).natAbs).getD (i) 0) * ((digs (y).natAbs).getD (k) 0))) (c) Gd.none rfl rfl (by simp only [topOf]; omega) ?_
      refine o_assign (nm .i64 ((((o).getD ((i) + (k)) 0) + (((digs (x).natAbs).getD (i) 0) * ((digs (y).natAbs).getD (k) 0))) + (c))) Gd.none rfl ?_
      refine aops_end ⟨by kernel_rfl, ?_⟩
      refine hK12 _ ?_
      refine awp_seq fun K13 hK13 => ?_
      refine awp_region rfl ?_
      refine o_move (AV.row 5) Gd.none rfl ?_
      refine o_move (nm .i64 (i)) Gd.none rfl ?_
      refine o_move (nm .i64 (k)) Gd.none rfl ?_
      refine n_add (i) (k) Gd.none rfl rfl (by simp only [topOf]; omega) ?_
      refine o_move (nm .i64 ((((o).getD ((i) + (k)) 0) + (((digs (x).natAbs).getD (i) 0) * ((digs (y).natAbs).getD (k) 0))) + (c))) Gd.none rfl ?_
      refine n_rem ((((o).getD ((i) + (k)) 0) + (((digs (x).natAbs).getD (i) 0) * ((digs (y).natAbs).getD (k) 0))) + (c)) (1000000000) Gd.none rfl rfl (by omega) ?_
      refine n_indexRow (o) ((i) + (k)) Gd.none Wb_tE22 rfl rfl rfl (by first | omega | (have := hkc (by assumption); omega)) ?_
      refine n_storeRow (o) ((i) + (k)) (((((o).getD ((i) + (k)) 0) + (((digs (x).natAbs).getD (i) 0) * ((digs (y).natAbs).getD (k) 0))) + (c)) % (1000000000)) [(2, (AO.var 36 [(bp (x < 0)), (AV.sl 1 (ns .i64 (digs (x).natAbs)))])), (3, (AO.var 36 [(bp (y < 0)), (AV.sl 1 (ns .i64 (digs (y).natAbs)))])), (4, (AO.var 36 [(AV.lit (.bool false)), (AV.lit (.slice none 0 0))])), (5, (AO.row 3 1 (ns .i64 ((o).set ((i) + (k)) (((((o).getD ((i) + (k)) 0) + (((digs (x).natAbs).getD (i) 0) * ((digs (y).natAbs).getD (k) 0))) + (c)) % (1000000000))))))] Gd.none Wb_tZ3 rfl rfl rfl (by first | omega | (have := hkc (by assumption); omega)) rfl ?_
      refine aops_end ?_
      refine hK13 _ ?_
      refine awp_region rfl ?_
      refine o_move (nm .i64 ((((o).getD ((i) + (k)) 0) + (((digs (x).natAbs).getD (i) 0) * ((digs (y).natAbs).getD (k) 0))) + (c))) Gd.none rfl ?_
      refine n_quo ((((o).getD ((i) + (k)) 0) + (((digs (x).natAbs).getD (i) 0) * ((digs (y).natAbs).getD (k) 0))) + (c)) (1000000000) Gd.none rfl rfl (by omega) (by simp only [topOf]; omega) ?_
      refine o_assign (nm .i64 (((((o).getD ((i) + (k)) 0) + (((digs (x).natAbs).getD (i) 0) * ((digs (y).natAbs).getD (k) 0))) + (c)) / (1000000000))) Gd.none rfl ?_
      refine aops_end ?_
      refine hK11 _ ?_
      refine awp_region rfl ?_
      refine o_move (nm .i64 (k)) Gd.none rfl ?_
      refine n_add (k) (1) Gd.none rfl rfl (by simp only [topOf]; omega) ?_
      refine o_assign (nm .i64 ((k) + (1))) Gd.none rfl ?_
      refine aops_end ?_
      refine ⟨_, _, ?lt, ⟨k + 1, ((((o).getD ((i) + (k)) 0) + (((digs (x).natAbs).getD (i) 0) * ((digs (y).natAbs).getD (k) 0))) + (c)) / (1000000000), (o).set ((i) + (k)) (((((o).getD ((i) + (k)) 0) + (((digs (x).natAbs).getD (i) 0) * ((digs (y).natAbs).getD (k) 0))) + (c)) % (1000000000)), (by simp only [List.length_set]; exact hl2), (hd2.set (Nat.mod_lt _ (by decide))), (by omega), (by omega), (mul_step (by omega) hv2 rfl), rfl, rfl⟩, ?wk⟩
      case lt => omega
      case wk => exact Wk.sub (And.intro (by exact rfl) (And.intro (by exact rfl) (And.intro (by exact rfl) (And.intro (by exact rfl) (And.intro (by exact rfl) (And.intro (by first | rfl | exact congrArg (nm _) (by omega) | exact nm_int (by omega) | exact nm_int (by simp [IntKind.wrap, IntKind.bits, IntKind.signed]; omega)) (And.intro (by first | rfl | exact congrArg (nm _) (by omega) | exact nm_int (by omega) | exact nm_int (by simp [IntKind.wrap, IntKind.bits, IntKind.signed]; omega)) (trivial)))))))) (And.intro (by first | rfl | exact row_ns (by simp) | exact congrArg (fun x => some (AO.blk (.stringIter _ x))) (by omega)) (And.intro (by first | rfl | exact row_ns (by simp) | exact congrArg (fun x => some (AO.blk (.stringIter _ x))) (by omega)) (And.intro (by first | rfl | exact row_ns (by simp) | exact congrArg (fun x => some (AO.blk (.stringIter _ x))) (by omega)) (And.intro (by first | rfl | exact row_ns (by simp) | exact congrArg (fun x => some (AO.blk (.stringIter _ x))) (by omega)) (trivial)))))
    · refine o_move (nm .i64 (c)) (Gd.yes rfl rfl (decide_eq_false h2)) rfl ?_
      refine n_gtr (c) (0) (Gd.yes rfl rfl (decide_eq_false h2)) rfl rfl ?_
      refine o_pickF (b := decide ((k) < ((digs (y).natAbs).length))) (bp ((0) < (c))) Gd.none rfl (decide_eq_false h2) rfl ?_
      refine aops_end ?_
      refine hK10 _ ?_
      refine awp_condQ (q := (0) < (c)) rfl (fun h3 => ?_) (fun h3 => ?_)
      · refine awp_skip ?_
        refine hK9 _ ?_
        refine awp_seq fun K14 hK14 => ?_
        refine awp_block ?_
        refine awp_seq fun K15 hK15 => ?_
        refine awp_regionD rfl ?_
        refine o_move (AV.row 5) Gd.none rfl ?_
        refine o_move (nm .i64 (i)) Gd.none rfl ?_
        refine o_move (nm .i64 (k)) Gd.none rfl ?_
        refine n_add (i) (k) Gd.none rfl rfl (by simp only [topOf]; omega) ?_
        refine n_indexRow (o) ((i) + (k)) Gd.none Wb_tE22 rfl rfl rfl (by first | omega | (have := hkc (by assumption); omega)) ?_
        refine n_loadRow (o) ((i) + (k)) Gd.none Wb_tS3 rfl rfl (by first | omega | (have := hkc (by assumption); omega)) ?_
        refine o_fieldRef 1 Gd.none Wb_tF36_1 rfl rfl ?_
        refine o_loadS (AV.sl 1 (ns .i64 (digs (x).natAbs))) Gd.none Wb_tS22 rfl rfl rfl ?_
        refine o_move (nm .i64 (i)) Gd.none rfl ?_
        refine n_index (digs (x).natAbs) (i) Gd.none Wb_tE22 rfl rfl (by omega) ?_
        refine n_loadI (digs (x).natAbs) (i) Gd.none Wb_tS3 rfl (by omega) ?_
        refine o_fieldRef 1 Gd.none Wb_tF36_1 rfl rfl ?_
        refine o_loadS (AV.sl 1 (ns .i64 (digs (y).natAbs))) Gd.none Wb_tS22 rfl rfl rfl ?_
        refine o_move (nm .i64 (k)) Gd.none rfl ?_
        refine o_call [(AV.sl 1 (ns .i64 (digs (y).natAbs))), (nm .i64 (k))] (nm .i64 ((digs (y).natAbs).getD (k) 0)) Gd.none Wb_tC75 rfl (c_rPart (digs (y).natAbs) (k)) ?_
        refine n_mul ((digs (x).natAbs).getD (i) 0) ((digs (y).natAbs).getD (k) 0) Gd.none rfl rfl (by simp only [topOf]; omega) ?_
        refine n_add ((o).getD ((i) + (k)) 0) (((digs (x).natAbs).getD (i) 0) * ((digs (y).natAbs).getD (k) 0)) Gd.none rfl rfl (by simp only [topOf]; omega) ?_
        refine o_move (nm .i64 (c)) Gd.none rfl ?_
        refine n_add (((o).getD ((i) + (k)) 0) + (((digs (x).natAbs).getD (i) 0) * ((digs (y).natAbs).getD (k) 0))) (c) Gd.none rfl rfl (by simp only [topOf]; omega) ?_
        refine o_assign (nm .i64 ((((o).getD ((i) + (k)) 0) + (((digs (x).natAbs).getD (i) 0) * ((digs (y).natAbs).getD (k) 0))) + (c))) Gd.none rfl ?_
        refine aops_end ⟨by kernel_rfl, ?_⟩
        refine hK15 _ ?_
        refine awp_seq fun K16 hK16 => ?_
        refine awp_region rfl ?_
        refine o_move (AV.row 5) Gd.none rfl ?_
        refine o_move (nm .i64 (i)) Gd.none rfl ?_
        refine o_move (nm .i64 (k)) Gd.none rfl ?_
        refine n_add (i) (k) Gd.none rfl rfl (by simp only [topOf]; omega) ?_
        refine o_move (nm .i64 ((((o).getD ((i) + (k)) 0) + (((digs (x).natAbs).getD (i) 0) * ((digs (y).natAbs).getD (k) 0))) + (c))) Gd.none rfl ?_
        refine n_rem ((((o).getD ((i) + (k)) 0) + (((digs (x).natAbs).getD (i) 0) * ((digs (y).natAbs).getD (k) 0))) + (c)) (1000000000) Gd.none rfl rfl (by omega) ?_
        refine n_indexRow (o) ((i) + (k)) Gd.none Wb_tE22 rfl rfl rfl (by first | omega | (have := hkc (by assumption); omega)) ?_
        refine n_storeRow (o) ((i) + (k)) (((((o).getD ((i) + (k)) 0) + (((digs (x).natAbs).getD (i) 0) * ((digs (y).natAbs).getD (k) 0))) + (c)) % (1000000000)) [(2, (AO.var 36 [(bp (x < 0)), (AV.sl 1 (ns .i64 (digs (x).natAbs)))])), (3, (AO.var 36 [(bp (y < 0)), (AV.sl 1 (ns .i64 (digs (y).natAbs)))])), (4, (AO.var 36 [(AV.lit (.bool false)), (AV.lit (.slice none 0 0))])), (5, (AO.row 3 1 (ns .i64 ((o).set ((i) + (k)) (((((o).getD ((i) + (k)) 0) + (((digs (x).natAbs).getD (i) 0) * ((digs (y).natAbs).getD (k) 0))) + (c)) % (1000000000))))))] Gd.none Wb_tZ3 rfl rfl rfl (by first | omega | (have := hkc (by assumption); omega)) rfl ?_
        refine aops_end ?_
        refine hK16 _ ?_
        refine awp_region rfl ?_
        refine o_move (nm .i64 ((((o).getD ((i) + (k)) 0) + (((digs (x).natAbs).getD (i) 0) * ((digs (y).natAbs).getD (k) 0))) + (c))) Gd.none rfl ?_
        refine n_quo ((((o).getD ((i) + (k)) 0) + (((digs (x).natAbs).getD (i) 0) * ((digs (y).natAbs).getD (k) 0))) + (c)) (1000000000) Gd.none rfl rfl (by omega) (by simp only [topOf]; omega) ?_
        refine o_assign (nm .i64 (((((o).getD ((i) + (k)) 0) + (((digs (x).natAbs).getD (i) 0) * ((digs (y).natAbs).getD (k) 0))) + (c)) / (1000000000))) Gd.none rfl ?_
        refine aops_end ?_
        refine hK14 _ ?_
        refine awp_region rfl ?_
        refine o_move (nm .i64 (k)) Gd.none rfl ?_
        refine n_add (k) (1) Gd.none rfl rfl (by simp only [topOf]; omega) ?_
        refine o_assign (nm .i64 ((k) + (1))) Gd.none rfl ?_
        refine aops_end ?_
        refine ⟨_, _, ?lt, ⟨k + 1, ((((o).getD ((i) + (k)) 0) + (((digs (x).natAbs).getD (i) 0) * ((digs (y).natAbs).getD (k) 0))) + (c)) / (1000000000), (o).set ((i) + (k)) (((((o).getD ((i) + (k)) 0) + (((digs (x).natAbs).getD (i) 0) * ((digs (y).natAbs).getD (k) 0))) + (c)) % (1000000000)), (by simp only [List.length_set]; exact hl2), (hd2.set (Nat.mod_lt _ (by decide))), (by have := hkc (by assumption); omega), (by omega), (mul_step (by have := hkc (by assumption); omega) hv2 rfl), rfl, rfl⟩, ?wk⟩
        case lt => omega
        case wk => exact Wk.sub (And.intro (by exact rfl) (And.intro (by exact rfl) (And.intro (by exact rfl) (And.intro (by exact rfl) (And.intro (by exact rfl) (And.intro (by first | rfl | exact congrArg (nm _) (by omega) | exact nm_int (by omega) | exact nm_int (by simp [IntKind.wrap, IntKind.bits, IntKind.signed]; omega)) (And.intro (by first | rfl | exact congrArg (nm _) (by omega) | exact nm_int (by omega) | exact nm_int (by simp [IntKind.wrap, IntKind.bits, IntKind.signed]; omega)) (trivial)))))))) (And.intro (by first | rfl | exact row_ns (by simp) | exact congrArg (fun x => some (AO.blk (.stringIter _ x))) (by omega)) (And.intro (by first | rfl | exact row_ns (by simp) | exact congrArg (fun x => some (AO.blk (.stringIter _ x))) (by omega)) (And.intro (by first | rfl | exact row_ns (by simp) | exact congrArg (fun x => some (AO.blk (.stringIter _ x))) (by omega)) (And.intro (by first | rfl | exact row_ns (by simp) | exact congrArg (fun x => some (AO.blk (.stringIter _ x))) (by omega)) (trivial)))))
      · refine awp_exit ?_
        refine hK6 _ ?_
        refine awp_region rfl ?_
        refine o_move (nm .i64 (i)) Gd.none rfl ?_
        refine n_add (i) (1) Gd.none rfl rfl (by simp only [topOf]; omega) ?_
        refine o_assign (nm .i64 ((i) + (1))) Gd.none rfl ?_
        refine aops_end ?_
        refine ⟨_, _, ?lt, ⟨i + 1, o, hl2, hd2, (by omega), (mul_end (k := k) (by omega) (by rw [show c = 0 by omega] at hv2; exact hv2)), rfl, rfl⟩, ?wk⟩
        case lt => omega
        case wk => exact Wk.sub (And.intro (by exact rfl) (And.intro (by exact rfl) (And.intro (by exact rfl) (And.intro (by exact rfl) (And.intro (by first | rfl | exact congrArg (nm _) (by omega) | exact nm_int (by omega) | exact nm_int (by simp [IntKind.wrap, IntKind.bits, IntKind.signed]; omega)) (trivial)))))) (And.intro (by first | rfl | exact row_ns (by simp) | exact congrArg (fun x => some (AO.blk (.stringIter _ x))) (by omega)) (And.intro (by first | rfl | exact row_ns (by simp) | exact congrArg (fun x => some (AO.blk (.stringIter _ x))) (by omega)) (And.intro (by first | rfl | exact row_ns (by simp) | exact congrArg (fun x => some (AO.blk (.stringIter _ x))) (by omega)) (And.intro (by first | rfl | exact row_ns (by simp) | exact congrArg (fun x => some (AO.blk (.stringIter _ x))) (by omega)) (trivial)))))
  · refine awp_exit ?_
    refine hK2 _ ?_
    refine awp_seq fun K17 hK17 => ?_
    refine awp_region rfl ?_
    refine o_fieldRef 0 Gd.none Wb_tF36_0 rfl rfl ?_
    refine o_loadS (bp (x < 0)) Gd.none Wb_tS4 rfl rfl rfl ?_
    refine o_fieldRef 0 Gd.none Wb_tF36_0 rfl rfl ?_
    refine o_loadS (bp (y < 0)) Gd.none Wb_tS4 rfl rfl rfl ?_
    refine o_neqB (a := (decide (x < 0))) (c := (decide (y < 0))) Gd.none rfl rfl Wb_tB4 ?_
    refine o_move (AV.row 5) Gd.none rfl ?_
    refine o_callG [(5, 1, (ns .i64 (o)))] [(bp ((decide (x < 0)) ≠ (decide (y < 0)))), (AV.sl 1 (ns .i64 (o)))] _ (intR ((sg (decide ((decide (x < 0)) ≠ (decide (y < 0)))) (val (o))))) [(2, (AO.var 36 [(bp (x < 0)), (AV.sl 1 (ns .i64 (digs (x).natAbs)))])), (3, (AO.var 36 [(bp (y < 0)), (AV.sl 1 (ns .i64 (digs (y).natAbs)))])), (4, (AO.var 36 [(AV.lit (.bool false)), (AV.lit (.slice none 0 0))]))] Gd.none Wb_tC54 rfl (And.intro ⟨_, rfl⟩ (trivial)) rfl rfl (LeL.cons (AV.le_refl _) (LeL.cons (AV.le_refl _) (LeL.nil))) (c_rTrim (decide ((decide (x < 0)) ≠ (decide (y < 0)))) (o) (by first | assumption | exact dgn_dig _ _ | exact digs_dig _ | exact Dig.snoc (by assumption) (by assumption) | exact Dig.cons (by omega) (digs_dig _))) rfl ?_
    refine o_store [(2, (AO.var 36 [(bp (x < 0)), (AV.sl 1 (ns .i64 (digs (x).natAbs)))])), (3, (AO.var 36 [(bp (y < 0)), (AV.sl 1 (ns .i64 (digs (y).natAbs)))])), (4, (AO.var 36 [(bp ((sg (decide ((decide (x < 0)) ≠ (decide (y < 0)))) (val (o))) < 0)), (AV.sl 1 (ns .i64 (digs ((sg (decide ((decide (x < 0)) ≠ (decide (y < 0)))) (val (o)))).natAbs)))]))] Gd.none Wb_tZ36 rfl rfl rfl rfl rfl rfl ?_
    refine aops_end ?_
    refine hK17 _ ?_
    refine awp_ret ?_
    refine post_ret ⟨[(AV.agg [(bp ((sg (decide ((decide (x < 0)) ≠ (decide (y < 0)))) (val (o))) < 0)), (AV.sl 1 (ns .i64 (digs ((sg (decide ((decide (x < 0)) ≠ (decide (y < 0)))) (val (o)))).natAbs)))])], And.intro ⟨4, (AO.var 36 [(bp ((sg (decide ((decide (x < 0)) ≠ (decide (y < 0)))) (val (o))) < 0)), (AV.sl 1 (ns .i64 (digs ((sg (decide ((decide (x < 0)) ≠ (decide (y < 0)))) (val (o)))).natAbs)))]), rfl, rfl, rfl, Or.inl ⟨Wb_tA36, AV.le_refl _⟩⟩ (trivial), rfl, ?_⟩
    refine congrArg (intK .i64) ?_
    rw [hv, val_take_all (by omega), val_digs]
    exact sg_mul x y

theorem c_wMul (x y : Int) (hx : (digs x.natAbs).length ≤ 1000000000) (hy : (digs y.natAbs).length ≤ 1000000000) : ECalls cx 60 [(intW (x)), (intW (y))] (intW (x * y)) := by
  refine ecalls_of_awp Tryd.func60 (c := _) rfl (Nat.le_of_ble_eq_true rfl) ?_
  show awp cx 97 _ (postF cx Tryd.f60 _) ⟨[(0, (intW (x))), (1, (intW (y)))], []⟩
  refine awp_seq fun K0 hK0 => ?_
  refine awp_region rfl ?_
  refine o_box 2 [(bp (x < 0)), (AV.sl 1 (ns .u32 (digs (x).natAbs)))] Gd.none rfl rfl ?_
  refine o_box 3 [(bp (y < 0)), (AV.sl 1 (ns .u32 (digs (y).natAbs)))] Gd.none rfl rfl ?_
  refine o_alloc 4 [(AV.lit (.bool false)), (AV.lit (.slice none 0 0))] Gd.none Wb_tO79 rfl rfl rfl ?_
  refine aops_end ?_
  refine hK0 _ ?_
  refine awp_seq fun K1 hK1 => ?_
  refine awp_region rfl ?_
  refine o_fieldRef 1 Gd.none Wb_tF79_1 rfl rfl ?_
  refine o_loadS (AV.sl 1 (ns .u32 (digs (x).natAbs))) Gd.none Wb_tS77 rfl rfl rfl ?_
  refine n_len (digs (x).natAbs) Gd.none Wb_tU77 rfl ?_
  refine o_fieldRef 1 Gd.none Wb_tF79_1 rfl rfl ?_
  refine o_loadS (AV.sl 1 (ns .u32 (digs (y).natAbs))) Gd.none Wb_tS77 rfl rfl rfl ?_
  refine n_len (digs (y).natAbs) Gd.none Wb_tU77 rfl ?_
  refine n_add ((digs (x).natAbs).length) ((digs (y).natAbs).length) Gd.none rfl rfl (by simp only [topOf]; omega) ?_
  refine n_add (((digs (x).natAbs).length) + ((digs (y).natAbs).length)) (1) Gd.none rfl rfl (by simp only [topOf]; omega) ?_
  refine n_make 5 ((((digs (x).natAbs).length) + ((digs (y).natAbs).length)) + (1)) Gd.none Wb_tE77 Wb_tO115 rfl rfl (by omega) rfl rfl ?_
  refine o_assign (AV.row 5) Gd.none rfl ?_
  refine aops_end ?_
  refine hK1 _ ?_
  refine awp_seq fun K2 hK2 => ?_
  refine awp_seq fun K3 hK3 => ?_
  refine awp_region rfl ?_
  refine o_fieldRef 1 Gd.none Wb_tF79_1 rfl rfl ?_
  refine o_loadS (AV.sl 1 (ns .u32 (digs (x).natAbs))) Gd.none Wb_tS77 rfl rfl rfl ?_
  refine n_len (digs (x).natAbs) Gd.none Wb_tU77 rfl ?_
  refine o_move (nm .i64 (0)) Gd.none rfl ?_
  refine aops_end ?_
  refine hK3 _ ?_
  refine awp_block ?_
  refine awp_loopR (fun κ σ => ∃ (i : Nat), ∃ (o : List Nat), (o.length = (digs x.natAbs).length + (digs y.natAbs).length + 1) ∧ (Dig o) ∧ (i ≤ (digs x.natAbs).length) ∧ (val o = val ((digs x.natAbs).take i) * y.natAbs) ∧ ((digs x.natAbs).length - i) = κ ∧ σ = ⟨[(2, (AV.ref 2 (0))), (3, (AV.ref 3 (0))), (4, (AV.ref 4 (0))), (5, (AV.row 5)), (24, (AV.sl 1 (ns .u32 (digs (x).natAbs)))), (25, (nm .i64 ((digs x.natAbs).length))), (26, (nm .i64 (i)))], [(2, (AO.var 79 [(bp (x < 0)), (AV.sl 1 (ns .u32 (digs (x).natAbs)))])), (3, (AO.var 79 [(bp (y < 0)), (AV.sl 1 (ns .u32 (digs (y).natAbs)))])), (4, (AO.var 79 [(AV.lit (.bool false)), (AV.lit (.slice none 0 0))])), (5, (AO.row 115 1 (ns .u32 (o))))]⟩) ⟨_, _, ⟨0, List.replicate ((digs x.natAbs).length + (digs y.natAbs).length + 1) 0, (by simp), (Dig.repl _), (by omega), (by rw [val_repl]; simp [val]), rfl, rfl⟩, ?wk0⟩ ?rd0
  case wk0 =>
    exact Wk.sub (And.intro (by exact rfl) (And.intro (by exact rfl) (And.intro (by exact rfl) (And.intro (by exact rfl) (And.intro (by exact rfl) (And.intro (by first | rfl | exact congrArg (nm _) (by omega) | exact nm_int (by omega) | exact nm_int (by simp [IntKind.wrap, IntKind.bits, IntKind.signed]; omega)) (And.intro (by first | rfl | exact congrArg (nm _) (by omega) | exact nm_int (by omega) | exact nm_int (by simp [IntKind.wrap, IntKind.bits, IntKind.signed]; omega)) (trivial)))))))) (And.intro (by first | rfl | exact row_ns (by simp) | exact congrArg (fun x => some (AO.blk (.stringIter _ x))) (by omega)) (And.intro (by first | rfl | exact row_ns (by simp) | exact congrArg (fun x => some (AO.blk (.stringIter _ x))) (by omega)) (And.intro (by first | rfl | exact row_ns (by simp) | exact congrArg (fun x => some (AO.blk (.stringIter _ x))) (by omega)) (And.intro (by first | rfl | exact row_ns (by simp) | exact congrArg (fun x => some (AO.blk (.stringIter _ x))) (by omega)) (trivial)))))
  rintro κ _ ⟨i, o, hl, hd, hi, hv, rfl, rfl⟩
  refine awp_seq fun K4 hK4 => ?_
  refine awp_region rfl ?_
  refine n_lss (i) ((digs x.natAbs).length) Gd.none rfl rfl ?_
  refine aops_end ?_
  refine hK4 _ ?_
  refine awp_seq fun K5 hK5 => ?_
  refine awp_condQ (q := (i) < ((digs x.natAbs).length)) rfl (fun h1 => ?_) (fun h1 => ?_)
  · refine awp_skip ?_
    refine hK5 _ ?_
    refine awp_seq fun K6 hK6 => ?_
    refine awp_block ?_
    refine awp_seq fun K7 hK7 => ?_
    refine awp_region rfl ?_
    refine o_move (nm .i64 (i)) Gd.none rfl ?_
    refine n_index (digs (x).natAbs) (i) Gd.none Wb_tE77 rfl rfl (by omega) ?_
    refine n_loadI (digs (x).natAbs) (i) Gd.none Wb_tS115 rfl (by omega) ?_
    refine o_assign (nm .i64 (i)) Gd.none rfl ?_
    refine o_assign (nm .u32 ((digs (x).natAbs).getD (i) 0)) Gd.none rfl ?_
    refine aops_end ?_
    refine hK7 _ ?_
    refine awp_seq fun K8 hK8 => ?_
    refine awp_region rfl ?_
    refine o_assign (nm .u64 (0)) Gd.none rfl ?_
    refine aops_end ?_
    refine hK8 _ ?_
    refine awp_seq fun K9 hK9 => ?_
    refine awp_seq fun K10 hK10 => ?_
    refine awp_region rfl ?_
    refine o_fieldRef 1 Gd.none Wb_tF79_1 rfl rfl ?_
    refine o_loadS (AV.sl 1 (ns .u32 (digs (y).natAbs))) Gd.none Wb_tS77 rfl rfl rfl ?_
    refine n_len (digs (y).natAbs) Gd.none Wb_tU77 rfl ?_
    refine o_move (nm .i64 (0)) Gd.none rfl ?_
    refine aops_end ?_
    refine hK10 _ ?_
    refine awp_block ?_
    refine awp_loopR (fun κ σ => ∃ (k : Nat), ∃ (c : Nat), ∃ (o : List Nat), (o.length = (digs x.natAbs).length + (digs y.natAbs).length + 1) ∧ (Dig o) ∧ (k ≤ (digs y.natAbs).length) ∧ (c < 1000000000) ∧ (val o + 1000000000 ^ (i + k) * c = val ((digs x.natAbs).take i) * y.natAbs + 1000000000 ^ i * ((digs x.natAbs).getD i 0 * val ((digs y.natAbs).take k))) ∧ ((digs y.natAbs).length - k) = κ ∧ σ = ⟨[(2, (AV.ref 2 (0))), (3, (AV.ref 3 (0))), (4, (AV.ref 4 (0))), (5, (AV.row 5)), (24, (AV.sl 1 (ns .u32 (digs (x).natAbs)))), (25, (nm .i64 ((digs x.natAbs).length))), (26, (nm .i64 (i))), (6, (nm .i64 (i))), (7, (nm .u32 ((digs x.natAbs).getD (i) 0))), (8, (nm .u64 (c))), (32, (AV.sl 1 (ns .u32 (digs (y).natAbs)))), (33, (nm .i64 ((digs y.natAbs).length))), (34, (nm .i64 (k)))], [(2, (AO.var 79 [(bp (x < 0)), (AV.sl 1 (ns .u32 (digs (x).natAbs)))])), (3, (AO.var 79 [(bp (y < 0)), (AV.sl 1 (ns .u32 (digs (y).natAbs)))])), (4, (AO.var 79 [(AV.lit (.bool false)), (AV.lit (.slice none 0 0))])), (5, (AO.row 115 1 (ns .u32 (o))))]⟩) ⟨_, _, ⟨0, 0, _, hl, hd, (by omega), (by omega), (by simp only [Nat.mul_zero, Nat.add_zero, hv, List.take_zero, val]), rfl, rfl⟩, ?wk1⟩ ?rd1
    case wk1 =>
      exact Wk.sub (And.intro (by exact rfl) (And.intro (by exact rfl) (And.intro (by exact rfl) (And.intro (by exact rfl) (And.intro (by exact rfl) (And.intro (by exact rfl) (And.intro (by exact rfl) (And.intro (by exact rfl) (And.intro (by first | rfl | exact congrArg (nm _) (by omega) | exact nm_int (by omega) | exact nm_int (by simp [IntKind.wrap, IntKind.bits, IntKind.signed]; omega)) (And.intro (by first | rfl | exact congrArg (nm _) (by omega) | exact nm_int (by omega) | exact nm_int (by simp [IntKind.wrap, IntKind.bits, IntKind.signed]; omega)) (And.intro (by exact rfl) (And.intro (by first | rfl | exact congrArg (nm _) (by omega) | exact nm_int (by omega) | exact nm_int (by simp [IntKind.wrap, IntKind.bits, IntKind.signed]; omega)) (And.intro (by first | rfl | exact congrArg (nm _) (by omega) | exact nm_int (by omega) | exact nm_int (by simp [IntKind.wrap, IntKind.bits, IntKind.signed]; omega)) (trivial)))))))))))))) (And.intro (by first | rfl | exact row_ns (by simp) | exact congrArg (fun x => some (AO.blk (.stringIter _ x))) (by omega)) (And.intro (by first | rfl | exact row_ns (by simp) | exact congrArg (fun x => some (AO.blk (.stringIter _ x))) (by omega)) (And.intro (by first | rfl | exact row_ns (by simp) | exact congrArg (fun x => some (AO.blk (.stringIter _ x))) (by omega)) (And.intro (by first | rfl | exact row_ns (by simp) | exact congrArg (fun x => some (AO.blk (.stringIter _ x))) (by omega)) (trivial)))))
    rintro κ _ ⟨k, c, o, hl2, hd2, hk, hc, hv2, rfl, rfl⟩
    have hA := (digs_dig x.natAbs).mulb (digs_dig y.natAbs) i k
    have hA1 := (digs_dig x.natAbs).getD i
    have hB1 := (digs_dig y.natAbs).getD k
    have hO := hd2.getD (i + k)
    refine awp_seq fun K11 hK11 => ?_
    refine awp_region rfl ?_
    refine n_lss (k) ((digs y.natAbs).length) Gd.none rfl rfl ?_
    refine aops_end ?_
    refine hK11 _ ?_
    refine awp_seq fun K12 hK12 => ?_
    refine awp_condQ (q := (k) < ((digs y.natAbs).length)) rfl (fun h2 => ?_) (fun h2 => ?_)
    · refine awp_skip ?_
      refine hK12 _ ?_
      refine awp_seq fun K13 hK13 => ?_
      refine awp_block ?_
      refine awp_seq fun K14 hK14 => ?_
      refine awp_region rfl ?_
      refine o_move (nm .i64 (k)) Gd.none rfl ?_
      refine n_index (digs (y).natAbs) (k) Gd.none Wb_tE77 rfl rfl (by omega) ?_
      refine n_loadI (digs (y).natAbs) (k) Gd.none Wb_tS115 rfl (by omega) ?_
      refine o_assign (nm .i64 (k)) Gd.none rfl ?_
      refine o_assign (nm .u32 ((digs (y).natAbs).getD (k) 0)) Gd.none rfl ?_
      refine aops_end ?_
      refine hK14 _ ?_
      refine awp_seq fun K15 hK15 => ?_
      refine awp_region rfl ?_
      refine o_move (AV.row 5) Gd.none rfl ?_
      refine o_move (nm .i64 (i)) Gd.none rfl ?_
      refine o_move (nm .i64 (k)) Gd.none rfl ?_
      refine n_add (i) (k) Gd.none rfl rfl (by simp only [topOf]; omega) ?_
      refine n_indexRow (o) ((i) + (k)) Gd.none Wb_tE77 rfl rfl rfl (by omega) ?_
      refine n_loadRow (o) ((i) + (k)) Gd.none Wb_tS115 rfl rfl (by omega) ?_
      refine n_conv ((o).getD ((i) + (k)) 0) Gd.none rfl Wb_tI115 Wb_tI110 (by simp only [topOf]; omega) ?_
      refine o_move (nm .u32 ((digs x.natAbs).getD (i) 0)) Gd.none rfl ?_
      refine n_conv ((digs x.natAbs).getD (i) 0) Gd.none rfl Wb_tI115 Wb_tI110 (by simp only [topOf]; omega) ?_
      refine o_move (nm .u32 ((digs (y).natAbs).getD (k) 0)) Gd.none rfl ?_
      refine n_conv ((digs (y).natAbs).getD (k) 0) Gd.none rfl Wb_tI115 Wb_tI110 (by simp only [topOf]; omega) ?_
      refine n_mul ((digs x.natAbs).getD (i) 0) ((digs (y).natAbs).getD (k) 0) Gd.none rfl rfl (by simp only [topOf]; omega) ?_
      refine n_add ((o).getD ((i) + (k)) 0) (((digs x.natAbs).getD (i) 0) * ((digs (y).natAbs).getD (k) 0)) Gd.none rfl rfl (by simp only [topOf]; omega) ?_
      refine o_move (nm .u64 (c)) Gd.none rfl ?_
      refine n_add (((o).getD ((i) + (k)) 0) + (((digs x.natAbs).getD (i) 0) * ((digs (y).natAbs).getD (k) 0))) (c) Gd.none rfl rfl (by simp only [topOf]; omega) ?_
      refine o_assign (nm .u64 ((((o).getD ((i) + (k)) 0) + (((digs x.natAbs).getD (i) 0) * ((digs (y).natAbs).getD (k) 0))) + (c))) Gd.none rfl ?_
      refine aops_end ?_
      refine hK15 _ ?_
      refine awp_seq fun K16 hK16 => ?_
      refine awp_region rfl ?_
      refine o_move (AV.row 5) Gd.none rfl ?_
      refine o_move (nm .i64 (i)) Gd.none rfl ?_
      refine o_move (nm .i64 (k)) Gd.none rfl ?_
      refine n_add (i) (k) Gd.none rfl rfl (by simp only [topOf]; omega) ?_
      refine o_move (nm .u64 ((((o).getD ((i) + (k)) 0) + (((digs x.natAbs).getD (i) 0) * ((digs (y).natAbs).getD (k) 0))) + (c))) Gd.none rfl ?_
      refine n_rem ((((o).getD ((i) + (k)) 0) + (((digs x.natAbs).getD (i) 0) * ((digs (y).natAbs).getD (k) 0))) + (c)) (1000000000) Gd.none rfl rfl (by omega) ?_
      refine n_conv (((((o).getD ((i) + (k)) 0) + (((digs x.natAbs).getD (i) 0) * ((digs (y).natAbs).getD (k) 0))) + (c)) % (1000000000)) Gd.none rfl Wb_tI110 Wb_tI115 (by simp only [topOf]; omega) ?_
      refine n_indexRow (o) ((i) + (k)) Gd.none Wb_tE77 rfl rfl rfl (by omega) ?_
      refine n_storeRow (o) ((i) + (k)) (((((o).getD ((i) + (k)) 0) + (((digs x.natAbs).getD (i) 0) * ((digs (y).natAbs).getD (k) 0))) + (c)) % (1000000000)) [(2, (AO.var 79 [(bp (x < 0)), (AV.sl 1 (ns .u32 (digs (x).natAbs)))])), (3, (AO.var 79 [(bp (y < 0)), (AV.sl 1 (ns .u32 (digs (y).natAbs)))])), (4, (AO.var 79 [(AV.lit (.bool false)), (AV.lit (.slice none 0 0))])), (5, (AO.row 115 1 (ns .u32 ((o).set ((i) + (k)) (((((o).getD ((i) + (k)) 0) + (((digs x.natAbs).getD (i) 0) * ((digs (y).natAbs).getD (k) 0))) + (c)) % (1000000000))))))] Gd.none Wb_tZ115 rfl rfl rfl (by omega) rfl ?_
      refine aops_end ?_
      refine hK16 _ ?_
      refine awp_region rfl ?_
      refine o_move (nm .u64 ((((o).getD ((i) + (k)) 0) + (((digs x.natAbs).getD (i) 0) * ((digs (y).natAbs).getD (k) 0))) + (c))) Gd.none rfl ?_
      refine n_quo ((((o).getD ((i) + (k)) 0) + (((digs x.natAbs).getD (i) 0) * ((digs (y).natAbs).getD (k) 0))) + (c)) (1000000000) Gd.none rfl rfl (by omega) (by simp only [topOf]; omega) ?_
      refine o_assign (nm .u64 (((((o).getD ((i) + (k)) 0) + (((digs x.natAbs).getD (i) 0) * ((digs (y).natAbs).getD (k) 0))) + (c)) / (1000000000))) Gd.none rfl ?_
      refine aops_end ?_
      refine hK13 _ ?_
      refine awp_region rfl ?_
      refine n_add (k) (1) Gd.none rfl rfl (by simp only [topOf]; omega) ?_
      refine o_move (nm .i64 ((k) + (1))) Gd.none rfl ?_
      refine aops_end ?_
      refine ⟨_, _, ?lt, ⟨k + 1, ((((o).getD ((i) + (k)) 0) + (((digs x.natAbs).getD (i) 0) * ((digs (y).natAbs).getD (k) 0))) + (c)) / (1000000000), (o).set ((i) + (k)) (((((o).getD ((i) + (k)) 0) + (((digs x.natAbs).getD (i) 0) * ((digs (y).natAbs).getD (k) 0))) + (c)) % (1000000000)), (by simp only [List.length_set]; exact hl2), (hd2.set (Nat.mod_lt _ (by decide))), (by omega), (by omega), (mul_step (by omega) hv2 rfl), rfl, rfl⟩, ?wk⟩
      case lt => omega
      case wk => exact Wk.sub (And.intro (by exact rfl) (And.intro (by exact rfl) (And.intro (by exact rfl) (And.intro (by exact rfl) (And.intro (by exact rfl) (And.intro (by exact rfl) (And.intro (by exact rfl) (And.intro (by exact rfl) (And.intro (by exact rfl) (And.intro (by first | rfl | exact congrArg (nm _) (by omega) | exact nm_int (by omega) | exact nm_int (by simp [IntKind.wrap, IntKind.bits, IntKind.signed]; omega)) (And.intro (by exact rfl) (And.intro (by exact rfl) (And.intro (by first | rfl | exact congrArg (nm _) (by omega) | exact nm_int (by omega) | exact nm_int (by simp [IntKind.wrap, IntKind.bits, IntKind.signed]; omega)) (trivial)))))))))))))) (And.intro (by first | rfl | exact row_ns (by simp) | exact congrArg (fun x => some (AO.blk (.stringIter _ x))) (by omega)) (And.intro (by first | rfl | exact row_ns (by simp) | exact congrArg (fun x => some (AO.blk (.stringIter _ x))) (by omega)) (And.intro (by first | rfl | exact row_ns (by simp) | exact congrArg (fun x => some (AO.blk (.stringIter _ x))) (by omega)) (And.intro (by first | rfl | exact row_ns (by simp) | exact congrArg (fun x => some (AO.blk (.stringIter _ x))) (by omega)) (trivial)))))
    · refine awp_exit ?_
      refine hK9 _ ?_
      refine awp_seq fun K17 hK17 => ?_
      refine awp_region rfl ?_
      refine o_move (nm .i64 (i)) Gd.none rfl ?_
      refine o_fieldRef 1 Gd.none Wb_tF79_1 rfl rfl ?_
      refine o_loadS (AV.sl 1 (ns .u32 (digs (y).natAbs))) Gd.none Wb_tS77 rfl rfl rfl ?_
      refine n_len (digs (y).natAbs) Gd.none Wb_tU77 rfl ?_
      refine n_add (i) ((digs (y).natAbs).length) Gd.none rfl rfl (by simp only [topOf]; omega) ?_
      refine o_assign (nm .i64 ((i) + ((digs (y).natAbs).length))) Gd.none rfl ?_
      refine aops_end ?_
      refine hK17 _ ?_
      refine awp_block ?_
      refine awp_loopR (fun κ σ => ∃ (k : Nat), ∃ (c : Nat), ∃ (o : List Nat), (o.length = (digs x.natAbs).length + (digs y.natAbs).length + 1) ∧ (Dig o) ∧ ((digs y.natAbs).length ≤ k) ∧ (k ≤ (digs y.natAbs).length + 1) ∧ (c < 1000000000) ∧ (val o + 1000000000 ^ (i + k) * c = val ((digs x.natAbs).take i) * y.natAbs + 1000000000 ^ i * ((digs x.natAbs).getD i 0 * val ((digs y.natAbs).take k))) ∧ ((digs y.natAbs).length + 1 - k) = κ ∧ σ = ⟨[(2, (AV.ref 2 (0))), (3, (AV.ref 3 (0))), (4, (AV.ref 4 (0))), (5, (AV.row 5)), (24, (AV.sl 1 (ns .u32 (digs (x).natAbs)))), (25, (nm .i64 ((digs x.natAbs).length))), (26, (nm .i64 (i))), (6, (nm .i64 (i))), (8, (nm .u64 (c))), (12, (nm .i64 (i + k)))], [(2, (AO.var 79 [(bp (x < 0)), (AV.sl 1 (ns .u32 (digs (x).natAbs)))])), (3, (AO.var 79 [(bp (y < 0)), (AV.sl 1 (ns .u32 (digs (y).natAbs)))])), (4, (AO.var 79 [(AV.lit (.bool false)), (AV.lit (.slice none 0 0))])), (5, (AO.row 115 1 (ns .u32 (o))))]⟩) ⟨_, _, ⟨k, c, o, hl2, hd2, (by omega), (by omega), hc, hv2, rfl, rfl⟩, ?wk2⟩ ?rd2
      case wk2 =>
        exact Wk.sub (And.intro (by exact rfl) (And.intro (by exact rfl) (And.intro (by exact rfl) (And.intro (by exact rfl) (And.intro (by exact rfl) (And.intro (by exact rfl) (And.intro (by exact rfl) (And.intro (by exact rfl) (And.intro (by exact rfl) (And.intro (by first | rfl | exact congrArg (nm _) (by omega) | exact nm_int (by omega) | exact nm_int (by simp [IntKind.wrap, IntKind.bits, IntKind.signed]; omega)) (trivial))))))))))) (And.intro (by first | rfl | exact row_ns (by simp) | exact congrArg (fun x => some (AO.blk (.stringIter _ x))) (by omega)) (And.intro (by first | rfl | exact row_ns (by simp) | exact congrArg (fun x => some (AO.blk (.stringIter _ x))) (by omega)) (And.intro (by first | rfl | exact row_ns (by simp) | exact congrArg (fun x => some (AO.blk (.stringIter _ x))) (by omega)) (And.intro (by first | rfl | exact row_ns (by simp) | exact congrArg (fun x => some (AO.blk (.stringIter _ x))) (by omega)) (trivial)))))
      rintro κ _ ⟨k, c, o, hl3, hd3, hk3, hk4, hc3, hv3, rfl, rfl⟩
      have hO3 := hd3.getD (i + k)
      have hkc := mul_k hv3
      refine awp_seq fun K18 hK18 => ?_
      refine awp_seq fun K19 hK19 => ?_
      refine awp_region rfl ?_
      refine o_move (nm .u64 (c)) Gd.none rfl ?_
      refine n_gtr (c) (0) Gd.none rfl rfl ?_
      refine aops_end ?_
      refine hK19 _ ?_
      refine awp_condQ (q := (0) < (c)) rfl (fun h3 => ?_) (fun h3 => ?_)
      · refine awp_skip ?_
        refine hK18 _ ?_
        refine awp_seq fun K20 hK20 => ?_
        refine awp_block ?_
        refine awp_seq fun K21 hK21 => ?_
        refine awp_region rfl ?_
        refine o_move (AV.row 5) Gd.none rfl ?_
        refine o_move (nm .i64 (i + k)) Gd.none rfl ?_
        refine n_indexRow (o) (i + k) Gd.none Wb_tE77 rfl rfl rfl (by have := hkc (by assumption); omega) ?_
        refine n_loadRow (o) (i + k) Gd.none Wb_tS115 rfl rfl (by have := hkc (by assumption); omega) ?_
        refine n_conv ((o).getD (i + k) 0) Gd.none rfl Wb_tI115 Wb_tI110 (by simp only [topOf]; omega) ?_
        refine o_move (nm .u64 (c)) Gd.none rfl ?_
        refine n_add ((o).getD (i + k) 0) (c) Gd.none rfl rfl (by simp only [topOf]; omega) ?_
        refine o_assign (nm .u64 (((o).getD (i + k) 0) + (c))) Gd.none rfl ?_
        refine aops_end ?_
        refine hK21 _ ?_
        refine awp_seq fun K22 hK22 => ?_
        refine awp_region rfl ?_
        refine o_move (AV.row 5) Gd.none rfl ?_
        refine o_move (nm .i64 (i + k)) Gd.none rfl ?_
        refine o_move (nm .u64 (((o).getD (i + k) 0) + (c))) Gd.none rfl ?_
        refine n_rem (((o).getD (i + k) 0) + (c)) (1000000000) Gd.none rfl rfl (by omega) ?_
        refine n_conv ((((o).getD (i + k) 0) + (c)) % (1000000000)) Gd.none rfl Wb_tI110 Wb_tI115 (by simp only [topOf]; omega) ?_
        refine n_indexRow (o) (i + k) Gd.none Wb_tE77 rfl rfl rfl (by have := hkc (by assumption); omega) ?_
        refine n_storeRow (o) (i + k) ((((o).getD (i + k) 0) + (c)) % (1000000000)) [(2, (AO.var 79 [(bp (x < 0)), (AV.sl 1 (ns .u32 (digs (x).natAbs)))])), (3, (AO.var 79 [(bp (y < 0)), (AV.sl 1 (ns .u32 (digs (y).natAbs)))])), (4, (AO.var 79 [(AV.lit (.bool false)), (AV.lit (.slice none 0 0))])), (5, (AO.row 115 1 (ns .u32 ((o).set (i + k) ((((o).getD (i + k) 0) + (c)) % (1000000000))))))] Gd.none Wb_tZ115 rfl rfl rfl (by have := hkc (by assumption); omega) rfl ?_
        refine aops_end ?_
        refine hK22 _ ?_
        refine awp_region rfl ?_
        refine o_move (nm .u64 (((o).getD (i + k) 0) + (c))) Gd.none rfl ?_
        refine n_quo (((o).getD (i + k) 0) + (c)) (1000000000) Gd.none rfl rfl (by omega) (by simp only [topOf]; omega) ?_
        refine o_assign (nm .u64 ((((o).getD (i + k) 0) + (c)) / (1000000000))) Gd.none rfl ?_
        refine aops_end ?_
        refine hK20 _ ?_
        refine awp_region rfl ?_
        refine o_move (nm .i64 (i + k)) Gd.none rfl ?_
        refine n_add (i + k) (1) Gd.none rfl rfl (by simp only [topOf]; omega) ?_
        refine o_assign (nm .i64 ((i + k) + (1))) Gd.none rfl ?_
        refine aops_end ?_
        refine ⟨_, _, ?lt, ⟨k + 1, (((o).getD (i + k) 0) + (c)) / (1000000000), (o).set (i + k) ((((o).getD (i + k) 0) + (c)) % (1000000000)), (by simp only [List.length_set]; exact hl3), (hd3.set (Nat.mod_lt _ (by decide))), (by omega), (by have := hkc (by assumption); omega), (by omega), (mul_step (by have := hkc (by assumption); omega) hv3 (by rw [getD_ge (xs := digs y.natAbs) hk3]; simp)), rfl, rfl⟩, ?wk⟩
        case lt => (have := hkc (by assumption); omega)
        case wk => exact Wk.sub (And.intro (by exact rfl) (And.intro (by exact rfl) (And.intro (by exact rfl) (And.intro (by exact rfl) (And.intro (by exact rfl) (And.intro (by exact rfl) (And.intro (by exact rfl) (And.intro (by exact rfl) (And.intro (by first | rfl | exact congrArg (nm _) (by omega) | exact nm_int (by omega) | exact nm_int (by simp [IntKind.wrap, IntKind.bits, IntKind.signed]; omega)) (And.intro (by first | rfl | exact congrArg (nm _) (by omega) | exact nm_int (by omega) | exact nm_int (by simp [IntKind.wrap, IntKind.bits, IntKind.signed]; omega)) (trivial))))))))))) (And.intro (by first | rfl | exact row_ns (by simp) | exact congrArg (fun x => some (AO.blk (.stringIter _ x))) (by omega)) (And.intro (by first | rfl | exact row_ns (by simp) | exact congrArg (fun x => some (AO.blk (.stringIter _ x))) (by omega)) (And.intro (by first | rfl | exact row_ns (by simp) | exact congrArg (fun x => some (AO.blk (.stringIter _ x))) (by omega)) (And.intro (by first | rfl | exact row_ns (by simp) | exact congrArg (fun x => some (AO.blk (.stringIter _ x))) (by omega)) (trivial)))))
      · refine awp_exit ?_
        refine hK6 _ ?_
        refine awp_region rfl ?_
        refine n_add (i) (1) Gd.none rfl rfl (by simp only [topOf]; omega) ?_
        refine o_move (nm .i64 ((i) + (1))) Gd.none rfl ?_
        refine aops_end ?_
        refine ⟨_, _, ?lt, ⟨i + 1, o, hl3, hd3, (by omega), (mul_end (k := k) (by omega) (by rw [show c = 0 by omega] at hv3; exact hv3)), rfl, rfl⟩, ?wk⟩
        case lt => omega
        case wk => exact Wk.sub (And.intro (by exact rfl) (And.intro (by exact rfl) (And.intro (by exact rfl) (And.intro (by exact rfl) (And.intro (by exact rfl) (And.intro (by exact rfl) (And.intro (by first | rfl | exact congrArg (nm _) (by omega) | exact nm_int (by omega) | exact nm_int (by simp [IntKind.wrap, IntKind.bits, IntKind.signed]; omega)) (trivial)))))))) (And.intro (by first | rfl | exact row_ns (by simp) | exact congrArg (fun x => some (AO.blk (.stringIter _ x))) (by omega)) (And.intro (by first | rfl | exact row_ns (by simp) | exact congrArg (fun x => some (AO.blk (.stringIter _ x))) (by omega)) (And.intro (by first | rfl | exact row_ns (by simp) | exact congrArg (fun x => some (AO.blk (.stringIter _ x))) (by omega)) (And.intro (by first | rfl | exact row_ns (by simp) | exact congrArg (fun x => some (AO.blk (.stringIter _ x))) (by omega)) (trivial)))))
  · refine awp_exit ?_
    refine hK2 _ ?_
    refine awp_seq fun K23 hK23 => ?_
    refine awp_region rfl ?_
    refine o_fieldRef 0 Gd.none Wb_tF79_0 rfl rfl ?_
    refine o_loadS (bp (x < 0)) Gd.none Wb_tS4 rfl rfl rfl ?_
    refine o_fieldRef 0 Gd.none Wb_tF79_0 rfl rfl ?_
    refine o_loadS (bp (y < 0)) Gd.none Wb_tS4 rfl rfl rfl ?_
    refine o_neqB (a := (decide (x < 0))) (c := (decide (y < 0))) Gd.none rfl rfl Wb_tB4 ?_
    refine o_move (AV.row 5) Gd.none rfl ?_
    refine o_callG [(5, 1, (ns .u32 (o)))] [(bp ((decide (x < 0)) ≠ (decide (y < 0)))), (AV.sl 1 (ns .u32 (o)))] _ (intW ((sg (decide ((decide (x < 0)) ≠ (decide (y < 0)))) (val (o))))) [(2, (AO.var 79 [(bp (x < 0)), (AV.sl 1 (ns .u32 (digs (x).natAbs)))])), (3, (AO.var 79 [(bp (y < 0)), (AV.sl 1 (ns .u32 (digs (y).natAbs)))])), (4, (AO.var 79 [(AV.lit (.bool false)), (AV.lit (.slice none 0 0))]))] Gd.none Wb_tC81 rfl (And.intro ⟨_, rfl⟩ (trivial)) rfl rfl (LeL.cons (AV.le_refl _) (LeL.cons (AV.le_refl _) (LeL.nil))) (c_wTrim (decide ((decide (x < 0)) ≠ (decide (y < 0)))) (o) (by first | assumption | exact dgn_dig _ _ | exact digs_dig _ | exact Dig.snoc (by assumption) (by assumption) | exact Dig.cons (by omega) (digs_dig _))) rfl ?_
    refine o_store [(2, (AO.var 79 [(bp (x < 0)), (AV.sl 1 (ns .u32 (digs (x).natAbs)))])), (3, (AO.var 79 [(bp (y < 0)), (AV.sl 1 (ns .u32 (digs (y).natAbs)))])), (4, (AO.var 79 [(bp ((sg (decide ((decide (x < 0)) ≠ (decide (y < 0)))) (val (o))) < 0)), (AV.sl 1 (ns .u32 (digs ((sg (decide ((decide (x < 0)) ≠ (decide (y < 0)))) (val (o)))).natAbs)))]))] Gd.none Wb_tZ79 rfl rfl rfl rfl rfl rfl ?_
    refine aops_end ?_
    refine hK23 _ ?_
    refine awp_ret ?_
    refine post_ret ⟨[(AV.agg [(bp ((sg (decide ((decide (x < 0)) ≠ (decide (y < 0)))) (val (o))) < 0)), (AV.sl 1 (ns .u32 (digs ((sg (decide ((decide (x < 0)) ≠ (decide (y < 0)))) (val (o)))).natAbs)))])], And.intro ⟨4, (AO.var 79 [(bp ((sg (decide ((decide (x < 0)) ≠ (decide (y < 0)))) (val (o))) < 0)), (AV.sl 1 (ns .u32 (digs ((sg (decide ((decide (x < 0)) ≠ (decide (y < 0)))) (val (o)))).natAbs)))]), rfl, rfl, rfl, Or.inl ⟨Wb_tA79, AV.le_refl _⟩⟩ (trivial), rfl, ?_⟩
    refine congrArg (intK .u32) ?_
    rw [hv, val_take_all (by omega), val_digs]
    exact sg_mul x y

end Go.Proofs.YtbilndahjkimkaaDoor

set_option linter.unusedVariables false
set_option linter.unusedSimpArgs false
namespace Go.Proofs.YtbilndahjkimkaaDoor
open Go Go.Ab Go.Mth
theorem Wc_tS4 : tySc cx.P 4 = true := by kernel_rfl
theorem Wc_tO79 : tyZero cx.P 79 = some [(Go.Value.bool false), (Go.Value.slice none 0 0)] := by kernel_rfl
theorem Wc_tF79_1 : tyField cx.P 79 1 = some (1, 77) := by kernel_rfl
theorem Wc_tS77 : tySc cx.P 77 = true := by kernel_rfl
theorem Wc_tU77 : cx.P.underlying 77 = some (.slice 115) := by kernel_rfl
theorem Wc_tE77 : tyElem cx.P 77 = some (115, 1, 4) := by kernel_rfl
theorem Wc_tO115 : tyZero cx.P 115 = some [(Go.Value.int IntKind.u32 0)] := by kernel_rfl
theorem Wc_tS115 : tySc cx.P 115 = true := by kernel_rfl
theorem Wc_tI115 : tyInt cx.P 115 = some .u32 := by kernel_rfl
theorem Wc_tI110 : tyInt cx.P 110 = some .u64 := by kernel_rfl
theorem Wc_tI3 : tyInt cx.P 3 = some .i64 := by kernel_rfl
theorem Wc_tZ115 : tySize cx.P 115 = some 1 := by kernel_rfl
theorem Wc_tF79_0 : tyField cx.P 79 0 = some (0, 4) := by kernel_rfl
theorem Wc_tC81 : callable cx.P 81 = true := by kernel_rfl
theorem Wc_tZ79 : tySize cx.P 79 = some 2 := by kernel_rfl
theorem Wc_tA79 : tyAgg cx.P 79 = some 2 := by kernel_rfl
theorem Wc_tC59 : callable cx.P 59 = true := by kernel_rfl
theorem Wc_tC90 : callable cx.P 90 = true := by kernel_rfl
theorem c_wQR (z : Int) (d : Nat) (hd0 : 0 < d) (hd2 : d ≤ 2147483647) (hz : (digs z.natAbs).length ≤ 1000000000) : ECalls cx 63 [(intW (z)), (nm .i64 (d))] (.tup [(intW ((z / (d : Int)))), .lit (.int .i64 (z % (d : Int)))]) := by
  refine ecalls_of_awp Tryd.func63 (c := _) rfl (Nat.le_of_ble_eq_true rfl) ?_
  show awp cx 64 _ (postF cx Tryd.f63 _) ⟨[(0, (intW (z))), (1, (nm .i64 (d)))], []⟩
  refine awp_seq fun K0 hK0 => ?_
  refine awp_region rfl ?_
  refine o_box 2 [(bp (z < 0)), (AV.sl 1 (ns .u32 (digs (z).natAbs)))] Gd.none rfl rfl ?_
  refine o_alloc 3 [(AV.lit (.bool false)), (AV.lit (.slice none 0 0))] Gd.none Wc_tO79 rfl rfl rfl ?_
  refine o_assign (nm .i64 (0)) Gd.none rfl ?_
  refine aops_end ?_
  refine hK0 _ ?_
  refine awp_seq fun K1 hK1 => ?_
  refine awp_region rfl ?_
  refine o_fieldRef 1 Gd.none Wc_tF79_1 rfl rfl ?_
  refine o_loadS (AV.sl 1 (ns .u32 (digs (z).natAbs))) Gd.none Wc_tS77 rfl rfl rfl ?_
  refine n_len (digs (z).natAbs) Gd.none Wc_tU77 rfl ?_
  refine n_make 4 ((digs (z).natAbs).length) Gd.none Wc_tE77 Wc_tO115 rfl rfl (by omega) rfl rfl ?_
  refine o_assign (AV.row 4) Gd.none rfl ?_
  refine aops_end ?_
  refine hK1 _ ?_
  refine awp_seq fun K2 hK2 => ?_
  refine awp_region rfl ?_
  refine o_assign (nm .u64 (0)) Gd.none rfl ?_
  refine aops_end ?_
  refine hK2 _ ?_
  refine awp_seq fun K3 hK3 => ?_
  refine awp_seq fun K4 hK4 => ?_
  refine awp_region rfl ?_
  refine o_fieldRef 1 Gd.none Wc_tF79_1 rfl rfl ?_
  refine o_loadS (AV.sl 1 (ns .u32 (digs (z).natAbs))) Gd.none Wc_tS77 rfl rfl rfl ?_
  refine n_len (digs (z).natAbs) Gd.none Wc_tU77 rfl ?_
  refine o_sub (a := ((((digs (z).natAbs).length : Nat) : Int))) (c := (((1 : Nat) : Int))) Gd.none rfl rfl (by exact wrap64 (by omega) (by omega)) ?_
  refine o_assign (AV.lit (.int .i64 (((((digs (z).natAbs).length : Nat) : Int)) - (((1 : Nat) : Int))))) Gd.none rfl ?_
  refine aops_end ?_
  refine hK4 _ ?_
  refine awp_block ?_
  refine awp_loopR (fun κ σ => ∃ (j : Nat), ∃ (o : List Nat), ∃ (r : Nat), (j ≤ (digs z.natAbs).length) ∧ (o.length = (digs z.natAbs).length) ∧ (Dig o) ∧ (r < d) ∧ (val ((digs z.natAbs).drop j) = d * val (o.drop j) + r) ∧ (j) = κ ∧ σ = ⟨[(1, (nm .i64 (d))), (2, (AV.ref 2 (0))), (4, (AV.ref 3 (0))), (6, (AV.row 4)), (7, (nm .u64 (r))), (8, (AV.lit (.int .i64 ((j : Int) - 1))))], [(2, (AO.var 79 [(bp (z < 0)), (AV.sl 1 (ns .u32 (digs (z).natAbs)))])), (3, (AO.var 79 [(AV.lit (.bool false)), (AV.lit (.slice none 0 0))])), (4, (AO.row 115 1 (ns .u32 (o))))]⟩) ⟨_, _, ⟨(digs z.natAbs).length, List.replicate (digs z.natAbs).length 0, 0, (Nat.le_refl _), (by simp), (Dig.repl _), hd0, (by rw [val_drop_all (Nat.le_refl _), val_drop_all (by simp)]; simp), rfl, rfl⟩, ?wk0⟩ ?rd0
  case wk0 =>
    exact Wk.sub (And.intro (by exact rfl) (And.intro (by exact rfl) (And.intro (by exact rfl) (And.intro (by exact rfl) (And.intro (by first | rfl | exact congrArg (nm _) (by omega) | exact nm_int (by omega) | exact nm_int (by simp [IntKind.wrap, IntKind.bits, IntKind.signed]; omega)) (And.intro (by first | rfl | exact int_eq (by omega) | exact int_nm (by omega)) (trivial))))))) (And.intro (by first | rfl | exact row_ns (by simp) | exact congrArg (fun x => some (AO.blk (.stringIter _ x))) (by omega)) (And.intro (by first | rfl | exact row_ns (by simp) | exact congrArg (fun x => some (AO.blk (.stringIter _ x))) (by omega)) (And.intro (by first | rfl | exact row_ns (by simp) | exact congrArg (fun x => some (AO.blk (.stringIter _ x))) (by omega)) (trivial))))
  rintro κ _ ⟨j, o, r, hj, hl, hd, hr, hv, rfl, rfl⟩
  have hA := (digs_dig z.natAbs).getD (j - 1)
  refine awp_seq fun K5 hK5 => ?_
  refine awp_seq fun K6 hK6 => ?_
  refine awp_region rfl ?_
  refine o_move (AV.lit (.int .i64 ((j : Int) - 1))) Gd.none rfl ?_
  refine o_geq (a := ((j : Int) - 1)) (c := (((0 : Nat) : Int))) Gd.none rfl rfl ?_
  refine aops_end ?_
  refine hK6 _ ?_
  refine awp_condQ (q := (((0 : Nat) : Int)) ≤ ((j : Int) - 1)) rfl (fun h1 => ?_) (fun h1 => ?_)
  · refine awp_wk (Wk.slot (i := 8) (y := (nm .i64 (j - 1))) (AV.le_eq (by exact nm_int (by omega)))) ?_
    refine awp_skip ?_
    refine hK5 _ ?_
    refine awp_seq fun K7 hK7 => ?_
    refine awp_block ?_
    refine awp_seq fun K8 hK8 => ?_
    refine awp_region rfl ?_
    refine o_move (nm .u64 (r)) Gd.none rfl ?_
    refine n_mul (r) (1000000000) Gd.none rfl rfl (by simp only [topOf]; omega) ?_
    refine o_fieldRef 1 Gd.none Wc_tF79_1 rfl rfl ?_
    refine o_loadS (AV.sl 1 (ns .u32 (digs (z).natAbs))) Gd.none Wc_tS77 rfl rfl rfl ?_
    refine o_move (nm .i64 (j - 1)) Gd.none rfl ?_
    refine n_index (digs (z).natAbs) (j - 1) Gd.none Wc_tE77 rfl rfl (by omega) ?_
    refine n_loadI (digs (z).natAbs) (j - 1) Gd.none Wc_tS115 rfl (by omega) ?_
    refine n_conv ((digs (z).natAbs).getD (j - 1) 0) Gd.none rfl Wc_tI115 Wc_tI110 (by simp only [topOf]; omega) ?_
    refine n_add ((r) * (1000000000)) ((digs (z).natAbs).getD (j - 1) 0) Gd.none rfl rfl (by simp only [topOf]; omega) ?_
    refine o_assign (nm .u64 (((r) * (1000000000)) + ((digs (z).natAbs).getD (j - 1) 0))) Gd.none rfl ?_
    refine aops_end ?_
    refine hK8 _ ?_
    refine awp_seq fun K9 hK9 => ?_
    refine awp_region rfl ?_
    refine o_move (AV.row 4) Gd.none rfl ?_
    refine o_move (nm .i64 (j - 1)) Gd.none rfl ?_
    refine o_move (nm .u64 (((r) * (1000000000)) + ((digs (z).natAbs).getD (j - 1) 0))) Gd.none rfl ?_
    refine o_move (nm .i64 (d)) Gd.none rfl ?_
    refine n_conv (d) Gd.none rfl Wc_tI3 Wc_tI110 (by simp only [topOf]; omega) ?_
    refine n_quo (((r) * (1000000000)) + ((digs (z).natAbs).getD (j - 1) 0)) (d) Gd.none rfl rfl (by omega) (by simp only [topOf]; have := div_dig hr hA rfl; omega) ?_
    refine n_conv ((((r) * (1000000000)) + ((digs (z).natAbs).getD (j - 1) 0)) / (d)) Gd.none rfl Wc_tI110 Wc_tI115 (by simp only [topOf]; have := div_dig hr hA rfl; omega) ?_
    refine n_indexRow (o) (j - 1) Gd.none Wc_tE77 rfl rfl rfl (by omega) ?_
    refine n_storeRow (o) (j - 1) ((((r) * (1000000000)) + ((digs (z).natAbs).getD (j - 1) 0)) / (d)) [(2, (AO.var 79 [(bp (z < 0)), (AV.sl 1 (ns .u32 (digs (z).natAbs)))])), (3, (AO.var 79 [(AV.lit (.bool false)), (AV.lit (.slice none 0 0))])), (4, (AO.row 115 1 (ns .u32 ((o).set (j - 1) ((((r) * (1000000000)) + ((digs (z).natAbs).getD (j - 1) 0)) / (d))))))] Gd.none Wc_tZ115 rfl rfl rfl (by omega) rfl ?_
    refine aops_end ?_
    refine hK9 _ ?_
    refine awp_region rfl ?_
    refine o_move (nm .u64 (((r) * (1000000000)) + ((digs (z).natAbs).getD (j - 1) 0))) Gd.none rfl ?_
    refine o_move (nm .i64 (d)) Gd.none rfl ?_
    refine n_conv (d) Gd.none rfl Wc_tI3 Wc_tI110 (by simp only [topOf]; omega) ?_
    refine n_rem (((r) * (1000000000)) + ((digs (z).natAbs).getD (j - 1) 0)) (d) Gd.none rfl rfl (by omega) ?_
    refine o_assign (nm .u64 ((((r) * (1000000000)) + ((digs (z).natAbs).getD (j - 1) 0)) % (d))) Gd.none rfl ?_
    refine aops_end ?_
    refine hK7 _ ?_
    refine awp_region rfl ?_
    refine o_move (nm .i64 (j - 1)) Gd.none rfl ?_
    refine o_sub (a := (((j - 1 : Nat) : Int))) (c := (((1 : Nat) : Int))) Gd.none rfl rfl (by exact wrap64 (by omega) (by omega)) ?_
    refine o_assign (AV.lit (.int .i64 ((((j - 1 : Nat) : Int)) - (((1 : Nat) : Int))))) Gd.none rfl ?_
    refine aops_end ?_
    refine ⟨_, _, ?lt, ⟨j - 1, (o).set (j - 1) ((((r) * (1000000000)) + ((digs (z).natAbs).getD (j - 1) 0)) / (d)), (((r) * (1000000000)) + ((digs (z).natAbs).getD (j - 1) 0)) % (d), (by omega), (by simp only [List.length_set]; exact hl), (hd.set (div_dig hr hA rfl)), (Nat.mod_lt _ hd0), (div_step (by omega) hl hd0 (by rw [Nat.sub_add_cancel (by omega)]; exact hv) rfl), rfl, rfl⟩, ?wk⟩
    case lt => omega
    case wk => exact Wk.sub (And.intro (by exact rfl) (And.intro (by exact rfl) (And.intro (by exact rfl) (And.intro (by exact rfl) (And.intro (by first | rfl | exact congrArg (nm _) (by omega) | exact nm_int (by omega) | exact nm_int (by simp [IntKind.wrap, IntKind.bits, IntKind.signed]; omega)) (And.intro (by first | rfl | exact int_eq (by omega) | exact int_nm (by omega)) (trivial))))))) (And.intro (by first | rfl | exact row_ns (by simp) | exact congrArg (fun x => some (AO.blk (.stringIter _ x))) (by omega)) (And.intro (by first | rfl | exact row_ns (by simp) | exact congrArg (fun x => some (AO.blk (.stringIter _ x))) (by omega)) (And.intro (by first | rfl | exact row_ns (by simp) | exact congrArg (fun x => some (AO.blk (.stringIter _ x))) (by omega)) (trivial))))
  · have hj0 : j = 0 := by omega
    have hv0 := hv
    rw [hj0] at hv0
    have hE := div_end hr hv0
    have hq := hE.1
    have hq1 := len_div hE.1 hz (decide (z < 0))
    have hq2 := len_one
    refine awp_exit ?_
    refine hK3 _ ?_
    refine awp_seq fun K10 hK10 => ?_
    refine awp_region rfl ?_
    refine o_fieldRef 0 Gd.none Wc_tF79_0 rfl rfl ?_
    refine o_loadS (bp (z < 0)) Gd.none Wc_tS4 rfl rfl rfl ?_
    refine o_move (AV.row 4) Gd.none rfl ?_
    refine o_callG [(4, 1, (ns .u32 (o)))] [(bp (z < 0)), (AV.sl 1 (ns .u32 (o)))] _ (intW ((sg (decide (z < 0)) (val (o))))) [(2, (AO.var 79 [(bp (z < 0)), (AV.sl 1 (ns .u32 (digs (z).natAbs)))])), (3, (AO.var 79 [(AV.lit (.bool false)), (AV.lit (.slice none 0 0))]))] Gd.none Wc_tC81 rfl (And.intro ⟨_, rfl⟩ (trivial)) rfl rfl (LeL.cons (AV.le_refl _) (LeL.cons (AV.le_refl _) (LeL.nil))) (c_wTrim (decide (z < 0)) (o) (by first | assumption | exact dgn_dig _ _ | exact digs_dig _ | exact Dig.snoc (by assumption) (by assumption) | exact Dig.cons (by omega) (digs_dig _))) rfl ?_
    refine o_alloc 101 [(AV.lit (.bool false)), (AV.lit (.slice none 0 0))] Gd.none Wc_tO79 rfl rfl rfl ?_
    refine o_store [(101, (AO.var 79 [(bp ((sg (decide (z < 0)) (val (o))) < 0)), (AV.sl 1 (ns .u32 (digs ((sg (decide (z < 0)) (val (o)))).natAbs)))])), (2, (AO.var 79 [(bp (z < 0)), (AV.sl 1 (ns .u32 (digs (z).natAbs)))])), (3, (AO.var 79 [(AV.lit (.bool false)), (AV.lit (.slice none 0 0))]))] Gd.none Wc_tZ79 rfl rfl rfl rfl rfl rfl ?_
    refine aops_end ?_
    refine hK10 _ ?_
    refine awp_seq fun K11 hK11 => ?_
    refine awp_seq fun K12 hK12 => ?_
    refine awp_region rfl ?_
    refine o_fieldRef 0 Gd.none Wc_tF79_0 rfl rfl ?_
    refine o_loadS (bp (z < 0)) Gd.none Wc_tS4 rfl rfl rfl ?_
    refine o_move (bp (z < 0)) Gd.none rfl ?_
    refine o_splitP (q := z < 0) 50 rfl (fun h2 => ?_) (fun h2 => ?_)
    · refine o_move (nm .u64 (r)) (Gd.yes rfl rfl (decide_eq_true h2)) rfl ?_
      refine n_gtr (r) (0) (Gd.yes rfl rfl (decide_eq_true h2)) rfl rfl ?_
      refine o_pickT (b := decide (z < 0)) (bp ((0) < (r))) Gd.none rfl (decide_eq_true h2) rfl ?_
      refine aops_end ?_
      refine hK12 _ ?_
      refine awp_condQ (q := (0) < (r)) rfl (fun h3 => ?_) (fun h3 => ?_)
      · refine awp_seq fun K13 hK13 => ?_
        refine awp_regionD rfl ?_
        refine o_loadA [(bp ((sg (decide (z < 0)) (val (o))) < 0)), (AV.sl 1 (ns .u32 (digs ((sg (decide (z < 0)) (val (o)))).natAbs)))] Gd.none Wc_tA79 rfl rfl rfl rfl rfl ?_
        refine o_call [(nm .i64 (1))] (intW ((1 : Int))) Gd.none Wc_tC59 rfl (c_wOf ((1 : Int)) (by first | decide | omega) (by first | decide | omega)) ?_
        refine o_call [(AV.agg [(bp ((sg (decide (z < 0)) (val (o))) < 0)), (AV.sl 1 (ns .u32 (digs ((sg (decide (z < 0)) (val (o)))).natAbs)))]), (intW ((1 : Int)))] (intW (((sg (decide (z < 0)) (val (o))) - (1 : Int)))) Gd.none Wc_tC90 rfl (c_wSub ((sg (decide (z < 0)) (val (o)))) ((1 : Int)) (by first | assumption | omega | (simp only [Int.natAbs_neg]; omega)) (by first | assumption | omega | (simp only [Int.natAbs_neg]; omega))) ?_
        refine o_move (nm .i64 (d)) Gd.none rfl ?_
        refine o_move (nm .u64 (r)) Gd.none rfl ?_
        refine n_conv (r) Gd.none rfl Wc_tI110 Wc_tI3 (by simp only [topOf]; omega) ?_
        refine o_sub (a := (((d : Nat) : Int))) (c := (((r : Nat) : Int))) Gd.none rfl rfl (by exact wrap64 (by omega) (by omega)) ?_
        refine o_store [(101, (AO.var 79 [(bp ((sg (decide (z < 0)) (val (o))) < 0)), (AV.sl 1 (ns .u32 (digs ((sg (decide (z < 0)) (val (o)))).natAbs)))])), (2, (AO.var 79 [(bp (z < 0)), (AV.sl 1 (ns .u32 (digs (z).natAbs)))])), (3, (AO.var 79 [(bp (((sg (decide (z < 0)) (val (o))) - (1 : Int)) < 0)), (AV.sl 1 (ns .u32 (digs (((sg (decide (z < 0)) (val (o))) - (1 : Int))).natAbs)))]))] Gd.none Wc_tZ79 rfl rfl rfl rfl rfl rfl ?_
        refine o_assign (AV.lit (.int .i64 ((((d : Nat) : Int)) - (((r : Nat) : Int))))) Gd.none rfl ?_
        refine aops_end ⟨by kernel_rfl, ?_⟩
        refine hK13 _ ?_
        refine awp_ret ?_
        refine post_ret ⟨[(AV.agg [(bp (((sg (decide (z < 0)) (val (o))) - (1 : Int)) < 0)), (AV.sl 1 (ns .u32 (digs (((sg (decide (z < 0)) (val (o))) - (1 : Int))).natAbs)))]), (AV.lit (.int .i64 ((((d : Nat) : Int)) - (((r : Nat) : Int)))))], And.intro ⟨3, (AO.var 79 [(bp (((sg (decide (z < 0)) (val (o))) - (1 : Int)) < 0)), (AV.sl 1 (ns .u32 (digs (((sg (decide (z < 0)) (val (o))) - (1 : Int))).natAbs)))]), rfl, rfl, rfl, Or.inl ⟨Wc_tA79, AV.le_refl _⟩⟩ (And.intro (AV.le_refl _) (trivial)), rfl, ?_⟩
        have e := part3 h2 hd0 hE.1 hE.2 (by omega)
        exact tup_eq2 (congrArg (intK .u32) (e.1.trans (by simp [sg, h2]))) (int_eq e.2)
      · refine awp_skip ?_
        refine hK11 _ ?_
        refine awp_seq fun K14 hK14 => ?_
        refine awp_region rfl ?_
        refine o_loadA [(bp ((sg (decide (z < 0)) (val (o))) < 0)), (AV.sl 1 (ns .u32 (digs ((sg (decide (z < 0)) (val (o)))).natAbs)))] Gd.none Wc_tA79 rfl rfl rfl rfl rfl ?_
        refine o_move (nm .u64 (r)) Gd.none rfl ?_
        refine n_conv (r) Gd.none rfl Wc_tI110 Wc_tI3 (by simp only [topOf]; omega) ?_
        refine o_store [(101, (AO.var 79 [(bp ((sg (decide (z < 0)) (val (o))) < 0)), (AV.sl 1 (ns .u32 (digs ((sg (decide (z < 0)) (val (o)))).natAbs)))])), (2, (AO.var 79 [(bp (z < 0)), (AV.sl 1 (ns .u32 (digs (z).natAbs)))])), (3, (AO.var 79 [(bp ((sg (decide (z < 0)) (val (o))) < 0)), (AV.sl 1 (ns .u32 (digs ((sg (decide (z < 0)) (val (o)))).natAbs)))]))] Gd.none Wc_tZ79 rfl rfl rfl rfl rfl rfl ?_
        refine o_assign (nm .i64 (r)) Gd.none rfl ?_
        refine aops_end ?_
        refine hK14 _ ?_
        refine awp_ret ?_
        refine post_ret ⟨[(AV.agg [(bp ((sg (decide (z < 0)) (val (o))) < 0)), (AV.sl 1 (ns .u32 (digs ((sg (decide (z < 0)) (val (o)))).natAbs)))]), (nm .i64 (r))], And.intro ⟨3, (AO.var 79 [(bp ((sg (decide (z < 0)) (val (o))) < 0)), (AV.sl 1 (ns .u32 (digs ((sg (decide (z < 0)) (val (o)))).natAbs)))]), rfl, rfl, rfl, Or.inl ⟨Wc_tA79, AV.le_refl _⟩⟩ (And.intro (AV.le_refl _) (trivial)), rfl, ?_⟩
        have e := part2 h2 hd0 hE.1 hE.2 (by omega)
        exact tup_eq2 (congrArg (intK .u32) (e.1.trans (by simp [sg, h2]))) (int_eq (e.2.trans (by omega)))
    · refine o_skip (b := decide (z < 0)) rfl rfl (decide_eq_false h2) ?_
      refine o_skip (b := decide (z < 0)) rfl rfl (decide_eq_false h2) ?_
      refine o_pickF (b := decide (z < 0)) (AV.lit (.bool false)) Gd.none rfl (decide_eq_false h2) rfl ?_
      refine aops_end ?_
      refine hK12 _ ?_
      refine awp_condB (b := false) rfl (fun hh => absurd (hh.symm.trans rfl) (by decide)) (fun _ => ?_)
      refine awp_skip ?_
      refine hK11 _ ?_
      refine awp_seq fun K15 hK15 => ?_
      refine awp_region rfl ?_
      refine o_loadA [(bp ((sg (decide (z < 0)) (val (o))) < 0)), (AV.sl 1 (ns .u32 (digs ((sg (decide (z < 0)) (val (o)))).natAbs)))] Gd.none Wc_tA79 rfl rfl rfl rfl rfl ?_
      refine o_move (nm .u64 (r)) Gd.none rfl ?_
      refine n_conv (r) Gd.none rfl Wc_tI110 Wc_tI3 (by simp only [topOf]; omega) ?_
      refine o_store [(101, (AO.var 79 [(bp ((sg (decide (z < 0)) (val (o))) < 0)), (AV.sl 1 (ns .u32 (digs ((sg (decide (z < 0)) (val (o)))).natAbs)))])), (2, (AO.var 79 [(bp (z < 0)), (AV.sl 1 (ns .u32 (digs (z).natAbs)))])), (3, (AO.var 79 [(bp ((sg (decide (z < 0)) (val (o))) < 0)), (AV.sl 1 (ns .u32 (digs ((sg (decide (z < 0)) (val (o)))).natAbs)))]))] Gd.none Wc_tZ79 rfl rfl rfl rfl rfl rfl ?_
      refine o_assign (nm .i64 (r)) Gd.none rfl ?_
      refine aops_end ?_
      refine hK15 _ ?_
      refine awp_ret ?_
      refine post_ret ⟨[(AV.agg [(bp ((sg (decide (z < 0)) (val (o))) < 0)), (AV.sl 1 (ns .u32 (digs ((sg (decide (z < 0)) (val (o)))).natAbs)))]), (nm .i64 (r))], And.intro ⟨3, (AO.var 79 [(bp ((sg (decide (z < 0)) (val (o))) < 0)), (AV.sl 1 (ns .u32 (digs ((sg (decide (z < 0)) (val (o)))).natAbs)))]), rfl, rfl, rfl, Or.inl ⟨Wc_tA79, AV.le_refl _⟩⟩ (And.intro (AV.le_refl _) (trivial)), rfl, ?_⟩
      have e := part1 h2 hd0 hE.1 hE.2
      exact tup_eq2 (congrArg (intK .u32) (e.1.trans (by simp [sg, h2]))) (int_eq e.2)

end Go.Proofs.YtbilndahjkimkaaDoor

set_option linter.unusedVariables false
set_option linter.unusedSimpArgs false
namespace Go.Proofs.YtbilndahjkimkaaDoor
open Go Go.Ab Go.Mth
theorem Wd_tF36_1 : tyField cx.P 36 1 = some (1, 22) := by kernel_rfl
theorem Wd_tS22 : tySc cx.P 22 = true := by kernel_rfl
theorem Wd_tU22 : cx.P.underlying 22 = some (.slice 3) := by kernel_rfl
theorem Wd_tE22 : tyElem cx.P 22 = some (3, 1, 8) := by kernel_rfl
theorem Wd_tS3 : tySc cx.P 3 = true := by kernel_rfl
theorem Wd_tI3 : tyInt cx.P 3 = some .i64 := by kernel_rfl
theorem Wd_tI5 : tyInt cx.P 5 = some .u8 := by kernel_rfl
theorem Wd_tE101 : tyElem cx.P 101 = some (5, 1, 1) := by kernel_rfl
theorem Wd_tO5 : tyZero cx.P 5 = some [(Go.Value.int IntKind.u8 0)] := by kernel_rfl
theorem Wd_tF36_0 : tyField cx.P 36 0 = some (0, 4) := by kernel_rfl
theorem Wd_tS4 : tySc cx.P 4 = true := by kernel_rfl
theorem Wd_tU101 : cx.P.underlying 101 = some (.slice 5) := by kernel_rfl
theorem Wd_tS5 : tySc cx.P 5 = true := by kernel_rfl
theorem Wd_tQ5 : cx.P.underlying 5 = some (.int .u8) := by kernel_rfl
theorem Wd_tT9 : cx.P.underlying 9 = some .string := by kernel_rfl
theorem c_rText (z : Int) (hz : (digs z.natAbs).length ≤ 1000000000) : ECalls cx 27 [(intR (z))] (.lit (.string (txt z))) := by
  refine ecalls_of_awp Tryd.func27 (c := _) rfl (Nat.le_of_ble_eq_true rfl) ?_
  show awp cx 71 _ (postF cx Tryd.f27 _) ⟨[(0, (intR (z)))], []⟩
  refine awp_seq fun K0 hK0 => ?_
  refine awp_region rfl ?_
  refine o_box 2 [(bp (z < 0)), (AV.sl 1 (ns .i64 (digs (z).natAbs)))] Gd.none rfl rfl ?_
  refine o_assign (AV.lit (.string (({data := #[]} : ByteArray)))) Gd.none rfl ?_
  refine aops_end ?_
  refine hK0 _ ?_
  refine awp_seq fun K1 hK1 => ?_
  refine awp_seq fun K2 hK2 => ?_
  refine awp_region rfl ?_
  refine o_fieldRef 1 Gd.none Wd_tF36_1 rfl rfl ?_
  refine o_loadS (AV.sl 1 (ns .i64 (digs (z).natAbs))) Gd.none Wd_tS22 rfl rfl rfl ?_
  refine n_len (digs (z).natAbs) Gd.none Wd_tU22 rfl ?_
  refine n_eql ((digs (z).natAbs).length) (0) Gd.none rfl rfl ?_
  refine aops_end ?_
  refine hK2 _ ?_
  refine awp_condQ (q := ((digs (z).natAbs).length) = (0)) rfl (fun h1 => ?_) (fun h1 => ?_)
  · refine awp_seq fun K3 hK3 => ?_
    refine awp_region rfl ?_
    refine o_assign (AV.lit (.string (({data := #[48]} : ByteArray)))) Gd.none rfl ?_
    refine aops_end ?_
    refine hK3 _ ?_
    refine awp_ret ?_
    refine post_ret ⟨[(AV.lit (.string (({data := #[48]} : ByteArray))))], And.intro (AV.le_refl _) (trivial), rfl, ?_⟩
    rw [show z = 0 by have := digs_len_zero.1 h1; omega]
    rfl
  · have hz0 : z.natAbs ≠ 0 := fun e => h1 (digs_len_zero.2 e)
    have hdl := decs_len_le z.natAbs
    refine awp_skip ?_
    refine hK1 _ ?_
    refine awp_seq fun K4 hK4 => ?_
    refine awp_region rfl ?_
    refine o_assign (AV.lit (.slice none 0 0)) Gd.none rfl ?_
    refine aops_end ?_
    refine hK4 _ ?_
    refine awp_seq fun K5 hK5 => ?_
    refine awp_seq fun K6 hK6 => ?_
    refine awp_region rfl ?_
    refine o_assign (nm .i64 (0)) Gd.none rfl ?_
    refine aops_end ?_
    refine hK6 _ ?_
    refine awp_block ?_
    refine awp_loopR (fun κ σ => ∃ (i : Nat), ∃ (bk : List Nat), (i ≤ (digs z.natAbs).length) ∧ (bk ++ decs (val ((digs z.natAbs).drop i)) = decs z.natAbs) ∧ ((digs z.natAbs).length - i) = κ ∧ σ = ⟨[(1, (AV.ref 2 (0))), (3, (AV.row 3)), (4, (nm .i64 (i)))], [(2, (AO.var 36 [(bp (z < 0)), (AV.sl 1 (ns .i64 (digs (z).natAbs)))])), (3, (AO.row 5 1 (ns .u8 (bk))))]⟩) ⟨_, _, ⟨0, [], (by omega), (by simp [val_digs]), rfl, rfl⟩, ?wk0⟩ ?rd0
    case wk0 =>
      exact Wk.trans (Wk.newNil (i := 3) (id := 503) (e := 5) (sz := 1) rfl rfl (by decide)) (Wk.trans (Wk.sub (σ' := ⟨[(1, (AV.ref 2 (0))), (3, (AV.row 503)), (4, (nm .i64 (0)))], [(2, (AO.var 36 [(bp (z < 0)), (AV.sl 1 (ns .i64 (digs (z).natAbs)))])), (503, (AO.row 5 1 (ns .u8 ([]))))]⟩) (And.intro rfl (And.intro rfl (And.intro rfl (trivial)))) (And.intro rfl (And.intro rfl (trivial)))) (Wk.trans (Wk.ren (id := 503) (id' := 3) rfl) (Wk.sub (And.intro (by exact rfl) (And.intro (by first | rfl | (simp)) (And.intro (by first | rfl | exact congrArg (nm _) (by omega) | exact nm_int (by omega) | exact nm_int (by simp [IntKind.wrap, IntKind.bits, IntKind.signed]; omega)) (trivial)))) (And.intro (by first | rfl | exact row_ns (by simp) | exact congrArg (fun x => some (AO.blk (.stringIter _ x))) (by omega)) (And.intro (by first | rfl | exact row_ns (by simp) | exact congrArg (fun x => some (AO.blk (.stringIter _ x))) (by omega)) (trivial))))))
    rintro κ _ ⟨i, bk, hi, hv, rfl, rfl⟩
    have hA := (digs_dig z.natAbs).getD i
    refine awp_seq fun K7 hK7 => ?_
    refine awp_seq fun K8 hK8 => ?_
    refine awp_region rfl ?_
    refine o_move (nm .i64 (i)) Gd.none rfl ?_
    refine o_fieldRef 1 Gd.none Wd_tF36_1 rfl rfl ?_
    refine o_loadS (AV.sl 1 (ns .i64 (digs (z).natAbs))) Gd.none Wd_tS22 rfl rfl rfl ?_
    refine n_len (digs (z).natAbs) Gd.none Wd_tU22 rfl ?_
    refine n_lss (i) ((digs (z).natAbs).length) Gd.none rfl rfl ?_
    refine aops_end ?_
    refine hK8 _ ?_
    refine awp_condQ (q := (i) < ((digs (z).natAbs).length)) rfl (fun h2 => ?_) (fun h2 => ?_)
    · refine awp_skip ?_
      refine hK7 _ ?_
      refine awp_seq fun K9 hK9 => ?_
      refine awp_block ?_
      refine awp_seq fun K10 hK10 => ?_
      refine awp_region rfl ?_
      refine o_fieldRef 1 Gd.none Wd_tF36_1 rfl rfl ?_
      refine o_loadS (AV.sl 1 (ns .i64 (digs (z).natAbs))) Gd.none Wd_tS22 rfl rfl rfl ?_
      refine o_move (nm .i64 (i)) Gd.none rfl ?_
      refine n_index (digs (z).natAbs) (i) Gd.none Wd_tE22 rfl rfl (by omega) ?_
      refine n_loadI (digs (z).natAbs) (i) Gd.none Wd_tS3 rfl (by omega) ?_
      refine o_assign (nm .i64 ((digs (z).natAbs).getD (i) 0)) Gd.none rfl ?_
      refine aops_end ?_
      refine hK10 _ ?_
      refine awp_seq fun K11 hK11 => ?_
      refine awp_region rfl ?_
      refine o_assign (nm .i64 (0)) Gd.none rfl ?_
      refine aops_end ?_
      refine hK11 _ ?_
      refine awp_block ?_
      refine awp_loopR (fun κ σ => ∃ (k : Nat), ∃ (p : Nat), ∃ (bk : List Nat), (k ≤ 9) ∧ (p < 10 ^ (9 - k)) ∧ (p < 1000000000) ∧ (bk ++ decs (p + 10 ^ (9 - k) * val ((digs z.natAbs).drop (i + 1))) = decs z.natAbs) ∧ (9 - k) = κ ∧ σ = ⟨[(1, (AV.ref 2 (0))), (3, (AV.row 3)), (4, (nm .i64 (i))), (5, (nm .i64 (p))), (6, (nm .i64 (k)))], [(2, (AO.var 36 [(bp (z < 0)), (AV.sl 1 (ns .i64 (digs (z).natAbs)))])), (3, (AO.row 5 1 (ns .u8 (bk))))]⟩) ⟨_, _, ⟨0, _, bk, (by omega), (by simpa using hA), hA, (by rw [← drop_hi (by omega)]; exact hv), rfl, rfl⟩, ?wk1⟩ ?rd1
      case wk1 =>
        exact Wk.sub (And.intro (by exact rfl) (And.intro (by exact rfl) (And.intro (by exact rfl) (And.intro (by first | rfl | exact congrArg (nm _) (by omega) | exact nm_int (by omega) | exact nm_int (by simp [IntKind.wrap, IntKind.bits, IntKind.signed]; omega)) (And.intro (by first | rfl | exact congrArg (nm _) (by omega) | exact nm_int (by omega) | exact nm_int (by simp [IntKind.wrap, IntKind.bits, IntKind.signed]; omega)) (trivial)))))) (And.intro (by first | rfl | exact row_ns (by simp) | exact congrArg (fun x => some (AO.blk (.stringIter _ x))) (by omega)) (And.intro (by first | rfl | exact row_ns (by simp) | exact congrArg (fun x => some (AO.blk (.stringIter _ x))) (by omega)) (trivial)))
      rintro κ _ ⟨k, p, bk, hk, hp, hp2, hw, rfl, rfl⟩
      have hpos : i + 1 < (digs z.natAbs).length → 0 < 10 ^ (9 - k) * val ((digs z.natAbs).drop (i + 1)) := fun h => Nat.mul_pos (Nat.pow_pos (by decide)) (val_drop_pos h)
      refine awp_seq fun K12 hK12 => ?_
      refine awp_seq fun K13 hK13 => ?_
      refine awp_region rfl ?_
      refine o_move (nm .i64 (k)) Gd.none rfl ?_
      refine n_lss (k) (9) Gd.none rfl rfl ?_
      refine o_move (bp ((k) < (9))) Gd.none rfl ?_
      refine o_splitP (q := (k) < (9)) 27 rfl (fun h3 => ?_) (fun h3 => ?_)
      · refine o_move (nm .i64 (p)) (Gd.yes rfl rfl (decide_eq_true h3)) rfl ?_
        refine n_gtr (p) (0) (Gd.yes rfl rfl (decide_eq_true h3)) rfl rfl ?_
        refine o_move (bp ((0) < (p))) (Gd.yes rfl rfl (decide_eq_true h3)) rfl ?_
        refine o_splitP (q := (0) < (p)) 30 rfl (fun h4 => ?_) (fun h4 => ?_)
        · refine o_skip (b := decide ((0) < (p))) rfl rfl (decide_eq_true h4) ?_
          refine o_skip (b := decide ((0) < (p))) rfl rfl (decide_eq_true h4) ?_
          refine o_skip (b := decide ((0) < (p))) rfl rfl (decide_eq_true h4) ?_
          refine o_skip (b := decide ((0) < (p))) rfl rfl (decide_eq_true h4) ?_
          refine o_skip (b := decide ((0) < (p))) rfl rfl (decide_eq_true h4) ?_
          refine o_skip (b := decide ((0) < (p))) rfl rfl (decide_eq_true h4) ?_
          refine o_pickT (b := decide ((0) < (p))) (AV.lit (.bool true)) (Gd.yes rfl rfl (decide_eq_true h3)) rfl (decide_eq_true h4) rfl ?_
          refine o_pickT (b := decide ((k) < (9))) (AV.lit (.bool true)) Gd.none rfl (decide_eq_true h3) rfl ?_
          refine aops_end ?_
          refine hK13 _ ?_
          refine awp_condB (b := true) rfl (fun _ => ?_) (fun hh => absurd (hh.symm.trans rfl) (by decide))
          refine awp_skip ?_
          refine hK12 _ ?_
          refine awp_seq fun K14 hK14 => ?_
          refine awp_block ?_
          refine awp_seq fun K15 hK15 => ?_
          refine awp_region rfl ?_
          refine o_move (AV.row 3) Gd.none rfl ?_
          refine o_move (nm .i64 (p)) Gd.none rfl ?_
          refine n_rem (p) (10) Gd.none rfl rfl (by omega) ?_
          refine n_add (48) ((p) % (10)) Gd.none rfl rfl (by simp only [topOf]; omega) ?_
          refine n_conv ((48) + ((p) % (10))) Gd.none rfl Wd_tI3 Wd_tI5 (by simp only [topOf]; omega) ?_
          refine o_buildSlice 201 (ns .u8 ([(48) + ((p) % (10))])) [(0, [(nm .u8 ((48) + ((p) % (10))))])] Gd.none Wd_tE101 rfl Wd_tO5 rfl rfl rfl rfl rfl rfl rfl ?_
          refine n_append 202 (bk) ([(48) + ((p) % (10))]) [(201, (AO.row 5 1 (ns .u8 ([(48) + ((p) % (10))])))), (2, (AO.var 36 [(bp (z < 0)), (AV.sl 1 (ns .i64 (digs (z).natAbs)))]))] Gd.none Wd_tE101 Wd_tO5 rfl rfl rfl rfl rfl (by simp only [List.length_append, List.length_cons, List.length_nil]; have := bk_len hw (by first | omega | (have := hpos (by omega); omega)) hz; omega) (by decide) rfl rfl ?_
          refine o_assign (AV.row 202) Gd.none rfl ?_
          refine aops_end ?_
          refine hK15 _ ?_
          refine awp_region rfl ?_
          refine o_move (nm .i64 (p)) Gd.none rfl ?_
          refine n_quo (p) (10) Gd.none rfl rfl (by omega) (by simp only [topOf]; omega) ?_
          refine o_assign (nm .i64 ((p) / (10))) Gd.none rfl ?_
          refine aops_end ?_
          refine hK14 _ ?_
          refine awp_region rfl ?_
          refine o_move (nm .i64 (k)) Gd.none rfl ?_
          refine n_add (k) (1) Gd.none rfl rfl (by simp only [topOf]; omega) ?_
          refine o_assign (nm .i64 ((k) + (1))) Gd.none rfl ?_
          refine aops_end ?_
          refine ⟨_, _, ?lt, ⟨k + 1, (p) / (10), (bk) ++ ([(48) + ((p) % (10))]), (by omega), (by rw [Nat.div_lt_iff_lt_mul (by decide), ← Nat.pow_succ, show Nat.succ (9 - (k + 1)) = 9 - k by omega]; exact hp), (by omega), (text_step (by omega) (by first | omega | (have := hpos (by omega); omega)) hw), rfl, rfl⟩, ?wk⟩
          case lt => omega
          case wk => exact Wk.trans (Wk.sub (σ' := ⟨[(1, (AV.ref 2 (0))), (3, (AV.row 202)), (4, (nm .i64 (i))), (5, (nm .i64 ((p) / (10)))), (6, (nm .i64 ((k) + (1))))], [(2, (AO.var 36 [(bp (z < 0)), (AV.sl 1 (ns .i64 (digs (z).natAbs)))])), (202, (AO.row 5 1 (ns .u8 ((bk) ++ ([(48) + ((p) % (10))])))))]⟩) (And.intro rfl (And.intro rfl (And.intro rfl (And.intro rfl (And.intro rfl (trivial)))))) (And.intro rfl (And.intro rfl (trivial)))) (Wk.trans (Wk.ren (id := 202) (id' := 3) rfl) (Wk.sub (And.intro (by exact rfl) (And.intro (by first | rfl | (simp)) (And.intro (by exact rfl) (And.intro (by first | rfl | exact congrArg (nm _) (by omega) | exact nm_int (by omega) | exact nm_int (by simp [IntKind.wrap, IntKind.bits, IntKind.signed]; omega)) (And.intro (by first | rfl | exact congrArg (nm _) (by omega) | exact nm_int (by omega) | exact nm_int (by simp [IntKind.wrap, IntKind.bits, IntKind.signed]; omega)) (trivial)))))) (And.intro (by first | rfl | exact row_ns (by simp) | exact congrArg (fun x => some (AO.blk (.stringIter _ x))) (by omega)) (And.intro (by first | rfl | exact row_ns (by simp) | exact congrArg (fun x => some (AO.blk (.stringIter _ x))) (by omega)) (trivial)))))
        · refine o_move (nm .i64 (i)) (Gd.yes rfl rfl (decide_eq_false h4)) rfl ?_
          refine o_fieldRef 1 (Gd.yes rfl rfl (decide_eq_false h4)) Wd_tF36_1 rfl rfl ?_
          refine o_loadS (AV.sl 1 (ns .i64 (digs (z).natAbs))) (Gd.yes rfl rfl (decide_eq_false h4)) Wd_tS22 rfl rfl rfl ?_
          refine n_len (digs (z).natAbs) (Gd.yes rfl rfl (decide_eq_false h4)) Wd_tU22 rfl ?_
          refine n_sub ((digs (z).natAbs).length) (1) (Gd.yes rfl rfl (decide_eq_false h4)) rfl rfl (by omega) (by simp only [topOf]; omega) ?_
          refine n_lss (i) (((digs (z).natAbs).length) - (1)) (Gd.yes rfl rfl (decide_eq_false h4)) rfl rfl ?_
          refine o_pickF (b := decide ((0) < (p))) (bp ((i) < (((digs (z).natAbs).length) - (1)))) (Gd.yes rfl rfl (decide_eq_true h3)) rfl (decide_eq_false h4) rfl ?_
          refine o_pickT (b := decide ((k) < (9))) (bp ((i) < (((digs (z).natAbs).length) - (1)))) Gd.none rfl (decide_eq_true h3) rfl ?_
          refine aops_end ?_
          refine hK13 _ ?_
          refine awp_condQ (q := (i) < (((digs (z).natAbs).length) - (1))) rfl (fun h5 => ?_) (fun h5 => ?_)
          · refine awp_skip ?_
            refine hK12 _ ?_
            refine awp_seq fun K16 hK16 => ?_
            refine awp_block ?_
            refine awp_seq fun K17 hK17 => ?_
            refine awp_region rfl ?_
            refine o_move (AV.row 3) Gd.none rfl ?_
            refine o_move (nm .i64 (p)) Gd.none rfl ?_
            refine n_rem (p) (10) Gd.none rfl rfl (by omega) ?_
            refine n_add (48) ((p) % (10)) Gd.none rfl rfl (by simp only [topOf]; omega) ?_
            refine n_conv ((48) + ((p) % (10))) Gd.none rfl Wd_tI3 Wd_tI5 (by simp only [topOf]; omega) ?_
            refine o_buildSlice 201 (ns .u8 ([(48) + ((p) % (10))])) [(0, [(nm .u8 ((48) + ((p) % (10))))])] Gd.none Wd_tE101 rfl Wd_tO5 rfl rfl rfl rfl rfl rfl rfl ?_
            refine n_append 202 (bk) ([(48) + ((p) % (10))]) [(201, (AO.row 5 1 (ns .u8 ([(48) + ((p) % (10))])))), (2, (AO.var 36 [(bp (z < 0)), (AV.sl 1 (ns .i64 (digs (z).natAbs)))]))] Gd.none Wd_tE101 Wd_tO5 rfl rfl rfl rfl rfl (by simp only [List.length_append, List.length_cons, List.length_nil]; have := bk_len hw (by first | omega | (have := hpos (by omega); omega)) hz; omega) (by decide) rfl rfl ?_
            refine o_assign (AV.row 202) Gd.none rfl ?_
            refine aops_end ?_
            refine hK17 _ ?_
            refine awp_region rfl ?_
            refine o_move (nm .i64 (p)) Gd.none rfl ?_
            refine n_quo (p) (10) Gd.none rfl rfl (by omega) (by simp only [topOf]; omega) ?_
            refine o_assign (nm .i64 ((p) / (10))) Gd.none rfl ?_
            refine aops_end ?_
            refine hK16 _ ?_
            refine awp_region rfl ?_
            refine o_move (nm .i64 (k)) Gd.none rfl ?_
            refine n_add (k) (1) Gd.none rfl rfl (by simp only [topOf]; omega) ?_
            refine o_assign (nm .i64 ((k) + (1))) Gd.none rfl ?_
            refine aops_end ?_
            refine ⟨_, _, ?lt, ⟨k + 1, (p) / (10), (bk) ++ ([(48) + ((p) % (10))]), (by omega), (by rw [Nat.div_lt_iff_lt_mul (by decide), ← Nat.pow_succ, show Nat.succ (9 - (k + 1)) = 9 - k by omega]; exact hp), (by omega), (text_step (by omega) (by first | omega | (have := hpos (by omega); omega)) hw), rfl, rfl⟩, ?wk⟩
            case lt => omega
            case wk => exact Wk.trans (Wk.sub (σ' := ⟨[(1, (AV.ref 2 (0))), (3, (AV.row 202)), (4, (nm .i64 (i))), (5, (nm .i64 ((p) / (10)))), (6, (nm .i64 ((k) + (1))))], [(2, (AO.var 36 [(bp (z < 0)), (AV.sl 1 (ns .i64 (digs (z).natAbs)))])), (202, (AO.row 5 1 (ns .u8 ((bk) ++ ([(48) + ((p) % (10))])))))]⟩) (And.intro rfl (And.intro rfl (And.intro rfl (And.intro rfl (And.intro rfl (trivial)))))) (And.intro rfl (And.intro rfl (trivial)))) (Wk.trans (Wk.ren (id := 202) (id' := 3) rfl) (Wk.sub (And.intro (by exact rfl) (And.intro (by first | rfl | (simp)) (And.intro (by exact rfl) (And.intro (by first | rfl | exact congrArg (nm _) (by omega) | exact nm_int (by omega) | exact nm_int (by simp [IntKind.wrap, IntKind.bits, IntKind.signed]; omega)) (And.intro (by first | rfl | exact congrArg (nm _) (by omega) | exact nm_int (by omega) | exact nm_int (by simp [IntKind.wrap, IntKind.bits, IntKind.signed]; omega)) (trivial)))))) (And.intro (by first | rfl | exact row_ns (by simp) | exact congrArg (fun x => some (AO.blk (.stringIter _ x))) (by omega)) (And.intro (by first | rfl | exact row_ns (by simp) | exact congrArg (fun x => some (AO.blk (.stringIter _ x))) (by omega)) (trivial)))))
          · refine awp_exit ?_
            refine hK9 _ ?_
            refine awp_region rfl ?_
            refine o_move (nm .i64 (i)) Gd.none rfl ?_
            refine n_add (i) (1) Gd.none rfl rfl (by simp only [topOf]; omega) ?_
            refine o_assign (nm .i64 ((i) + (1))) Gd.none rfl ?_
            refine aops_end ?_
            have h0 : val ((digs z.natAbs).drop (i + 1)) = 0 := val_drop_all (by omega)
            have hh := hw
            rw [h0, show p = 0 by omega, Nat.mul_zero] at hh
            have hend : bk ++ decs (val ((digs z.natAbs).drop (i + 1))) = decs z.natAbs := by rw [h0]; exact hh
            refine ⟨_, _, ?lt, ⟨i + 1, bk, (by omega), hend, rfl, rfl⟩, ?wk⟩
            case lt => omega
            case wk => exact Wk.sub (And.intro (by exact rfl) (And.intro (by exact rfl) (And.intro (by first | rfl | exact congrArg (nm _) (by omega) | exact nm_int (by omega) | exact nm_int (by simp [IntKind.wrap, IntKind.bits, IntKind.signed]; omega)) (trivial)))) (And.intro (by first | rfl | exact row_ns (by simp) | exact congrArg (fun x => some (AO.blk (.stringIter _ x))) (by omega)) (And.intro (by first | rfl | exact row_ns (by simp) | exact congrArg (fun x => some (AO.blk (.stringIter _ x))) (by omega)) (trivial)))
      · refine o_skip (b := decide ((k) < (9))) rfl rfl (decide_eq_false h3) ?_
        refine o_skip (b := decide ((k) < (9))) rfl rfl (decide_eq_false h3) ?_
        refine o_skip (b := decide ((k) < (9))) rfl rfl (decide_eq_false h3) ?_
        refine o_skipU rfl rfl ?_
        refine o_skipU rfl rfl ?_
        refine o_skipU rfl rfl ?_
        refine o_skipU rfl rfl ?_
        refine o_skipU rfl rfl ?_
        refine o_skipU rfl rfl ?_
        refine o_skip (b := decide ((k) < (9))) rfl rfl (decide_eq_false h3) ?_
        refine o_pickF (b := decide ((k) < (9))) (AV.lit (.bool false)) Gd.none rfl (decide_eq_false h3) rfl ?_
        refine aops_end ?_
        refine hK13 _ ?_
        refine awp_condB (b := false) rfl (fun hh => absurd (hh.symm.trans rfl) (by decide)) (fun _ => ?_)
        refine awp_exit ?_
        refine hK9 _ ?_
        refine awp_region rfl ?_
        refine o_move (nm .i64 (i)) Gd.none rfl ?_
        refine n_add (i) (1) Gd.none rfl rfl (by simp only [topOf]; omega) ?_
        refine o_assign (nm .i64 ((i) + (1))) Gd.none rfl ?_
        refine aops_end ?_
        have hend := hw
        rw [show k = 9 by omega, show p = 0 by (have h9 := hp; rw [show k = 9 by omega] at h9; simpa using h9)] at hend
        simp only [Nat.sub_self, Nat.pow_zero, Nat.one_mul, Nat.zero_add] at hend
        refine ⟨_, _, ?lt, ⟨i + 1, bk, (by omega), hend, rfl, rfl⟩, ?wk⟩
        case lt => omega
        case wk => exact Wk.sub (And.intro (by exact rfl) (And.intro (by exact rfl) (And.intro (by first | rfl | exact congrArg (nm _) (by omega) | exact nm_int (by omega) | exact nm_int (by simp [IntKind.wrap, IntKind.bits, IntKind.signed]; omega)) (trivial)))) (And.intro (by first | rfl | exact row_ns (by simp) | exact congrArg (fun x => some (AO.blk (.stringIter _ x))) (by omega)) (And.intro (by first | rfl | exact row_ns (by simp) | exact congrArg (fun x => some (AO.blk (.stringIter _ x))) (by omega)) (trivial)))
    · refine awp_exit ?_
      refine hK5 _ ?_
      refine awp_seqJ (J := fun σ => ∃ (b : List Nat), (b = decs z.natAbs ++ if z < 0 then [45] else []) ∧ (b.length ≤ 9000000001) ∧ True ∧ σ = ⟨[(3, (AV.row 3))], [(3, (AO.row 5 1 (ns .u8 (b))))]⟩) ?ja2 ?jb2
      case ja2 =>
        refine awp_seq fun K18 hK18 => ?_
        refine awp_region rfl ?_
        refine o_fieldRef 0 Gd.none Wd_tF36_0 rfl rfl ?_
        refine o_loadS (bp (z < 0)) Gd.none Wd_tS4 rfl rfl rfl ?_
        refine aops_end ?_
        refine hK18 _ ?_
        refine awp_condQ (q := z < 0) rfl (fun h6 => ?_) (fun h6 => ?_)
        · refine awp_region rfl ?_
          refine o_move (AV.row 3) Gd.none rfl ?_
          refine o_buildSlice 101 (ns .u8 ([45])) [(0, [(nm .u8 (45))])] Gd.none Wd_tE101 rfl Wd_tO5 rfl rfl rfl rfl rfl rfl rfl ?_
          refine n_append 102 (bk) ([45]) [(101, (AO.row 5 1 (ns .u8 ([45])))), (2, (AO.var 36 [(bp (z < 0)), (AV.sl 1 (ns .i64 (digs (z).natAbs)))]))] Gd.none Wd_tE101 Wd_tO5 rfl rfl rfl rfl rfl (by simp only [List.length_append, List.length_cons, List.length_nil]; have := congrArg List.length (bk_end hv (by omega)); omega) (by decide) rfl rfl ?_
          refine o_assign (AV.row 102) Gd.none rfl ?_
          refine aops_end ?_
          have hbe := bk_end hv (by omega)
          exact ⟨_, ⟨(bk) ++ ([45]), (by rw [hbe]; simp [*]), (by simp [hbe]; omega), trivial, rfl⟩, Wk.trans (Wk.sub (σ' := ⟨[(3, (AV.row 102))], [(102, (AO.row 5 1 (ns .u8 ((bk) ++ ([45])))))]⟩) (And.intro rfl (trivial)) (And.intro rfl (trivial))) (Wk.trans (Wk.ren (id := 102) (id' := 3) rfl) (Wk.sub (And.intro (by first | rfl | (simp)) (trivial)) (And.intro (by first | rfl | exact row_ns (by simp) | exact congrArg (fun x => some (AO.blk (.stringIter _ x))) (by omega)) (trivial))))⟩
        · refine awp_skip ?_
          have hbe := bk_end hv (by omega)
          exact ⟨_, ⟨bk, (by rw [hbe]; simp [*]), (by simp [hbe]; omega), trivial, rfl⟩, Wk.sub (And.intro (by exact rfl) (trivial)) (And.intro (by first | rfl | exact row_ns (by simp) | exact congrArg (fun x => some (AO.blk (.stringIter _ x))) (by omega)) (trivial))⟩
      rintro _ ⟨b, hb, hbl, -, rfl⟩
      refine awp_seq fun K19 hK19 => ?_
      refine awp_region rfl ?_
      refine o_assign (AV.lit (.slice none 0 0)) Gd.none rfl ?_
      refine aops_end ?_
      refine hK19 _ ?_
      refine awp_seq fun K20 hK20 => ?_
      refine awp_seq fun K21 hK21 => ?_
      refine awp_region rfl ?_
      refine o_move (AV.row 3) Gd.none rfl ?_
      refine n_lenRow (b) Gd.none Wd_tU101 rfl rfl ?_
      refine o_sub (a := ((((b).length : Nat) : Int))) (c := (((1 : Nat) : Int))) Gd.none rfl rfl (by exact wrap64 (by omega) (by omega)) ?_
      refine o_assign (AV.lit (.int .i64 (((((b).length : Nat) : Int)) - (((1 : Nat) : Int))))) Gd.none rfl ?_
      refine aops_end ?_
      refine hK21 _ ?_
      refine awp_block ?_
      refine awp_loopR (fun κ σ => ∃ (j : Nat), ∃ (out : List Nat), (j ≤ b.length) ∧ (out = (b.drop j).reverse) ∧ (j) = κ ∧ σ = ⟨[(3, (AV.row 3)), (7, (AV.row 4)), (8, (AV.lit (.int .i64 ((j : Int) - 1))))], [(3, (AO.row 5 1 (ns .u8 (b)))), (4, (AO.row 5 1 (ns .u8 (out))))]⟩) ⟨_, _, ⟨b.length, [], (Nat.le_refl _), (by simp), rfl, rfl⟩, ?wk3⟩ ?rd3
      case wk3 =>
        exact Wk.trans (Wk.newNil (i := 7) (id := 801) (e := 5) (sz := 1) rfl rfl (by decide)) (Wk.trans (Wk.sub (σ' := ⟨[(3, (AV.row 3)), (7, (AV.row 801)), (8, (AV.lit (.int .i64 (((((b).length : Nat) : Int)) - (((1 : Nat) : Int))))))], [(3, (AO.row 5 1 (ns .u8 (b)))), (801, (AO.row 5 1 (ns .u8 ([]))))]⟩) (And.intro rfl (And.intro rfl (And.intro rfl (trivial)))) (And.intro rfl (And.intro rfl (trivial)))) (Wk.trans (Wk.ren (id := 801) (id' := 4) rfl) (Wk.sub (And.intro (by exact rfl) (And.intro (by first | rfl | (simp)) (And.intro (by first | rfl | exact int_eq (by omega) | exact int_nm (by omega)) (trivial)))) (And.intro (by first | rfl | exact row_ns (by simp) | exact congrArg (fun x => some (AO.blk (.stringIter _ x))) (by omega)) (And.intro (by first | rfl | exact row_ns (by simp) | exact congrArg (fun x => some (AO.blk (.stringIter _ x))) (by omega)) (trivial))))))
      rintro κ _ ⟨j, out, hj, ho, rfl, rfl⟩
      refine awp_seq fun K22 hK22 => ?_
      refine awp_seq fun K23 hK23 => ?_
      refine awp_region rfl ?_
      refine o_move (AV.lit (.int .i64 ((j : Int) - 1))) Gd.none rfl ?_
      refine o_geq (a := ((j : Int) - 1)) (c := (((0 : Nat) : Int))) Gd.none rfl rfl ?_
      refine aops_end ?_
      refine hK23 _ ?_
      refine awp_condQ (q := (((0 : Nat) : Int)) ≤ ((j : Int) - 1)) rfl (fun h7 => ?_) (fun h7 => ?_)
      · refine awp_wk (Wk.slot (i := 8) (y := (nm .i64 (j - 1))) (AV.le_eq (by exact nm_int (by omega)))) ?_
        refine awp_skip ?_
        refine hK22 _ ?_
        refine awp_seq fun K24 hK24 => ?_
        refine awp_block ?_
        refine awp_region rfl ?_
        refine o_move (AV.row 4) Gd.none rfl ?_
        refine o_move (AV.row 3) Gd.none rfl ?_
        refine o_move (nm .i64 (j - 1)) Gd.none rfl ?_
        refine n_indexRow (b) (j - 1) Gd.none Wd_tE101 rfl rfl rfl (by omega) ?_
        refine n_loadRow (b) (j - 1) Gd.none Wd_tS5 rfl rfl (by omega) ?_
        refine o_buildSlice 401 (ns .u8 ([(b).getD (j - 1) 0])) [(0, [(nm .u8 ((b).getD (j - 1) 0))])] Gd.none Wd_tE101 rfl Wd_tO5 rfl rfl rfl rfl rfl rfl rfl ?_
        refine n_append 402 (out) ([(b).getD (j - 1) 0]) [(401, (AO.row 5 1 (ns .u8 ([(b).getD (j - 1) 0])))), (3, (AO.row 5 1 (ns .u8 (b))))] Gd.none Wd_tE101 Wd_tO5 rfl rfl rfl rfl rfl (by simp only [ho, List.length_append, List.length_cons, List.length_nil, List.length_reverse, List.length_drop]; omega) (by decide) rfl rfl ?_
        refine o_assign (AV.row 402) Gd.none rfl ?_
        refine aops_end ?_
        refine hK24 _ ?_
        refine awp_region rfl ?_
        refine o_move (nm .i64 (j - 1)) Gd.none rfl ?_
        refine o_sub (a := (((j - 1 : Nat) : Int))) (c := (((1 : Nat) : Int))) Gd.none rfl rfl (by exact wrap64 (by omega) (by omega)) ?_
        refine o_assign (AV.lit (.int .i64 ((((j - 1 : Nat) : Int)) - (((1 : Nat) : Int))))) Gd.none rfl ?_
        refine aops_end ?_
        refine ⟨_, _, ?lt, ⟨j - 1, (out) ++ ([(b).getD (j - 1) 0]), (by omega), (by rw [ho]; exact rev_step (by omega) hj), rfl, rfl⟩, ?wk⟩
        case lt => omega
        case wk => exact Wk.trans (Wk.sub (σ' := ⟨[(3, (AV.row 3)), (7, (AV.row 402)), (8, (AV.lit (.int .i64 ((((j - 1 : Nat) : Int)) - (((1 : Nat) : Int))))))], [(3, (AO.row 5 1 (ns .u8 (b)))), (402, (AO.row 5 1 (ns .u8 ((out) ++ ([(b).getD (j - 1) 0])))))]⟩) (And.intro rfl (And.intro rfl (And.intro rfl (trivial)))) (And.intro rfl (And.intro rfl (trivial)))) (Wk.trans (Wk.ren (id := 402) (id' := 4) rfl) (Wk.sub (And.intro (by exact rfl) (And.intro (by first | rfl | (simp)) (And.intro (by first | rfl | exact int_eq (by omega) | exact int_nm (by omega)) (trivial)))) (And.intro (by first | rfl | exact row_ns (by simp) | exact congrArg (fun x => some (AO.blk (.stringIter _ x))) (by omega)) (And.intro (by first | rfl | exact row_ns (by simp) | exact congrArg (fun x => some (AO.blk (.stringIter _ x))) (by omega)) (trivial)))))
      · refine awp_exit ?_
        refine hK20 _ ?_
        refine awp_seq fun K25 hK25 => ?_
        refine awp_region rfl ?_
        refine o_move (AV.row 4) Gd.none rfl ?_
        refine n_strOf (out) Gd.none Wd_tU101 Wd_tQ5 Wd_tT9 rfl rfl ?_
        refine o_assign (AV.lit (.string (strN (out)))) Gd.none rfl ?_
        refine aops_end ?_
        refine hK25 _ ?_
        refine awp_ret ?_
        refine post_ret ⟨[(AV.lit (.string (strN (out))))], And.intro (AV.le_refl _) (trivial), rfl, ?_⟩
        have hj0 : j = 0 := by omega
        subst hj0
        rw [ho, List.drop_zero]
        exact congrArg (fun x => AV.lit (.string x)) (txt_fin hz0 hb)

end Go.Proofs.YtbilndahjkimkaaDoor

set_option linter.unusedVariables false
set_option linter.unusedSimpArgs false
namespace Go.Proofs.YtbilndahjkimkaaDoor
open Go Go.Ab Go.Mth
end Go.Proofs.YtbilndahjkimkaaDoor

set_option linter.unusedVariables false
set_option linter.unusedSimpArgs false
namespace Go.Mth
open Go.Ab
theorem decDigits_decs (u : Nat) : Lib.decDigits u = (if u = 0 then [48] else (decs u).reverse).map UInt8.ofNat := by
  induction u using Nat.strongRecOn with
  | _ u ih =>
    rw [Lib.decDigits]
    split
    · rename_i h
      by_cases h0 : u = 0
      · subst h0; simp
      · rw [if_neg h0, decs_pos (by omega), show u / 10 = 0 by omega, decs_zero, show u % 10 = u by omega]; simp
    · rename_i h
      rw [ih (u / 10) (by omega), if_neg (by omega), if_neg (by omega), decs_pos (n := u) (by omega)]
      simp
theorem itoa_txt (x : Nat) : (⟨(Lib.itoa (x : Int)).toArray⟩ : ByteArray) = txt x := by
  unfold Lib.itoa txt txtL strN strOfNums
  rw [if_neg (by omega), Int.toNat_natCast, decDigits_decs]
  by_cases h : x = 0
  · subst h; rfl
  · rw [if_neg h, if_neg (by omega), if_neg (by omega)]
    simp
theorem parse_ok (a : ByteArray) (h : ∀ i, i < a.size → 48 ≤ byt a i ∧ byt a i ≤ 57) (h9 : a.size ≤ 9) : ∀ (l : List UInt8) (s : Nat), a.data.toList.drop s = l → s + l.length = a.size → Lib.parseUintM 4294967295 (dvk a 0 s) l = .ok (dvk a 0 a.size) := by
  intro l
  induction l with
  | nil =>
    intro s hd hs
    rw [Lib.parseUintM, show s = a.size by simpa using hs]
  | cons c r ih =>
    intro s hd hs
    simp only [List.length_cons] at hs
    have hc : byt a s = c.toNat := by
      unfold byt
      have := congrArg (·[0]?) hd
      simp only [List.getElem?_drop, Nat.add_zero, List.getElem?_cons_zero] at this
      rw [List.getD_eq_getElem?_getD, this]; rfl
    have hb := h s (by omega)
    rw [hc] at hb
    have hlt := dvk_lt (a := a) (s := 0) (k := s + 1) fun i _ hi => h i (by omega)
    have hp : 10 ^ (s + 1) ≤ 10 ^ 9 := Nat.pow_le_pow_right (by decide) (by omega)
    have e : dvk a 0 (s + 1) = dvk a 0 s * 10 + (c.toNat - 48) := by rw [dvk, Nat.zero_add, hc]; omega
    rw [Lib.parseUintM, if_pos hb, if_neg (by omega), if_neg (by omega), ← e]
    refine ih (s + 1) ?_ (by omega)
    have := congrArg (List.drop 1) hd
    simpa using this
end Go.Mth
namespace Go.Proofs.YtbilndahjkimkaaDoor
open Go Go.Ab Go.Mth
theorem c_itoa (x : Nat) (hx : x ≤ 9223372036854775807) : ECalls cx 82 [nm .i64 x] (.lit (.string (txt x))) := by
  intro H L vals w hG hH hr
  simp only [RepL, RepV, nm] at hr
  obtain ⟨v, r, rfl, rfl, rfl⟩ := hr
  refine (Tryd.strconv_Itoa (x : Int) (by omega) (by omega) w (tabIs hG hH)).mono ?_
  rintro e w' ⟨rfl, k, os, rfl⟩
  have hold : ∀ b, b < w.heap.size → (Sort.grow (w.drewN k) os).heap[b]? = w.heap[b]? := fun b hb => by
    simp only [Sort.grow, World.drewN]
    rw [Array.getElem?_append_left hb]
  refine ⟨H, _, rfl, by simp only [RepV]; rw [itoa_txt], Ext.refl _ _, fun b o hb => ?_, ⟨rfl, rfl, rfl, by simp [Sort.grow, World.drewN], hold⟩⟩
  rw [hold b (Array.getElem?_eq_some_iff.1 (hH b o hb)).1]
  exact hH b o hb
theorem c_iparse (a : ByteArray) (h0 : 0 < a.size) (h9 : a.size ≤ 9) (h : ∀ i, i < a.size → 48 ≤ byt a i ∧ byt a i ≤ 57) : ECalls cx 93 [.lit (.string a), nm .i64 10, nm .i64 32] (.tup [nm .u64 (dvk a 0 a.size), .lit .nilIface]) := by
  intro H L vals w hG hH hr
  simp only [RepL, RepV, nm] at hr
  obtain ⟨_, _, rfl, rfl, _, _, rfl, rfl, _, _, rfl, rfl, rfl⟩ := hr
  refine (Tryd.internal_strconv_ParseUint_10_b32 a (by omega) (by omega) w).mono ?_
  rintro e w' ⟨rfl, rfl⟩
  have hbl := Lib.bytesWorld_below w 5 a
  refine ⟨H, _, rfl, ?_, Ext.refl _ _, fun b o hb => ?_, hbl⟩
  · have := parse_ok a h h9 a.data.toList 0 rfl (by simp)
    rw [dvk] at this
    rw [this]
    simp only [RepV, RepL, nm, Lib.uintTupleM]
    exact ⟨[_, _], rfl, _, _, rfl, rfl, _, _, rfl, rfl, rfl⟩
  · rw [hbl.block b (Array.getElem?_eq_some_iff.1 (hH b o hb)).1]
    exact hH b o hb
end Go.Proofs.YtbilndahjkimkaaDoor

set_option linter.unusedVariables false
set_option linter.unusedSimpArgs false
namespace Go.Proofs.YtbilndahjkimkaaDoor
open Go Go.Ab Go.Mth
theorem Wg_tC93 : callable cx.P 93 = true := by kernel_rfl
theorem Wg_tN112 : cx.P.underlying 112 = some (.interface #[("Error", 97)]) := by kernel_rfl
theorem Wg_tO79 : tyZero cx.P 79 = some [(Go.Value.bool false), (Go.Value.slice none 0 0)] := by kernel_rfl
theorem Wg_tT9 : cx.P.underlying 9 = some .string := by kernel_rfl
theorem Wg_tC80 : callable cx.P 80 = true := by kernel_rfl
theorem Wg_tI110 : tyInt cx.P 110 = some .u64 := by kernel_rfl
theorem Wg_tI115 : tyInt cx.P 115 = some .u32 := by kernel_rfl
theorem Wg_tE77 : tyElem cx.P 77 = some (115, 1, 4) := by kernel_rfl
theorem Wg_tO115 : tyZero cx.P 115 = some [(Go.Value.int IntKind.u32 0)] := by kernel_rfl
theorem Wg_tC81 : callable cx.P 81 = true := by kernel_rfl
theorem Wg_tZ79 : tySize cx.P 79 = some 2 := by kernel_rfl
theorem Wg_tA79 : tyAgg cx.P 79 = some 2 := by kernel_rfl
theorem Wg_tF79_1 : tyField cx.P 79 1 = some (1, 77) := by kernel_rfl
theorem Wg_tS77 : tySc cx.P 77 = true := by kernel_rfl
theorem Wg_tU77 : cx.P.underlying 77 = some (.slice 115) := by kernel_rfl
theorem Wg_tS115 : tySc cx.P 115 = true := by kernel_rfl
theorem Wg_tI3 : tyInt cx.P 3 = some .i64 := by kernel_rfl
theorem Wg_tC82 : callable cx.P 82 = true := by kernel_rfl
theorem Wg_tE101 : tyElem cx.P 101 = some (5, 1, 1) := by kernel_rfl
theorem Wg_tO5 : tyZero cx.P 5 = some [(Go.Value.int IntKind.u8 0)] := by kernel_rfl
theorem Wg_tF79_0 : tyField cx.P 79 0 = some (0, 4) := by kernel_rfl
theorem Wg_tS4 : tySc cx.P 4 = true := by kernel_rfl
theorem Wg_tW5 : tyZ1 cx.P 5 = some (.int .u8 0) := by kernel_rfl
theorem Wg_tU101 : cx.P.underlying 101 = some (.slice 5) := by kernel_rfl
theorem Wg_tQ5 : cx.P.underlying 5 = some (.int .u8) := by kernel_rfl
theorem c_parse (a : ByteArray) (h0 : 0 < a.size) (h9 : a.size ≤ 9) (h : ∀ i, i < a.size → 48 ≤ byt a i ∧ byt a i ≤ 57) : ECalls cx 80 [(AV.lit (.string (a))), (nm .i64 (10)), (nm .i64 (32))] (.tup [nm .u64 (dvk a 0 a.size), .lit .nilIface]) := by
  refine ecalls_of_awp Tryd.func80 (c := _) rfl (Nat.le_of_ble_eq_true rfl) ?_
  show awp cx 26 _ (postF cx Tryd.f80 _) ⟨[(0, (AV.lit (.string (a)))), (1, (nm .i64 (10))), (2, (nm .i64 (32)))], []⟩
  refine awp_seq fun K0 hK0 => ?_
  refine awp_region rfl ?_
  refine o_assign (nm .u64 (0)) Gd.none rfl ?_
  refine o_assign (AV.lit .nilIface) Gd.none rfl ?_
  refine aops_end ?_
  refine hK0 _ ?_
  refine awp_seq fun K1 hK1 => ?_
  refine awp_region rfl ?_
  refine o_move (AV.lit (.string (a))) Gd.none rfl ?_
  refine o_move (nm .i64 (10)) Gd.none rfl ?_
  refine o_move (nm .i64 (32)) Gd.none rfl ?_
  refine o_call [(AV.lit (.string (a))), (nm .i64 (10)), (nm .i64 (32))] (AV.tup [(nm .u64 (dvk (a) 0 (a).size)), (AV.lit .nilIface)]) Gd.none Wg_tC93 rfl (c_iparse (a) (by omega) (by omega) (by assumption)) ?_
  refine o_move (AV.tup [(nm .u64 (dvk (a) 0 (a).size)), (AV.lit .nilIface)]) Gd.none rfl ?_
  refine o_extract (nm .u64 (dvk (a) 0 (a).size)) Gd.none rfl rfl ?_
  refine o_extract (AV.lit .nilIface) Gd.none rfl rfl ?_
  refine o_assign (nm .u64 (dvk (a) 0 (a).size)) Gd.none rfl ?_
  refine o_assign (AV.lit .nilIface) Gd.none rfl ?_
  refine aops_end ?_
  refine hK1 _ ?_
  refine awp_seq fun K2 hK2 => ?_
  refine awp_seq fun K3 hK3 => ?_
  refine awp_region rfl ?_
  refine o_move (AV.lit .nilIface) Gd.none rfl ?_
  refine o_neqNil Gd.none rfl Wg_tN112 ?_
  refine aops_end ?_
  refine hK3 _ ?_
  refine awp_condB (b := false) rfl (fun hh => absurd (hh.symm.trans rfl) (by decide)) (fun _ => ?_)
  refine awp_skip ?_
  refine hK2 _ ?_
  refine awp_seq fun K4 hK4 => ?_
  refine awp_region rfl ?_
  refine o_move (nm .u64 (dvk (a) 0 (a).size)) Gd.none rfl ?_
  refine o_assign (nm .u64 (dvk (a) 0 (a).size)) Gd.none rfl ?_
  refine o_assign (AV.lit .nilIface) Gd.none rfl ?_
  refine aops_end ?_
  refine hK4 _ ?_
  refine awp_ret ?_
  refine post_ret ⟨[(nm .u64 (dvk (a) 0 (a).size)), (AV.lit .nilIface)], And.intro (AV.le_refl _) (And.intro (AV.le_refl _) (trivial)), rfl, ?_⟩
  rfl

theorem c_wParse (a : ByteArray) (hok : OkS a) : ECalls cx 48 [(AV.lit (.string (a)))] (intW (numS a)) := by
  refine ecalls_of_awp Tryd.func48 (c := _) rfl (Nat.le_of_ble_eq_true rfl) ?_
  show awp cx 38 _ (postF cx Tryd.f48 _) ⟨[(0, (AV.lit (.string (a))))], []⟩
  obtain ⟨o1, o2, o3, o4⟩ := hok
  have hs1 : sgnAt a ≤ 1 := by unfold sgnAt; split <;> omega
  refine awp_seq fun K0 hK0 => ?_
  refine awp_region rfl ?_
  refine o_alloc 2 [(AV.lit (.bool false)), (AV.lit (.slice none 0 0))] Gd.none Wg_tO79 rfl rfl rfl ?_
  refine aops_end ?_
  refine hK0 _ ?_
  refine awp_seq fun K1 hK1 => ?_
  refine awp_region rfl ?_
  refine o_move (AV.lit (.string (a))) Gd.none rfl ?_
  refine n_indexS (a) (0) Gd.none Wg_tT9 rfl rfl (by omega) ?_
  refine n_eql (byt (a) (0)) (45) Gd.none rfl rfl ?_
  refine o_assign (bp ((byt (a) (0)) = (45))) Gd.none rfl ?_
  refine aops_end ?_
  refine hK1 _ ?_
  refine awp_seqJ (J := fun σ => ∃ (b : ByteArray), (b.size = a.size - sgnAt a) ∧ (∀ i, i < b.size → byt b i = byt a (sgnAt a + i)) ∧ True ∧ σ = ⟨[(0, (AV.lit (.string (b)))), (2, (AV.ref 2 (0))), (3, (bp (byt a 0 = 45)))], [(2, (AO.var 79 [(AV.lit (.bool false)), (AV.lit (.slice none 0 0))]))]⟩) ?ja0 ?jb0
  case ja0 =>
    refine awp_seq fun K2 hK2 => ?_
    refine awp_region rfl ?_
    refine o_move (bp ((byt (a) (0)) = (45))) Gd.none rfl ?_
    refine aops_end ?_
    refine hK2 _ ?_
    refine awp_condQ (q := (byt (a) (0)) = (45)) rfl (fun h1 => ?_) (fun h1 => ?_)
    · refine awp_region rfl ?_
      refine o_move (AV.lit (.string (a))) Gd.none rfl ?_
      refine n_sliceSL (a) (1) ((a).size) Gd.none Wg_tT9 rfl rfl (by omega) (by omega) ?_
      refine o_assign (AV.lit (.string ((a).extract (1) ((a).size)))) Gd.none rfl ?_
      refine aops_end ?_
      have hs : sgnAt a = 1 := if_pos h1
      exact ⟨_, ⟨(a).extract (1) ((a).size), (by rw [extract_size a (by omega) (by omega)]; omega), (fun i hi => by rw [extract_size a (by omega) (by omega)] at hi; rw [byt_extract a (by omega) (by omega), hs]), trivial, rfl⟩, Wk.sub (And.intro (by first | rfl | (simp)) (And.intro (by exact rfl) (And.intro (by first | rfl | exact bp_congr (by first | omega | simp) | exact bl_bp (by first | omega | simp)) (trivial)))) (And.intro (by first | rfl | exact row_ns (by simp) | exact congrArg (fun x => some (AO.blk (.stringIter _ x))) (by omega)) (trivial))⟩
    · refine awp_skip ?_
      have hs : sgnAt a = 0 := if_neg h1
      exact ⟨_, ⟨a, (by omega), (fun i hi => by rw [hs, Nat.zero_add]), trivial, rfl⟩, Wk.sub (And.intro (by first | rfl | (simp)) (And.intro (by exact rfl) (And.intro (by first | rfl | exact bp_congr (by first | omega | simp) | exact bl_bp (by first | omega | simp)) (trivial)))) (And.intro (by first | rfl | exact row_ns (by simp) | exact congrArg (fun x => some (AO.blk (.stringIter _ x))) (by omega)) (trivial))⟩
  rintro _ ⟨b, hbs, hb, -, rfl⟩
  have hbd : ∀ i, i < b.size → 48 ≤ byt b i ∧ byt b i ≤ 57 := fun i hi => by rw [hb i hi]; exact o4 _ (by omega) (by omega)
  refine awp_seq fun K3 hK3 => ?_
  refine awp_region rfl ?_
  refine o_assign (AV.lit (.slice none 0 0)) Gd.none rfl ?_
  refine aops_end ?_
  refine hK3 _ ?_
  refine awp_seq fun K4 hK4 => ?_
  refine awp_seq fun K5 hK5 => ?_
  refine awp_region rfl ?_
  refine o_move (AV.lit (.string (b))) Gd.none rfl ?_
  refine n_lenS (b) Gd.none rfl Wg_tT9 ?_
  refine o_assign (nm .i64 ((b).size)) Gd.none rfl ?_
  refine aops_end ?_
  refine hK5 _ ?_
  refine awp_block ?_
  refine awp_loopR (fun κ σ => ∃ (E : Int), ∃ (L : List Nat), (E ≤ b.size) ∧ (Dig L) ∧ (0 < E → L.length * 9 = b.size - E.toNat) ∧ (L.length ≤ 2000) ∧ (val L = dvk b E.toNat (b.size - E.toNat)) ∧ (E.toNat) = κ ∧ σ = ⟨[(0, (AV.lit (.string (b)))), (2, (AV.ref 2 (0))), (3, (bp (byt a 0 = 45))), (4, (AV.row 3)), (5, (AV.lit (.int .i64 (E))))], [(2, (AO.var 79 [(AV.lit (.bool false)), (AV.lit (.slice none 0 0))])), (3, (AO.row 115 1 (ns .u32 (L))))]⟩) ⟨_, _, ⟨(b.size : Int), [], (by omega), Dig.nil, (by intro _; simp), (by simp), (by simp [val, dvk]), rfl, rfl⟩, ?wk1⟩ ?rd1
  case wk1 =>
    exact Wk.trans (Wk.newNil (i := 4) (id := 601) (e := 115) (sz := 1) rfl rfl (by decide)) (Wk.trans (Wk.sub (σ' := ⟨[(0, (AV.lit (.string (b)))), (2, (AV.ref 2 (0))), (3, (bp (byt a 0 = 45))), (4, (AV.row 601)), (5, (nm .i64 ((b).size)))], [(2, (AO.var 79 [(AV.lit (.bool false)), (AV.lit (.slice none 0 0))])), (601, (AO.row 115 1 (ns .u32 ([]))))]⟩) (And.intro rfl (And.intro rfl (And.intro rfl (And.intro rfl (And.intro rfl (trivial)))))) (And.intro rfl (And.intro rfl (trivial)))) (Wk.trans (Wk.ren (id := 601) (id' := 3) rfl) (Wk.sub (And.intro (by exact rfl) (And.intro (by exact rfl) (And.intro (by exact rfl) (And.intro (by first | rfl | (simp)) (And.intro (by first | rfl | exact int_eq (by omega) | exact int_nm (by omega)) (trivial)))))) (And.intro (by first | rfl | exact row_ns (by simp) | exact congrArg (fun x => some (AO.blk (.stringIter _ x))) (by omega)) (And.intro (by first | rfl | exact row_ns (by simp) | exact congrArg (fun x => some (AO.blk (.stringIter _ x))) (by omega)) (trivial))))))
  rintro κ _ ⟨E, L, hE, hd, hl, hl2, hv, rfl, rfl⟩
  refine awp_seq fun K6 hK6 => ?_
  refine awp_seq fun K7 hK7 => ?_
  refine awp_region rfl ?_
  refine o_move (AV.lit (.int .i64 (E))) Gd.none rfl ?_
  refine o_gtr (a := (E)) (c := (((0 : Nat) : Int))) Gd.none rfl rfl ?_
  refine aops_end ?_
  refine hK7 _ ?_
  refine awp_condQ (q := (((0 : Nat) : Int)) < (E)) rfl (fun h2 => ?_) (fun h2 => ?_)
  · have hps : (b.extract (E.toNat - 9) E.toNat).size = E.toNat - (E.toNat - 9) := extract_size b (by omega) (by omega)
    have hpb : ∀ i, i < (b.extract (E.toNat - 9) E.toNat).size → byt (b.extract (E.toNat - 9) E.toNat) i = byt b (E.toNat - 9 + i) := fun i hi => byt_extract b (by omega) (by omega)
    have hpd : ∀ i, i < (b.extract (E.toNat - 9) E.toNat).size → 48 ≤ byt (b.extract (E.toNat - 9) E.toNat) i ∧ byt (b.extract (E.toNat - 9) E.toNat) i ≤ 57 := fun i hi => by rw [hpb i hi]; exact hbd _ (by omega)
    have hq : dvk (b.extract (E.toNat - 9) E.toNat) 0 (b.extract (E.toNat - 9) E.toNat).size = dvk b (E.toNat - 9) (E.toNat - (E.toNat - 9)) := by rw [dvk_congr (t := E.toNat - 9) (b := b) (fun i hi => by rw [Nat.zero_add]; exact hpb i hi), hps]
    have hql := dvk_lt (a := b) (s := E.toNat - 9) (k := E.toNat - (E.toNat - 9)) fun j h1 h2 => hbd j (by omega)
    have hq9 : dvk b (E.toNat - 9) (E.toNat - (E.toNat - 9)) < 1000000000 := Nat.lt_of_lt_of_le hql (by have := Nat.pow_le_pow_right (n := 10) (by decide) (show E.toNat - (E.toNat - 9) ≤ 9 by omega); simpa using this)
    refine awp_wk (Wk.slot (i := 5) (y := (nm .i64 (E.toNat))) (AV.le_eq (by exact nm_int (by omega)))) ?_
    refine awp_skip ?_
    refine hK6 _ ?_
    refine awp_seq fun K8 hK8 => ?_
    refine awp_block ?_
    refine awp_seq fun K9 hK9 => ?_
    refine awp_region rfl ?_
    refine o_move (AV.lit (.string (b))) Gd.none rfl ?_
    refine o_move (nm .i64 (E.toNat)) Gd.none rfl ?_
    refine o_sub (a := (((E.toNat : Nat) : Int))) (c := (((9 : Nat) : Int))) Gd.none rfl rfl (by exact wrap64 (by omega) (by omega)) ?_
    refine o_max (a := ((0 : Nat) : Int)) (c := (((E.toNat : Nat) : Int)) - (((9 : Nat) : Int))) Gd.none rfl rfl (fun w => run_max _ _ w) ?_
    refine n_as (v' := (nm .i64 (E.toNat - 9))) (nm_int (by omega)) ?_
    refine o_move (nm .i64 (E.toNat)) Gd.none rfl ?_
    refine n_sliceSLH (b) (E.toNat - 9) (E.toNat) Gd.none Wg_tT9 rfl rfl rfl (by omega) (by omega) ?_
    refine o_call [(AV.lit (.string ((b).extract (E.toNat - 9) (E.toNat)))), (nm .i64 (10)), (nm .i64 (32))] (AV.tup [(nm .u64 (dvk ((b).extract (E.toNat - 9) (E.toNat)) 0 ((b).extract (E.toNat - 9) (E.toNat)).size)), (AV.lit .nilIface)]) Gd.none Wg_tC80 rfl (c_parse ((b).extract (E.toNat - 9) (E.toNat)) (by omega) (by omega) (by assumption)) ?_
    refine o_move (AV.tup [(nm .u64 (dvk ((b).extract (E.toNat - 9) (E.toNat)) 0 ((b).extract (E.toNat - 9) (E.toNat)).size)), (AV.lit .nilIface)]) Gd.none rfl ?_
    refine o_extract (nm .u64 (dvk ((b).extract (E.toNat - 9) (E.toNat)) 0 ((b).extract (E.toNat - 9) (E.toNat)).size)) Gd.none rfl rfl ?_
    refine n_as (v' := (nm .u64 (dvk b (E.toNat - 9) (E.toNat - (E.toNat - 9))))) (congrArg (nm _) (by exact hq)) ?_
    refine o_extract (AV.lit .nilIface) Gd.none rfl rfl ?_
    refine o_assign (nm .u64 (dvk b (E.toNat - 9) (E.toNat - (E.toNat - 9)))) Gd.none rfl ?_
    refine o_assign (AV.lit .nilIface) Gd.none rfl ?_
    refine aops_end ?_
    refine hK9 _ ?_
    refine awp_region rfl ?_
    refine o_move (AV.row 3) Gd.none rfl ?_
    refine o_move (nm .u64 (dvk b (E.toNat - 9) (E.toNat - (E.toNat - 9)))) Gd.none rfl ?_
    refine n_conv (dvk b (E.toNat - 9) (E.toNat - (E.toNat - 9))) Gd.none rfl Wg_tI110 Wg_tI115 (by simp only [topOf]; omega) ?_
    refine o_buildSlice 201 (ns .u32 ([dvk b (E.toNat - 9) (E.toNat - (E.toNat - 9))])) [(0, [(nm .u32 (dvk b (E.toNat - 9) (E.toNat - (E.toNat - 9))))])] Gd.none Wg_tE77 rfl Wg_tO115 rfl rfl rfl rfl rfl rfl rfl ?_
    refine n_append 202 (L) ([dvk b (E.toNat - 9) (E.toNat - (E.toNat - 9))]) [(201, (AO.row 115 1 (ns .u32 ([dvk b (E.toNat - 9) (E.toNat - (E.toNat - 9))])))), (2, (AO.var 79 [(AV.lit (.bool false)), (AV.lit (.slice none 0 0))]))] Gd.none Wg_tE77 Wg_tO115 rfl rfl rfl rfl rfl (by simp only [List.length_append, List.length_cons, List.length_nil]; omega) (by decide) rfl rfl ?_
    refine o_assign (AV.row 202) Gd.none rfl ?_
    refine aops_end ?_
    refine hK8 _ ?_
    refine awp_region rfl ?_
    refine o_move (nm .i64 (E.toNat)) Gd.none rfl ?_
    refine o_sub (a := (((E.toNat : Nat) : Int))) (c := (((9 : Nat) : Int))) Gd.none rfl rfl (by exact wrap64 (by omega) (by omega)) ?_
    refine o_assign (AV.lit (.int .i64 ((((E.toNat : Nat) : Int)) - (((9 : Nat) : Int))))) Gd.none rfl ?_
    refine aops_end ?_
    refine ⟨_, _, ?lt, ⟨(E.toNat : Int) - 9, (L) ++ ([dvk b (E.toNat - 9) (E.toNat - (E.toNat - 9))]), (by omega), (hd.snoc hq9), (by intro h; have := hl (by omega); simp only [List.length_append, List.length_cons, List.length_nil]; omega), (by have := hl (by omega); simp only [List.length_append, List.length_cons, List.length_nil]; omega), (by have hh := parse_step (s := E.toNat - 9) (by omega) (by omega) (hl (by omega)) hv; rw [show ((E.toNat : Int) - 9).toNat = E.toNat - 9 by omega]; exact hh), rfl, rfl⟩, ?wk⟩
    case lt => omega
    case wk => exact Wk.trans (Wk.sub (σ' := ⟨[(0, (AV.lit (.string (b)))), (2, (AV.ref 2 (0))), (3, (bp (byt a 0 = 45))), (4, (AV.row 202)), (5, (AV.lit (.int .i64 ((((E.toNat : Nat) : Int)) - (((9 : Nat) : Int))))))], [(2, (AO.var 79 [(AV.lit (.bool false)), (AV.lit (.slice none 0 0))])), (202, (AO.row 115 1 (ns .u32 ((L) ++ ([dvk b (E.toNat - 9) (E.toNat - (E.toNat - 9))])))))]⟩) (And.intro rfl (And.intro rfl (And.intro rfl (And.intro rfl (And.intro rfl (trivial)))))) (And.intro rfl (And.intro rfl (trivial)))) (Wk.trans (Wk.ren (id := 202) (id' := 3) rfl) (Wk.sub (And.intro (by exact rfl) (And.intro (by exact rfl) (And.intro (by exact rfl) (And.intro (by first | rfl | (simp)) (And.intro (by first | rfl | exact int_eq (by omega) | exact int_nm (by omega)) (trivial)))))) (And.intro (by first | rfl | exact row_ns (by simp) | exact congrArg (fun x => some (AO.blk (.stringIter _ x))) (by omega)) (And.intro (by first | rfl | exact row_ns (by simp) | exact congrArg (fun x => some (AO.blk (.stringIter _ x))) (by omega)) (trivial)))))
  · refine awp_exit ?_
    refine hK4 _ ?_
    refine awp_seq fun K10 hK10 => ?_
    refine awp_region rfl ?_
    refine o_move (bp (byt a 0 = 45)) Gd.none rfl ?_
    refine o_move (AV.row 3) Gd.none rfl ?_
    refine o_callG [(3, 1, (ns .u32 (L)))] [(bp (byt a 0 = 45)), (AV.sl 1 (ns .u32 (L)))] _ (intW ((sg (decide (byt a 0 = 45)) (val (L))))) [(2, (AO.var 79 [(AV.lit (.bool false)), (AV.lit (.slice none 0 0))]))] Gd.none Wg_tC81 rfl (And.intro ⟨_, rfl⟩ (trivial)) rfl rfl (LeL.cons (AV.le_refl _) (LeL.cons (AV.le_refl _) (LeL.nil))) (c_wTrim (decide (byt a 0 = 45)) (L) (by first | assumption | exact dgn_dig _ _ | exact digs_dig _ | exact Dig.snoc (by assumption) (by assumption) | exact Dig.cons (by omega) (digs_dig _))) rfl ?_
    refine o_store [(2, (AO.var 79 [(bp ((sg (decide (byt a 0 = 45)) (val (L))) < 0)), (AV.sl 1 (ns .u32 (digs ((sg (decide (byt a 0 = 45)) (val (L)))).natAbs)))]))] Gd.none Wg_tZ79 rfl rfl rfl rfl rfl rfl ?_
    refine aops_end ?_
    refine hK10 _ ?_
    refine awp_ret ?_
    refine post_ret ⟨[(AV.agg [(bp ((sg (decide (byt a 0 = 45)) (val (L))) < 0)), (AV.sl 1 (ns .u32 (digs ((sg (decide (byt a 0 = 45)) (val (L)))).natAbs)))])], And.intro ⟨2, (AO.var 79 [(bp ((sg (decide (byt a 0 = 45)) (val (L))) < 0)), (AV.sl 1 (ns .u32 (digs ((sg (decide (byt a 0 = 45)) (val (L)))).natAbs)))]), rfl, rfl, rfl, Or.inl ⟨Wg_tA79, AV.le_refl _⟩⟩ (trivial), rfl, ?_⟩
    refine congrArg (intK .u32) ?_
    rw [hv, show E.toNat = 0 by omega]
    unfold numS
    congr 1
    rw [← hbs]
    exact (dvk_congr fun i hi => by rw [Nat.zero_add]; exact (hb i (by omega))).symm

theorem c_wDigits (z : Int) (hz : (digs z.natAbs).length ≤ 1000000000) : ECalls cx 49 [(intW (z))] (nm .i64 (ndig z.natAbs)) := by
  refine ecalls_of_awp Tryd.func49 (c := _) rfl (Nat.le_of_ble_eq_true rfl) ?_
  show awp cx 24 _ (postF cx Tryd.f49 _) ⟨[(0, (intW (z)))], []⟩
  refine awp_seq fun K0 hK0 => ?_
  refine awp_region rfl ?_
  refine o_box 2 [(bp (z < 0)), (AV.sl 1 (ns .u32 (digs (z).natAbs)))] Gd.none rfl rfl ?_
  refine o_assign (nm .i64 (0)) Gd.none rfl ?_
  refine aops_end ?_
  refine hK0 _ ?_
  refine awp_seq fun K1 hK1 => ?_
  refine awp_seq fun K2 hK2 => ?_
  refine awp_region rfl ?_
  refine o_fieldRef 1 Gd.none Wg_tF79_1 rfl rfl ?_
  refine o_loadS (AV.sl 1 (ns .u32 (digs (z).natAbs))) Gd.none Wg_tS77 rfl rfl rfl ?_
  refine n_len (digs (z).natAbs) Gd.none Wg_tU77 rfl ?_
  refine n_eql ((digs (z).natAbs).length) (0) Gd.none rfl rfl ?_
  refine aops_end ?_
  refine hK2 _ ?_
  refine awp_condQ (q := ((digs (z).natAbs).length) = (0)) rfl (fun h1 => ?_) (fun h1 => ?_)
  · refine awp_seq fun K3 hK3 => ?_
    refine awp_region rfl ?_
    refine o_assign (nm .i64 (1)) Gd.none rfl ?_
    refine aops_end ?_
    refine hK3 _ ?_
    refine awp_ret ?_
    refine post_ret ⟨[(nm .i64 (1))], And.intro (AV.le_refl _) (trivial), rfl, ?_⟩
    refine congrArg (nm .i64) ?_
    unfold ndig
    rw [if_pos (digs_len_zero.1 h1)]
  · have hn0 : 0 < z.natAbs := by rcases Nat.eq_zero_or_pos z.natAbs with e | e; exact absurd (digs_len_zero.2 e) h1; exact e
    have ht := ndig_top hn0
    have htl := (digs_dig z.natAbs).getD ((digs z.natAbs).length - 1)
    have hsz := txt_size ((digs z.natAbs).getD ((digs z.natAbs).length - 1) 0)
    have hsm := ndig_small htl
    refine awp_skip ?_
    refine hK1 _ ?_
    refine awp_seq fun K4 hK4 => ?_
    refine awp_regionD rfl ?_
    refine o_fieldRef 1 Gd.none Wg_tF79_1 rfl rfl ?_
    refine o_loadS (AV.sl 1 (ns .u32 (digs (z).natAbs))) Gd.none Wg_tS77 rfl rfl rfl ?_
    refine n_len (digs (z).natAbs) Gd.none Wg_tU77 rfl ?_
    refine n_sub ((digs (z).natAbs).length) (1) Gd.none rfl rfl (by omega) (by simp only [topOf]; omega) ?_
    refine n_mul (9) (((digs (z).natAbs).length) - (1)) Gd.none rfl rfl (by simp only [topOf]; omega) ?_
    refine o_fieldRef 1 Gd.none Wg_tF79_1 rfl rfl ?_
    refine o_loadS (AV.sl 1 (ns .u32 (digs (z).natAbs))) Gd.none Wg_tS77 rfl rfl rfl ?_
    refine o_fieldRef 1 Gd.none Wg_tF79_1 rfl rfl ?_
    refine o_loadS (AV.sl 1 (ns .u32 (digs (z).natAbs))) Gd.none Wg_tS77 rfl rfl rfl ?_
    refine n_len (digs (z).natAbs) Gd.none Wg_tU77 rfl ?_
    refine n_sub ((digs (z).natAbs).length) (1) Gd.none rfl rfl (by omega) (by simp only [topOf]; omega) ?_
    refine n_index (digs (z).natAbs) (((digs (z).natAbs).length) - (1)) Gd.none Wg_tE77 rfl rfl (by omega) ?_
    refine n_loadI (digs (z).natAbs) (((digs (z).natAbs).length) - (1)) Gd.none Wg_tS115 rfl (by omega) ?_
    refine n_conv ((digs (z).natAbs).getD (((digs (z).natAbs).length) - (1)) 0) Gd.none rfl Wg_tI115 Wg_tI3 (by simp only [topOf]; omega) ?_
    refine o_call [(nm .i64 ((digs (z).natAbs).getD (((digs (z).natAbs).length) - (1)) 0))] (AV.lit (.string (txt (((digs (z).natAbs).getD (((digs (z).natAbs).length) - (1)) 0 : Nat) : Int)))) Gd.none Wg_tC82 rfl (c_itoa ((digs (z).natAbs).getD (((digs (z).natAbs).length) - (1)) 0) (by omega)) ?_
    refine n_lenS (txt (((digs (z).natAbs).getD (((digs (z).natAbs).length) - (1)) 0 : Nat) : Int)) Gd.none rfl Wg_tT9 ?_
    refine n_add ((9) * (((digs (z).natAbs).length) - (1))) ((txt (((digs (z).natAbs).getD (((digs (z).natAbs).length) - (1)) 0 : Nat) : Int)).size) Gd.none rfl rfl (by simp only [topOf]; omega) ?_
    refine o_assign (nm .i64 (((9) * (((digs (z).natAbs).length) - (1))) + ((txt (((digs (z).natAbs).getD (((digs (z).natAbs).length) - (1)) 0 : Nat) : Int)).size))) Gd.none rfl ?_
    refine aops_end ⟨by kernel_rfl, ?_⟩
    refine hK4 _ ?_
    refine awp_ret ?_
    refine post_ret ⟨[(nm .i64 (((9) * (((digs (z).natAbs).length) - (1))) + ((txt (((digs (z).natAbs).getD (((digs (z).natAbs).length) - (1)) 0 : Nat) : Int)).size)))], And.intro (AV.le_refl _) (trivial), rfl, ?_⟩
    refine congrArg (nm .i64) ?_
    rw [hsz]
    have hp := val_drop_pos (n := z.natAbs) (j := (digs z.natAbs).length - 1) (by omega)
    rw [val_drop_succ (by omega), val_drop_all (xs := digs z.natAbs) (j := (digs z.natAbs).length - 1 + 1) (by omega)] at hp
    unfold ndig
    rw [if_neg (by omega), if_neg (by omega), ht]

theorem c_wText (z : Int) (hz : (digs z.natAbs).length ≤ 1000000000) : ECalls cx 64 [(intW (z))] (.lit (.string (txt z))) := by
  refine ecalls_of_awp Tryd.func64 (c := _) rfl (Nat.le_of_ble_eq_true rfl) ?_
  show awp cx 54 _ (postF cx Tryd.f64 _) ⟨[(0, (intW (z)))], []⟩
  refine awp_seq fun K0 hK0 => ?_
  refine awp_region rfl ?_
  refine o_box 2 [(bp (z < 0)), (AV.sl 1 (ns .u32 (digs (z).natAbs)))] Gd.none rfl rfl ?_
  refine o_assign (AV.lit (.string (({data := #[]} : ByteArray)))) Gd.none rfl ?_
  refine aops_end ?_
  refine hK0 _ ?_
  refine awp_seq fun K1 hK1 => ?_
  refine awp_seq fun K2 hK2 => ?_
  refine awp_region rfl ?_
  refine o_fieldRef 1 Gd.none Wg_tF79_1 rfl rfl ?_
  refine o_loadS (AV.sl 1 (ns .u32 (digs (z).natAbs))) Gd.none Wg_tS77 rfl rfl rfl ?_
  refine n_len (digs (z).natAbs) Gd.none Wg_tU77 rfl ?_
  refine n_eql ((digs (z).natAbs).length) (0) Gd.none rfl rfl ?_
  refine aops_end ?_
  refine hK2 _ ?_
  refine awp_condQ (q := ((digs (z).natAbs).length) = (0)) rfl (fun h1 => ?_) (fun h1 => ?_)
  · refine awp_seq fun K3 hK3 => ?_
    refine awp_region rfl ?_
    refine o_assign (AV.lit (.string (({data := #[48]} : ByteArray)))) Gd.none rfl ?_
    refine aops_end ?_
    refine hK3 _ ?_
    refine awp_ret ?_
    refine post_ret ⟨[(AV.lit (.string (({data := #[48]} : ByteArray))))], And.intro (AV.le_refl _) (trivial), rfl, ?_⟩
    rw [show z = 0 by have := digs_len_zero.1 h1; omega]
    rfl
  · have hz0 : z.natAbs ≠ 0 := fun e => h1 (digs_len_zero.2 e)
    refine awp_skip ?_
    refine hK1 _ ?_
    refine awp_seq fun K4 hK4 => ?_
    refine awp_region rfl ?_
    refine o_buildSlice 3 (ns .u8 ([])) [] Gd.none Wg_tE101 rfl Wg_tO5 rfl rfl rfl rfl rfl rfl rfl ?_
    refine o_assign (AV.row 3) Gd.none rfl ?_
    refine aops_end ?_
    refine hK4 _ ?_
    refine awp_seqJ (J := fun σ => ∃ (o0 : List Nat), (o0 = (if z < 0 then [45] else [] : List Nat)) ∧ True ∧ σ = ⟨[(1, (AV.ref 2 (0))), (3, (AV.row 3))], [(2, (AO.var 79 [(bp (z < 0)), (AV.sl 1 (ns .u32 (digs (z).natAbs)))])), (3, (AO.row 5 1 (ns .u8 (o0))))]⟩) ?ja0 ?jb0
    case ja0 =>
      refine awp_seq fun K5 hK5 => ?_
      refine awp_region rfl ?_
      refine o_fieldRef 0 Gd.none Wg_tF79_0 rfl rfl ?_
      refine o_loadS (bp (z < 0)) Gd.none Wg_tS4 rfl rfl rfl ?_
      refine aops_end ?_
      refine hK5 _ ?_
      refine awp_condQ (q := z < 0) rfl (fun h2 => ?_) (fun h2 => ?_)
      · refine awp_region rfl ?_
        refine o_move (AV.row 3) Gd.none rfl ?_
        refine o_buildSlice 4 (ns .u8 ([45])) [(0, [(nm .u8 (45))])] Gd.none Wg_tE101 rfl Wg_tO5 rfl rfl rfl rfl rfl rfl rfl ?_
        refine n_append 5 ([]) ([45]) [(4, (AO.row 5 1 (ns .u8 ([45])))), (2, (AO.var 79 [(bp (z < 0)), (AV.sl 1 (ns .u32 (digs (z).natAbs)))]))] Gd.none Wg_tE101 Wg_tO5 rfl rfl rfl rfl rfl (by simp) (by decide) rfl rfl ?_
        refine o_assign (AV.row 5) Gd.none rfl ?_
        refine aops_end ?_
        exact ⟨_, ⟨([]) ++ ([45]), (by simp [*]), trivial, rfl⟩, Wk.trans (Wk.sub (σ' := ⟨[(1, (AV.ref 2 (0))), (3, (AV.row 5))], [(2, (AO.var 79 [(bp (z < 0)), (AV.sl 1 (ns .u32 (digs (z).natAbs)))])), (5, (AO.row 5 1 (ns .u8 (([]) ++ ([45])))))]⟩) (And.intro rfl (And.intro rfl (trivial))) (And.intro rfl (And.intro rfl (trivial)))) (Wk.trans (Wk.ren (id := 5) (id' := 3) rfl) (Wk.sub (And.intro (by exact rfl) (And.intro (by first | rfl | (simp)) (trivial))) (And.intro (by first | rfl | exact row_ns (by simp) | exact congrArg (fun x => some (AO.blk (.stringIter _ x))) (by omega)) (And.intro (by first | rfl | exact row_ns (by simp) | exact congrArg (fun x => some (AO.blk (.stringIter _ x))) (by omega)) (trivial)))))⟩
      · refine awp_skip ?_
        exact ⟨_, ⟨[], (by simp [*]), trivial, rfl⟩, Wk.sub (And.intro (by exact rfl) (And.intro (by exact rfl) (trivial))) (And.intro (by first | rfl | exact row_ns (by simp) | exact congrArg (fun x => some (AO.blk (.stringIter _ x))) (by omega)) (And.intro (by first | rfl | exact row_ns (by simp) | exact congrArg (fun x => some (AO.blk (.stringIter _ x))) (by omega)) (trivial)))⟩
    rintro _ ⟨o0, ho0, -, rfl⟩
    have hol : o0.length ≤ 1 := by rw [ho0]; split <;> simp
    refine awp_seq fun K6 hK6 => ?_
    refine awp_seq fun K7 hK7 => ?_
    refine awp_region rfl ?_
    refine o_fieldRef 1 Gd.none Wg_tF79_1 rfl rfl ?_
    refine o_loadS (AV.sl 1 (ns .u32 (digs (z).natAbs))) Gd.none Wg_tS77 rfl rfl rfl ?_
    refine n_len (digs (z).natAbs) Gd.none Wg_tU77 rfl ?_
    refine o_sub (a := ((((digs (z).natAbs).length : Nat) : Int))) (c := (((1 : Nat) : Int))) Gd.none rfl rfl (by exact wrap64 (by omega) (by omega)) ?_
    refine o_assign (AV.lit (.int .i64 (((((digs (z).natAbs).length : Nat) : Int)) - (((1 : Nat) : Int))))) Gd.none rfl ?_
    refine aops_end ?_
    refine hK7 _ ?_
    refine awp_block ?_
    refine awp_loopR (fun κ σ => ∃ (j : Nat), ∃ (out : List Nat), ∃ (body : List Nat), (j ≤ (digs z.natAbs).length) ∧ (body = (decs (val ((digs z.natAbs).drop j))).reverse) ∧ (out = o0 ++ body) ∧ (out.length ≤ 1 + 9 * ((digs z.natAbs).length - j)) ∧ (j) = κ ∧ σ = ⟨[(1, (AV.ref 2 (0))), (3, (AV.row 3)), (4, (AV.lit (.int .i64 ((j : Int) - 1))))], [(2, (AO.var 79 [(bp (z < 0)), (AV.sl 1 (ns .u32 (digs (z).natAbs)))])), (3, (AO.row 5 1 (ns .u8 (out))))]⟩) ⟨_, _, ⟨(digs z.natAbs).length, o0, [], (Nat.le_refl _), (by rw [val_drop_all (Nat.le_refl _), decs_zero]; rfl), (by simp), (by omega), rfl, rfl⟩, ?wk1⟩ ?rd1
    case wk1 =>
      exact Wk.sub (And.intro (by exact rfl) (And.intro (by exact rfl) (And.intro (by first | rfl | exact int_eq (by omega) | exact int_nm (by omega)) (trivial)))) (And.intro (by first | rfl | exact row_ns (by simp) | exact congrArg (fun x => some (AO.blk (.stringIter _ x))) (by omega)) (And.intro (by first | rfl | exact row_ns (by simp) | exact congrArg (fun x => some (AO.blk (.stringIter _ x))) (by omega)) (trivial)))
    rintro κ _ ⟨j, out, body, hj, hb, ho, hol2, rfl, rfl⟩
    have hp := (digs_dig z.natAbs).getD (j - 1)
    have htsz := txt_size ((digs z.natAbs).getD (j - 1) 0)
    have hnd := ndig_small hp
    refine awp_seq fun K8 hK8 => ?_
    refine awp_seq fun K9 hK9 => ?_
    refine awp_region rfl ?_
    refine o_move (AV.lit (.int .i64 ((j : Int) - 1))) Gd.none rfl ?_
    refine o_geq (a := ((j : Int) - 1)) (c := (((0 : Nat) : Int))) Gd.none rfl rfl ?_
    refine aops_end ?_
    refine hK9 _ ?_
    refine awp_condQ (q := (((0 : Nat) : Int)) ≤ ((j : Int) - 1)) rfl (fun h3 => ?_) (fun h3 => ?_)
    · refine awp_wk (Wk.slot (i := 4) (y := (nm .i64 (j - 1))) (AV.le_eq (by exact nm_int (by omega)))) ?_
      refine awp_skip ?_
      refine hK8 _ ?_
      refine awp_seq fun K10 hK10 => ?_
      refine awp_block ?_
      refine awp_seq fun K11 hK11 => ?_
      refine awp_region rfl ?_
      refine o_fieldRef 1 Gd.none Wg_tF79_1 rfl rfl ?_
      refine o_loadS (AV.sl 1 (ns .u32 (digs (z).natAbs))) Gd.none Wg_tS77 rfl rfl rfl ?_
      refine o_move (nm .i64 (j - 1)) Gd.none rfl ?_
      refine n_index (digs (z).natAbs) (j - 1) Gd.none Wg_tE77 rfl rfl (by omega) ?_
      refine n_loadI (digs (z).natAbs) (j - 1) Gd.none Wg_tS115 rfl (by omega) ?_
      refine n_conv ((digs (z).natAbs).getD (j - 1) 0) Gd.none rfl Wg_tI115 Wg_tI3 (by simp only [topOf]; omega) ?_
      refine o_call [(nm .i64 ((digs (z).natAbs).getD (j - 1) 0))] (AV.lit (.string (txt (((digs (z).natAbs).getD (j - 1) 0 : Nat) : Int)))) Gd.none Wg_tC82 rfl (c_itoa ((digs (z).natAbs).getD (j - 1) 0) (by omega)) ?_
      refine o_assign (AV.lit (.string (txt (((digs (z).natAbs).getD (j - 1) 0 : Nat) : Int)))) Gd.none rfl ?_
      refine aops_end ?_
      refine hK11 _ ?_
      refine awp_seq fun K12 hK12 => ?_
      refine awp_seq fun K13 hK13 => ?_
      refine awp_region rfl ?_
      refine o_move (AV.lit (.string (txt (((digs (z).natAbs).getD (j - 1) 0 : Nat) : Int)))) Gd.none rfl ?_
      refine n_lenS (txt (((digs (z).natAbs).getD (j - 1) 0 : Nat) : Int)) Gd.none rfl Wg_tT9 ?_
      refine n_as (v' := (nm .i64 (ndig ((digs z.natAbs).getD (j - 1) 0)))) (congrArg (nm _) (by exact htsz)) ?_
      refine o_assign (nm .i64 (ndig ((digs z.natAbs).getD (j - 1) 0))) Gd.none rfl ?_
      refine aops_end ?_
      refine hK13 _ ?_
      refine awp_block ?_
      refine awp_loopR (fun κ σ => ∃ (k : Nat), ∃ (out2 : List Nat), (ndig ((digs z.natAbs).getD (j - 1) 0) ≤ k) ∧ (k ≤ 9) ∧ (¬ j < (digs z.natAbs).length → k = ndig ((digs z.natAbs).getD (j - 1) 0)) ∧ (out2 = out ++ List.replicate (k - ndig ((digs z.natAbs).getD (j - 1) 0)) 48) ∧ (out2.length + ndig ((digs z.natAbs).getD (j - 1) 0) = out.length + k) ∧ (9 - k) = κ ∧ σ = ⟨[(1, (AV.ref 2 (0))), (3, (AV.row 3)), (4, (nm .i64 (j - 1))), (5, (AV.lit (.string (txt (((digs z.natAbs).getD (j - 1) 0 : Nat) : Int))))), (6, (nm .i64 (k)))], [(2, (AO.var 79 [(bp (z < 0)), (AV.sl 1 (ns .u32 (digs (z).natAbs)))])), (3, (AO.row 5 1 (ns .u8 (out2))))]⟩) ⟨_, _, ⟨ndig ((digs z.natAbs).getD (j - 1) 0), _, (Nat.le_refl _), hnd, (fun _ => rfl), (by simp), rfl, rfl, rfl⟩, ?wk2⟩ ?rd2
      case wk2 =>
        exact Wk.sub (And.intro (by exact rfl) (And.intro (by exact rfl) (And.intro (by exact rfl) (And.intro (by first | rfl | (simp)) (And.intro (by first | rfl | exact congrArg (nm _) (by omega) | exact nm_int (by omega) | exact nm_int (by simp [IntKind.wrap, IntKind.bits, IntKind.signed]; omega)) (trivial)))))) (And.intro (by first | rfl | exact row_ns (by simp) | exact congrArg (fun x => some (AO.blk (.stringIter _ x))) (by omega)) (And.intro (by first | rfl | exact row_ns (by simp) | exact congrArg (fun x => some (AO.blk (.stringIter _ x))) (by omega)) (trivial)))
      rintro κ _ ⟨k, out2, hk9, hk10, hk0, hk, hk11, rfl, rfl⟩
      refine awp_seq fun K14 hK14 => ?_
      refine awp_seq fun K15 hK15 => ?_
      refine awp_region rfl ?_
      refine o_move (nm .i64 (k)) Gd.none rfl ?_
      refine n_lss (k) (9) Gd.none rfl rfl ?_
      refine o_move (bp ((k) < (9))) Gd.none rfl ?_
      refine o_splitP (q := (k) < (9)) 36 rfl (fun h4 => ?_) (fun h4 => ?_)
      · refine o_move (nm .i64 (j - 1)) (Gd.yes rfl rfl (decide_eq_true h4)) rfl ?_
        refine o_fieldRef 1 (Gd.yes rfl rfl (decide_eq_true h4)) Wg_tF79_1 rfl rfl ?_
        refine o_loadS (AV.sl 1 (ns .u32 (digs (z).natAbs))) (Gd.yes rfl rfl (decide_eq_true h4)) Wg_tS77 rfl rfl rfl ?_
        refine n_len (digs (z).natAbs) (Gd.yes rfl rfl (decide_eq_true h4)) Wg_tU77 rfl ?_
        refine n_sub ((digs (z).natAbs).length) (1) (Gd.yes rfl rfl (decide_eq_true h4)) rfl rfl (by omega) (by simp only [topOf]; omega) ?_
        refine n_lss (j - 1) (((digs (z).natAbs).length) - (1)) (Gd.yes rfl rfl (decide_eq_true h4)) rfl rfl ?_
        refine o_pickT (b := decide ((k) < (9))) (bp ((j - 1) < (((digs (z).natAbs).length) - (1)))) Gd.none rfl (decide_eq_true h4) rfl ?_
        refine aops_end ?_
        refine hK15 _ ?_
        refine awp_condQ (q := (j - 1) < (((digs (z).natAbs).length) - (1))) rfl (fun h5 => ?_) (fun h5 => ?_)
        · refine awp_skip ?_
          refine hK14 _ ?_
          refine awp_seq fun K16 hK16 => ?_
          refine awp_block ?_
          refine awp_region rfl ?_
          refine o_move (AV.row 3) Gd.none rfl ?_
          refine o_buildSlice 301 (ns .u8 ([48])) [(0, [(nm .u8 (48))])] Gd.none Wg_tE101 rfl Wg_tO5 rfl rfl rfl rfl rfl rfl rfl ?_
          refine n_append 302 (out2) ([48]) [(301, (AO.row 5 1 (ns .u8 ([48])))), (2, (AO.var 79 [(bp (z < 0)), (AV.sl 1 (ns .u32 (digs (z).natAbs)))]))] Gd.none Wg_tE101 Wg_tO5 rfl rfl rfl rfl rfl (by simp only [List.length_append, List.length_cons, List.length_nil]; omega) (by decide) rfl rfl ?_
          refine o_assign (AV.row 302) Gd.none rfl ?_
          refine aops_end ?_
          refine hK16 _ ?_
          refine awp_region rfl ?_
          refine o_move (nm .i64 (k)) Gd.none rfl ?_
          refine n_add (k) (1) Gd.none rfl rfl (by simp only [topOf]; omega) ?_
          refine o_assign (nm .i64 ((k) + (1))) Gd.none rfl ?_
          refine aops_end ?_
          refine ⟨_, _, ?lt, ⟨k + 1, (out2) ++ ([48]), (by omega), (by omega), (fun h => by omega), (by rw [hk, List.append_assoc, ← List.replicate_succ', show k - ndig ((digs z.natAbs).getD (j - 1) 0) + 1 = k + 1 - ndig ((digs z.natAbs).getD (j - 1) 0) by omega]), (by simp only [List.length_append, List.length_cons, List.length_nil]; omega), rfl, rfl⟩, ?wk⟩
          case lt => omega
          case wk => exact Wk.trans (Wk.sub (σ' := ⟨[(1, (AV.ref 2 (0))), (3, (AV.row 302)), (4, (nm .i64 (j - 1))), (5, (AV.lit (.string (txt (((digs z.natAbs).getD (j - 1) 0 : Nat) : Int))))), (6, (nm .i64 ((k) + (1))))], [(2, (AO.var 79 [(bp (z < 0)), (AV.sl 1 (ns .u32 (digs (z).natAbs)))])), (302, (AO.row 5 1 (ns .u8 ((out2) ++ ([48])))))]⟩) (And.intro rfl (And.intro rfl (And.intro rfl (And.intro rfl (And.intro rfl (trivial)))))) (And.intro rfl (And.intro rfl (trivial)))) (Wk.trans (Wk.ren (id := 302) (id' := 3) rfl) (Wk.sub (And.intro (by exact rfl) (And.intro (by first | rfl | (simp)) (And.intro (by exact rfl) (And.intro (by exact rfl) (And.intro (by first | rfl | exact congrArg (nm _) (by omega) | exact nm_int (by omega) | exact nm_int (by simp [IntKind.wrap, IntKind.bits, IntKind.signed]; omega)) (trivial)))))) (And.intro (by first | rfl | exact row_ns (by simp) | exact congrArg (fun x => some (AO.blk (.stringIter _ x))) (by omega)) (And.intro (by first | rfl | exact row_ns (by simp) | exact congrArg (fun x => some (AO.blk (.stringIter _ x))) (by omega)) (trivial)))))
        · refine awp_exit ?_
          refine hK12 _ ?_
          refine awp_region rfl ?_
          refine o_move (AV.row 3) Gd.none rfl ?_
          refine o_move (AV.lit (.string (txt (((digs z.natAbs).getD (j - 1) 0 : Nat) : Int)))) Gd.none rfl ?_
          refine n_appendS 301 (out2) (txt (((digs z.natAbs).getD (j - 1) 0 : Nat) : Int)) [(2, (AO.var 79 [(bp (z < 0)), (AV.sl 1 (ns .u32 (digs (z).natAbs)))]))] Gd.none Wg_tE101 Wg_tT9 Wg_tW5 rfl rfl rfl (by rw [htsz]; omega) rfl rfl ?_
          refine o_assign (AV.row 301) Gd.none rfl ?_
          refine aops_end ?_
          refine hK10 _ ?_
          refine awp_region rfl ?_
          refine o_move (nm .i64 (j - 1)) Gd.none rfl ?_
          refine o_sub (a := (((j - 1 : Nat) : Int))) (c := (((1 : Nat) : Int))) Gd.none rfl rfl (by exact wrap64 (by omega) (by omega)) ?_
          refine o_assign (AV.lit (.int .i64 ((((j - 1 : Nat) : Int)) - (((1 : Nat) : Int))))) Gd.none rfl ?_
          refine aops_end ?_
          have hk2 : out2 = if j < (digs z.natAbs).length then out ++ List.replicate (9 - ndig ((digs z.natAbs).getD (j - 1) 0)) 48 else out := by
            rw [hk]
            by_cases hj2 : j < (digs z.natAbs).length
            · rw [if_pos hj2, show k = 9 by omega]
            · rw [if_neg hj2, hk0 hj2]; simp
          refine ⟨_, _, ?lt, ⟨j - 1, (out2) ++ byts (txt (((digs z.natAbs).getD (j - 1) 0 : Nat) : Int)), (if j < (digs z.natAbs).length then body ++ List.replicate (9 - ndig ((digs z.natAbs).getD (j - 1) 0)) 48 else body) ++ txtL ((digs z.natAbs).getD (j - 1) 0 : Nat), (by omega), (str_step (by omega) hj hb), (by rw [hk2, ho, byts_txt]; split <;> simp [*]), (by simp only [List.length_append, byts_len, htsz]; omega), rfl, rfl⟩, ?wk⟩
          case lt => omega
          case wk => exact Wk.trans (Wk.sub (σ' := ⟨[(1, (AV.ref 2 (0))), (3, (AV.row 301)), (4, (AV.lit (.int .i64 ((((j - 1 : Nat) : Int)) - (((1 : Nat) : Int))))))], [(2, (AO.var 79 [(bp (z < 0)), (AV.sl 1 (ns .u32 (digs (z).natAbs)))])), (301, (AO.row 5 1 (ns .u8 ((out2) ++ byts (txt (((digs z.natAbs).getD (j - 1) 0 : Nat) : Int))))))]⟩) (And.intro rfl (And.intro rfl (And.intro rfl (trivial)))) (And.intro rfl (And.intro rfl (trivial)))) (Wk.trans (Wk.ren (id := 301) (id' := 3) rfl) (Wk.sub (And.intro (by exact rfl) (And.intro (by first | rfl | (simp)) (And.intro (by first | rfl | exact int_eq (by omega) | exact int_nm (by omega)) (trivial)))) (And.intro (by first | rfl | exact row_ns (by simp) | exact congrArg (fun x => some (AO.blk (.stringIter _ x))) (by omega)) (And.intro (by first | rfl | exact row_ns (by simp) | exact congrArg (fun x => some (AO.blk (.stringIter _ x))) (by omega)) (trivial)))))
      · refine o_skip (b := decide ((k) < (9))) rfl rfl (decide_eq_false h4) ?_
        refine o_skip (b := decide ((k) < (9))) rfl rfl (decide_eq_false h4) ?_
        refine o_skip (b := decide ((k) < (9))) rfl rfl (decide_eq_false h4) ?_
        refine o_skip (b := decide ((k) < (9))) rfl rfl (decide_eq_false h4) ?_
        refine o_skip (b := decide ((k) < (9))) rfl rfl (decide_eq_false h4) ?_
        refine o_skip (b := decide ((k) < (9))) rfl rfl (decide_eq_false h4) ?_
        refine o_pickF (b := decide ((k) < (9))) (AV.lit (.bool false)) Gd.none rfl (decide_eq_false h4) rfl ?_
        refine aops_end ?_
        refine hK15 _ ?_
        refine awp_condB (b := false) rfl (fun hh => absurd (hh.symm.trans rfl) (by decide)) (fun _ => ?_)
        refine awp_exit ?_
        refine hK12 _ ?_
        refine awp_region rfl ?_
        refine o_move (AV.row 3) Gd.none rfl ?_
        refine o_move (AV.lit (.string (txt (((digs z.natAbs).getD (j - 1) 0 : Nat) : Int)))) Gd.none rfl ?_
        refine n_appendS 301 (out2) (txt (((digs z.natAbs).getD (j - 1) 0 : Nat) : Int)) [(2, (AO.var 79 [(bp (z < 0)), (AV.sl 1 (ns .u32 (digs (z).natAbs)))]))] Gd.none Wg_tE101 Wg_tT9 Wg_tW5 rfl rfl rfl (by rw [htsz]; omega) rfl rfl ?_
        refine o_assign (AV.row 301) Gd.none rfl ?_
        refine aops_end ?_
        refine hK10 _ ?_
        refine awp_region rfl ?_
        refine o_move (nm .i64 (j - 1)) Gd.none rfl ?_
        refine o_sub (a := (((j - 1 : Nat) : Int))) (c := (((1 : Nat) : Int))) Gd.none rfl rfl (by exact wrap64 (by omega) (by omega)) ?_
        refine o_assign (AV.lit (.int .i64 ((((j - 1 : Nat) : Int)) - (((1 : Nat) : Int))))) Gd.none rfl ?_
        refine aops_end ?_
        have hk2 : out2 = if j < (digs z.natAbs).length then out ++ List.replicate (9 - ndig ((digs z.natAbs).getD (j - 1) 0)) 48 else out := by
          rw [hk]
          by_cases hj2 : j < (digs z.natAbs).length
          · rw [if_pos hj2, show k = 9 by omega]
          · rw [if_neg hj2, hk0 hj2]; simp
        refine ⟨_, _, ?lt, ⟨j - 1, (out2) ++ byts (txt (((digs z.natAbs).getD (j - 1) 0 : Nat) : Int)), (if j < (digs z.natAbs).length then body ++ List.replicate (9 - ndig ((digs z.natAbs).getD (j - 1) 0)) 48 else body) ++ txtL ((digs z.natAbs).getD (j - 1) 0 : Nat), (by omega), (str_step (by omega) hj hb), (by rw [hk2, ho, byts_txt]; split <;> simp [*]), (by simp only [List.length_append, byts_len, htsz]; omega), rfl, rfl⟩, ?wk⟩
        case lt => omega
        case wk => exact Wk.trans (Wk.sub (σ' := ⟨[(1, (AV.ref 2 (0))), (3, (AV.row 301)), (4, (AV.lit (.int .i64 ((((j - 1 : Nat) : Int)) - (((1 : Nat) : Int))))))], [(2, (AO.var 79 [(bp (z < 0)), (AV.sl 1 (ns .u32 (digs (z).natAbs)))])), (301, (AO.row 5 1 (ns .u8 ((out2) ++ byts (txt (((digs z.natAbs).getD (j - 1) 0 : Nat) : Int))))))]⟩) (And.intro rfl (And.intro rfl (And.intro rfl (trivial)))) (And.intro rfl (And.intro rfl (trivial)))) (Wk.trans (Wk.ren (id := 301) (id' := 3) rfl) (Wk.sub (And.intro (by exact rfl) (And.intro (by first | rfl | (simp)) (And.intro (by first | rfl | exact int_eq (by omega) | exact int_nm (by omega)) (trivial)))) (And.intro (by first | rfl | exact row_ns (by simp) | exact congrArg (fun x => some (AO.blk (.stringIter _ x))) (by omega)) (And.intro (by first | rfl | exact row_ns (by simp) | exact congrArg (fun x => some (AO.blk (.stringIter _ x))) (by omega)) (trivial)))))
    · refine awp_exit ?_
      refine hK6 _ ?_
      refine awp_seq fun K17 hK17 => ?_
      refine awp_region rfl ?_
      refine o_move (AV.row 3) Gd.none rfl ?_
      refine n_strOf (out) Gd.none Wg_tU101 Wg_tQ5 Wg_tT9 rfl rfl ?_
      refine o_assign (AV.lit (.string (strN (out)))) Gd.none rfl ?_
      refine aops_end ?_
      refine hK17 _ ?_
      refine awp_ret ?_
      refine post_ret ⟨[(AV.lit (.string (strN (out))))], And.intro (AV.le_refl _) (trivial), rfl, ?_⟩
      have hj0 : j = 0 := by omega
      subst hj0
      rw [List.drop_zero, val_digs] at hb
      refine congrArg (fun x => AV.lit (.string x)) ?_
      unfold txt txtL
      rw [if_neg (by omega), ho, ho0, hb]

end Go.Proofs.YtbilndahjkimkaaDoor

set_option linter.unusedVariables false
set_option linter.unusedSimpArgs false
namespace Go.Proofs.YtbilndahjkimkaaDoor
open Go Go.Ab Go.Mth
theorem Wh_tT9 : cx.P.underlying 9 = some .string := by kernel_rfl
theorem c_nValid (a : ByteArray) (hsz : a.size ≤ 9223372036854775807) : ECalls cx 47 [(AV.lit (.string (a)))] (.lit (.bool (okS a))) := by
  refine ecalls_of_awp Tryd.func47 (c := _) rfl (Nat.le_of_ble_eq_true rfl) ?_
  show awp cx 50 _ (postF cx Tryd.f47 _) ⟨[(0, (AV.lit (.string (a))))], []⟩
  have hs1 : sgnAt a ≤ 1 := by unfold sgnAt; split <;> omega
  refine awp_seq fun K0 hK0 => ?_
  refine awp_region rfl ?_
  refine o_assign (AV.lit (.bool false)) Gd.none rfl ?_
  refine aops_end ?_
  refine hK0 _ ?_
  refine awp_seq fun K1 hK1 => ?_
  refine awp_seq fun K2 hK2 => ?_
  refine awp_region rfl ?_
  refine o_move (AV.lit (.string (a))) Gd.none rfl ?_
  refine n_lenS (a) Gd.none rfl Wh_tT9 ?_
  refine n_gtr ((a).size) (2001) Gd.none rfl rfl ?_
  refine aops_end ?_
  refine hK2 _ ?_
  refine awp_condQ (q := (2001) < ((a).size)) rfl (fun h1 => ?_) (fun h1 => ?_)
  · refine awp_seq fun K3 hK3 => ?_
    refine awp_region rfl ?_
    refine o_assign (AV.lit (.bool false)) Gd.none rfl ?_
    refine aops_end ?_
    refine hK3 _ ?_
    refine awp_ret ?_
    refine post_ret ⟨[(AV.lit (.bool false))], And.intro (AV.le_refl _) (trivial), rfl, ?_⟩
    refine bl_eq (okS_no fun h => ?_)
    obtain ⟨o1, o2, o3, o4⟩ := h
    first | omega | (have := str_nil.1 (by assumption); omega) | (have e := hb 0 (by omega); rw [Nat.add_zero] at e; omega) | (have e := hb 0 (by omega); have := hng1 (by assumption); rw [Nat.add_zero] at e; omega) | (have e := o4 (sgnAt a + pos) (by omega) (by omega); rw [← hb pos (by omega)] at e; have e2 := utf8_lo (a := b) (pos := pos) (by omega) (by omega); simp only [e2] at *; omega)
  · refine awp_skip ?_
    refine hK1 _ ?_
    refine awp_seqJ (J := fun σ => ∃ (ng : Bool), (ng = true → sgnAt a = 1) ∧ (ng = false → sgnAt a = 0) ∧ (ng = true → 0 < a.size) ∧ True ∧ σ = ⟨[(0, (AV.lit (.string (a)))), (3, (AV.lit (.bool (ng))))], []⟩) ?ja0 ?jb0
    case ja0 =>
      refine awp_region rfl ?_
      refine o_move (AV.lit (.string (a))) Gd.none rfl ?_
      refine o_neqS (a := (a)) (c := (({data := #[]} : ByteArray))) Gd.none rfl rfl ?_
      refine o_move (bp ((a).toList ≠ (({data := #[]} : ByteArray)).toList)) Gd.none rfl ?_
      refine o_splitP (q := (a).toList ≠ (({data := #[]} : ByteArray)).toList) 11 rfl (fun h2 => ?_) (fun h2 => ?_)
      · refine o_move (AV.lit (.string (a))) (Gd.yes rfl rfl (decide_eq_true h2)) rfl ?_
        refine n_indexS (a) (0) (Gd.yes rfl rfl (decide_eq_true h2)) Wh_tT9 rfl rfl (by have := mt str_nil.2 h2; omega) ?_
        refine n_eql (byt (a) (0)) (45) (Gd.yes rfl rfl (decide_eq_true h2)) rfl rfl ?_
        refine o_pickT (b := decide ((a).toList ≠ (({data := #[]} : ByteArray)).toList)) (bp ((byt (a) (0)) = (45))) Gd.none rfl (decide_eq_true h2) rfl ?_
        refine o_assign (bp ((byt (a) (0)) = (45))) Gd.none rfl ?_
        refine aops_end ?_
        have hne := mt str_nil.2 h2
        exact ⟨_, ⟨decide ((byt (a) (0)) = (45)), (fun h => if_pos (of_decide_eq_true h)), (fun h => if_neg (of_decide_eq_false h)), (fun _ => by omega), trivial, rfl⟩, Wk.sub (And.intro (by exact rfl) (And.intro (by first | rfl | (simp)) (trivial))) (trivial)⟩
      · refine o_skip (b := decide ((a).toList ≠ (({data := #[]} : ByteArray)).toList)) rfl rfl (decide_eq_false h2) ?_
        refine o_skip (b := decide ((a).toList ≠ (({data := #[]} : ByteArray)).toList)) rfl rfl (decide_eq_false h2) ?_
        refine o_skip (b := decide ((a).toList ≠ (({data := #[]} : ByteArray)).toList)) rfl rfl (decide_eq_false h2) ?_
        refine o_pickF (b := decide ((a).toList ≠ (({data := #[]} : ByteArray)).toList)) (AV.lit (.bool false)) Gd.none rfl (decide_eq_false h2) rfl ?_
        refine o_assign (AV.lit (.bool false)) Gd.none rfl ?_
        refine aops_end ?_
        have hs : sgnAt a = 0 := if_neg (by rw [byt_nil (str_nil.1 (Decidable.not_not.1 h2))]; decide)
        exact ⟨_, ⟨false, (fun h => by cases h), (fun _ => hs), (fun h => by cases h), trivial, rfl⟩, Wk.sub (And.intro (by exact rfl) (And.intro (by first | rfl | (simp)) (trivial))) (trivial)⟩
    rintro _ ⟨ng, hng1, hng0, hngz, -, rfl⟩
    refine awp_seqJ (J := fun σ => ∃ (b : ByteArray), (b.size = a.size - sgnAt a) ∧ (∀ i, i < b.size → byt b i = byt a (sgnAt a + i)) ∧ True ∧ σ = ⟨[(0, (AV.lit (.string (b)))), (3, (AV.lit (.bool (ng))))], []⟩) ?ja1 ?jb1
    case ja1 =>
      refine awp_seq fun K4 hK4 => ?_
      refine awp_region rfl ?_
      refine o_move (AV.lit (.bool (ng))) Gd.none rfl ?_
      refine aops_end ?_
      refine hK4 _ ?_
      refine awp_condB (b := ng) rfl (fun h3 => ?_) (fun h3 => ?_)
      · refine awp_region rfl ?_
        refine o_move (AV.lit (.string (a))) Gd.none rfl ?_
        refine n_sliceSL (a) (1) ((a).size) Gd.none Wh_tT9 rfl rfl (by have hz := hngz h3; omega) (by rfl) ?_
        refine o_assign (AV.lit (.string ((a).extract (1) ((a).size)))) Gd.none rfl ?_
        refine aops_end ?_
        have hs := hng1 h3
        have hz := hngz h3
        exact ⟨_, ⟨(a).extract (1) ((a).size), (by rw [extract_size a (by omega) (by omega)]; omega), (fun i hi => by rw [extract_size a (by omega) (by omega)] at hi; rw [byt_extract a (by omega) (by omega), hs]), trivial, rfl⟩, Wk.sub (And.intro (by first | rfl | (simp)) (And.intro (by exact rfl) (trivial))) (trivial)⟩
      · refine awp_skip ?_
        have hs := hng0 h3
        exact ⟨_, ⟨a, (by omega), (fun i hi => by rw [hs, Nat.zero_add]), trivial, rfl⟩, Wk.sub (And.intro (by first | rfl | (simp)) (And.intro (by exact rfl) (trivial))) (trivial)⟩
    rintro _ ⟨b, hbs, hb, -, rfl⟩
    refine awp_seq fun K5 hK5 => ?_
    refine awp_seq fun K6 hK6 => ?_
    refine awp_region rfl ?_
    refine o_move (AV.lit (.string (b))) Gd.none rfl ?_
    refine o_eqlS (a := (b)) (c := (({data := #[]} : ByteArray))) Gd.none rfl rfl ?_
    refine o_move (bp ((b).toList = (({data := #[]} : ByteArray)).toList)) Gd.none rfl ?_
    refine o_splitP (q := (b).toList = (({data := #[]} : ByteArray)).toList) 21 rfl (fun h4 => ?_) (fun h4 => ?_)
    · refine o_skip (b := decide ((b).toList = (({data := #[]} : ByteArray)).toList)) rfl rfl (decide_eq_true h4) ?_
      refine o_skip (b := decide ((b).toList = (({data := #[]} : ByteArray)).toList)) rfl rfl (decide_eq_true h4) ?_
      refine o_skip (b := decide ((b).toList = (({data := #[]} : ByteArray)).toList)) rfl rfl (decide_eq_true h4) ?_
      refine o_pickT (b := decide ((b).toList = (({data := #[]} : ByteArray)).toList)) (AV.lit (.bool true)) Gd.none rfl (decide_eq_true h4) rfl ?_
      refine o_move (AV.lit (.bool true)) Gd.none rfl ?_
      refine o_skip (b := true) rfl rfl rfl ?_
      refine o_skip (b := true) rfl rfl rfl ?_
      refine o_skip (b := true) rfl rfl rfl ?_
      refine o_skip (b := true) rfl rfl rfl ?_
      refine o_skipU rfl rfl ?_
      refine o_skipU rfl rfl ?_
      refine o_skipU rfl rfl ?_
      refine o_skipU rfl rfl ?_
      refine o_skipU rfl rfl ?_
      refine o_skipU rfl rfl ?_
      refine o_skip (b := true) rfl rfl rfl ?_
      refine o_pickT (b := true) (AV.lit (.bool true)) Gd.none rfl rfl rfl ?_
      refine aops_end ?_
      refine hK6 _ ?_
      refine awp_condB (b := true) rfl (fun _ => ?_) (fun hh => absurd (hh.symm.trans rfl) (by decide))
      refine awp_seq fun K7 hK7 => ?_
      refine awp_region rfl ?_
      refine o_assign (AV.lit (.bool false)) Gd.none rfl ?_
      refine aops_end ?_
      refine hK7 _ ?_
      refine awp_ret ?_
      refine post_ret ⟨[(AV.lit (.bool false))], And.intro (AV.le_refl _) (trivial), rfl, ?_⟩
      refine bl_eq (okS_no fun h => ?_)
      obtain ⟨o1, o2, o3, o4⟩ := h
      first | omega | (have := str_nil.1 (by assumption); omega) | (have e := hb 0 (by omega); rw [Nat.add_zero] at e; omega) | (have e := hb 0 (by omega); have := hng1 (by assumption); rw [Nat.add_zero] at e; omega) | (have e := o4 (sgnAt a + pos) (by omega) (by omega); rw [← hb pos (by omega)] at e; have e2 := utf8_lo (a := b) (pos := pos) (by omega) (by omega); simp only [e2] at *; omega)
    · have hne := mt str_nil.2 h4
      refine o_move (AV.lit (.string (b))) (Gd.yes rfl rfl (decide_eq_false h4)) rfl ?_
      refine n_lenS (b) (Gd.yes rfl rfl (decide_eq_false h4)) rfl Wh_tT9 ?_
      refine n_gtr ((b).size) (2000) (Gd.yes rfl rfl (decide_eq_false h4)) rfl rfl ?_
      refine o_pickF (b := decide ((b).toList = (({data := #[]} : ByteArray)).toList)) (bp ((2000) < ((b).size))) Gd.none rfl (decide_eq_false h4) rfl ?_
      refine o_move (bp ((2000) < ((b).size))) Gd.none rfl ?_
      refine o_splitP (q := (2000) < ((b).size)) 26 rfl (fun h5 => ?_) (fun h5 => ?_)
      · refine o_skip (b := decide ((2000) < ((b).size))) rfl rfl (decide_eq_true h5) ?_
        refine o_skip (b := decide ((2000) < ((b).size))) rfl rfl (decide_eq_true h5) ?_
        refine o_skip (b := decide ((2000) < ((b).size))) rfl rfl (decide_eq_true h5) ?_
        refine o_skip (b := decide ((2000) < ((b).size))) rfl rfl (decide_eq_true h5) ?_
        refine o_skipU rfl rfl ?_
        refine o_skipU rfl rfl ?_
        refine o_skipU rfl rfl ?_
        refine o_skipU rfl rfl ?_
        refine o_skipU rfl rfl ?_
        refine o_skipU rfl rfl ?_
        refine o_skip (b := decide ((2000) < ((b).size))) rfl rfl (decide_eq_true h5) ?_
        refine o_pickT (b := decide ((2000) < ((b).size))) (AV.lit (.bool true)) Gd.none rfl (decide_eq_true h5) rfl ?_
        refine aops_end ?_
        refine hK6 _ ?_
        refine awp_condB (b := true) rfl (fun _ => ?_) (fun hh => absurd (hh.symm.trans rfl) (by decide))
        refine awp_seq fun K8 hK8 => ?_
        refine awp_region rfl ?_
        refine o_assign (AV.lit (.bool false)) Gd.none rfl ?_
        refine aops_end ?_
        refine hK8 _ ?_
        refine awp_ret ?_
        refine post_ret ⟨[(AV.lit (.bool false))], And.intro (AV.le_refl _) (trivial), rfl, ?_⟩
        refine bl_eq (okS_no fun h => ?_)
        obtain ⟨o1, o2, o3, o4⟩ := h
        first | omega | (have := str_nil.1 (by assumption); omega) | (have e := hb 0 (by omega); rw [Nat.add_zero] at e; omega) | (have e := hb 0 (by omega); have := hng1 (by assumption); rw [Nat.add_zero] at e; omega) | (have e := o4 (sgnAt a + pos) (by omega) (by omega); rw [← hb pos (by omega)] at e; have e2 := utf8_lo (a := b) (pos := pos) (by omega) (by omega); simp only [e2] at *; omega)
      · refine o_move (AV.lit (.string (b))) (Gd.yes rfl rfl (decide_eq_false h5)) rfl ?_
        refine n_indexS (b) (0) (Gd.yes rfl rfl (decide_eq_false h5)) Wh_tT9 rfl rfl (by omega) ?_
        refine n_eql (byt (b) (0)) (48) (Gd.yes rfl rfl (decide_eq_false h5)) rfl rfl ?_
        refine o_move (bp ((byt (b) (0)) = (48))) (Gd.yes rfl rfl (decide_eq_false h5)) rfl ?_
        refine o_splitP (q := (byt (b) (0)) = (48)) 30 rfl (fun h6 => ?_) (fun h6 => ?_)
        · refine o_move (AV.lit (.string (b))) (Gd.yes rfl rfl (decide_eq_true h6)) rfl ?_
          refine n_lenS (b) (Gd.yes rfl rfl (decide_eq_true h6)) rfl Wh_tT9 ?_
          refine n_gtr ((b).size) (1) (Gd.yes rfl rfl (decide_eq_true h6)) rfl rfl ?_
          refine o_move (bp ((1) < ((b).size))) (Gd.yes rfl rfl (decide_eq_true h6)) rfl ?_
          refine o_splitP (q := (1) < ((b).size)) 34 rfl (fun h7 => ?_) (fun h7 => ?_)
          · refine o_skip (b := decide ((1) < ((b).size))) rfl rfl (decide_eq_true h7) ?_
            refine o_pickT (b := decide ((1) < ((b).size))) (AV.lit (.bool true)) (Gd.yes rfl rfl (decide_eq_true h6)) rfl (decide_eq_true h7) rfl ?_
            refine o_pickT (b := decide ((byt (b) (0)) = (48))) (AV.lit (.bool true)) (Gd.yes rfl rfl (decide_eq_false h5)) rfl (decide_eq_true h6) rfl ?_
            refine o_pickF (b := decide ((2000) < ((b).size))) (AV.lit (.bool true)) Gd.none rfl (decide_eq_false h5) rfl ?_
            refine aops_end ?_
            refine hK6 _ ?_
            refine awp_condB (b := true) rfl (fun _ => ?_) (fun hh => absurd (hh.symm.trans rfl) (by decide))
            refine awp_seq fun K9 hK9 => ?_
            refine awp_region rfl ?_
            refine o_assign (AV.lit (.bool false)) Gd.none rfl ?_
            refine aops_end ?_
            refine hK9 _ ?_
            refine awp_ret ?_
            refine post_ret ⟨[(AV.lit (.bool false))], And.intro (AV.le_refl _) (trivial), rfl, ?_⟩
            refine bl_eq (okS_no fun h => ?_)
            obtain ⟨o1, o2, o3, o4⟩ := h
            first | omega | (have := str_nil.1 (by assumption); omega) | (have e := hb 0 (by omega); rw [Nat.add_zero] at e; omega) | (have e := hb 0 (by omega); have := hng1 (by assumption); rw [Nat.add_zero] at e; omega) | (have e := o4 (sgnAt a + pos) (by omega) (by omega); rw [← hb pos (by omega)] at e; have e2 := utf8_lo (a := b) (pos := pos) (by omega) (by omega); simp only [e2] at *; omega)
          · refine o_move (AV.lit (.bool (ng))) (Gd.yes rfl rfl (decide_eq_false h7)) rfl ?_
            refine o_pickF (b := decide ((1) < ((b).size))) (AV.lit (.bool (ng))) (Gd.yes rfl rfl (decide_eq_true h6)) rfl (decide_eq_false h7) rfl ?_
            refine o_pickT (b := decide ((byt (b) (0)) = (48))) (AV.lit (.bool (ng))) (Gd.yes rfl rfl (decide_eq_false h5)) rfl (decide_eq_true h6) rfl ?_
            refine o_pickF (b := decide ((2000) < ((b).size))) (AV.lit (.bool (ng))) Gd.none rfl (decide_eq_false h5) rfl ?_
            refine aops_end ?_
            refine hK6 _ ?_
            refine awp_condB (b := ng) rfl (fun h8 => ?_) (fun h8 => ?_)
            · refine awp_seq fun K10 hK10 => ?_
              refine awp_region rfl ?_
              refine o_assign (AV.lit (.bool false)) Gd.none rfl ?_
              refine aops_end ?_
              refine hK10 _ ?_
              refine awp_ret ?_
              refine post_ret ⟨[(AV.lit (.bool false))], And.intro (AV.le_refl _) (trivial), rfl, ?_⟩
              refine bl_eq (okS_no fun h => ?_)
              obtain ⟨o1, o2, o3, o4⟩ := h
              first | omega | (have := str_nil.1 (by assumption); omega) | (have e := hb 0 (by omega); rw [Nat.add_zero] at e; omega) | (have e := hb 0 (by omega); have := hng1 (by assumption); rw [Nat.add_zero] at e; omega) | (have e := o4 (sgnAt a + pos) (by omega) (by omega); rw [← hb pos (by omega)] at e; have e2 := utf8_lo (a := b) (pos := pos) (by omega) (by omega); simp only [e2] at *; omega)
            · refine awp_skip ?_
              refine hK5 _ ?_
              refine awp_seq fun K11 hK11 => ?_
              refine awp_seq fun K12 hK12 => ?_
              refine awp_region rfl ?_
              refine o_move (AV.lit (.string (b))) Gd.none rfl ?_
              refine o_iterNew 201 Gd.none Wh_tT9 rfl rfl ?_
              refine aops_end ?_
              refine hK12 _ ?_
              refine awp_block ?_
              refine awp_loopR (fun κ σ => ∃ (pos : Nat), (pos ≤ b.size) ∧ (∀ k, k < pos → 48 ≤ byt b k ∧ byt b k ≤ 57) ∧ (b.size - pos) = κ ∧ σ = ⟨[(40, (AV.ref 201 (0)))], [(201, (AO.blk (.stringIter (b) (pos))))]⟩) ⟨_, _, ⟨0, (by omega), (fun k hk => by omega), rfl, rfl⟩, ?wk2⟩ ?rd2
              case wk2 =>
                exact Wk.sub (And.intro (by exact rfl) (trivial)) (And.intro (by first | rfl | exact row_ns (by simp) | exact congrArg (fun x => some (AO.blk (.stringIter _ x))) (by omega)) (trivial))
              rintro κ _ ⟨pos, hp, hv, rfl, rfl⟩
              refine awp_seq fun K13 hK13 => ?_
              refine awp_region rfl ?_
              refine aops_em (pos < (b).size) (fun h9 => ?_) (fun h9 => ?_)
              · refine o_iterNext (((Utf8.decode (b) (pos)).1 : Int)) (pos + (Utf8.decode (b) (pos)).2) [(201, (AO.blk (.stringIter (b) (pos + (Utf8.decode (b) (pos)).2))))] Gd.none rfl rfl h9 rfl rfl rfl ?_
                refine o_extract (AV.lit (.bool true)) Gd.none rfl rfl ?_
                refine aops_end ?_
                refine hK13 _ ?_
                refine awp_seq fun K14 hK14 => ?_
                refine awp_condB (b := true) rfl (fun _ => ?_) (fun hh => absurd (hh.symm.trans rfl) (by decide))
                refine awp_skip ?_
                refine hK14 _ ?_
                refine awp_block ?_
                refine awp_seq fun K15 hK15 => ?_
                refine awp_region rfl ?_
                refine o_extract (AV.lit (.int .i32 (((Utf8.decode (b) (pos)).1 : Int)))) Gd.none rfl rfl ?_
                refine o_assign (AV.lit (.int .i32 (((Utf8.decode (b) (pos)).1 : Int)))) Gd.none rfl ?_
                refine aops_end ?_
                refine hK15 _ ?_
                refine awp_seq fun K16 hK16 => ?_
                refine awp_region rfl ?_
                refine o_move (AV.lit (.int .i32 (((Utf8.decode (b) (pos)).1 : Int)))) Gd.none rfl ?_
                refine o_lss (a := (((Utf8.decode (b) (pos)).1 : Int))) (c := (((48 : Nat) : Int))) Gd.none rfl rfl ?_
                refine o_move (bp ((((Utf8.decode (b) (pos)).1 : Int)) < (((48 : Nat) : Int)))) Gd.none rfl ?_
                refine o_splitP (q := (((Utf8.decode (b) (pos)).1 : Int)) < (((48 : Nat) : Int))) 46 rfl (fun h10 => ?_) (fun h10 => ?_)
                · refine o_skip (b := decide ((((Utf8.decode (b) (pos)).1 : Int)) < (((48 : Nat) : Int)))) rfl rfl (decide_eq_true h10) ?_
                  refine o_skip (b := decide ((((Utf8.decode (b) (pos)).1 : Int)) < (((48 : Nat) : Int)))) rfl rfl (decide_eq_true h10) ?_
                  refine o_pickT (b := decide ((((Utf8.decode (b) (pos)).1 : Int)) < (((48 : Nat) : Int)))) (AV.lit (.bool true)) Gd.none rfl (decide_eq_true h10) rfl ?_
                  refine aops_end ?_
                  refine hK16 _ ?_
                  refine awp_condB (b := true) rfl (fun _ => ?_) (fun hh => absurd (hh.symm.trans rfl) (by decide))
                  refine awp_seq fun K17 hK17 => ?_
                  refine awp_region rfl ?_
                  refine o_assign (AV.lit (.bool false)) Gd.none rfl ?_
                  refine aops_end ?_
                  refine hK17 _ ?_
                  refine awp_ret ?_
                  refine post_ret ⟨[(AV.lit (.bool false))], And.intro (AV.le_refl _) (trivial), rfl, ?_⟩
                  refine bl_eq (okS_no fun h => ?_)
                  obtain ⟨o1, o2, o3, o4⟩ := h
                  first | omega | (have := str_nil.1 (by assumption); omega) | (have e := hb 0 (by omega); rw [Nat.add_zero] at e; omega) | (have e := hb 0 (by omega); have := hng1 (by assumption); rw [Nat.add_zero] at e; omega) | (have e := o4 (sgnAt a + pos) (by omega) (by omega); rw [← hb pos (by omega)] at e; have e2 := utf8_lo (a := b) (pos := pos) (by omega) (by omega); simp only [e2] at *; omega)
                · refine o_move (AV.lit (.int .i32 (((Utf8.decode (b) (pos)).1 : Int)))) (Gd.yes rfl rfl (decide_eq_false h10)) rfl ?_
                  refine o_gtr (a := (((Utf8.decode (b) (pos)).1 : Int))) (c := (((57 : Nat) : Int))) (Gd.yes rfl rfl (decide_eq_false h10)) rfl rfl ?_
                  refine o_pickF (b := decide ((((Utf8.decode (b) (pos)).1 : Int)) < (((48 : Nat) : Int)))) (bp ((((57 : Nat) : Int)) < (((Utf8.decode (b) (pos)).1 : Int)))) Gd.none rfl (decide_eq_false h10) rfl ?_
                  refine aops_end ?_
                  refine hK16 _ ?_
                  refine awp_condQ (q := (((57 : Nat) : Int)) < (((Utf8.decode (b) (pos)).1 : Int))) rfl (fun h11 => ?_) (fun h11 => ?_)
                  · refine awp_seq fun K18 hK18 => ?_
                    refine awp_region rfl ?_
                    refine o_assign (AV.lit (.bool false)) Gd.none rfl ?_
                    refine aops_end ?_
                    refine hK18 _ ?_
                    refine awp_ret ?_
                    refine post_ret ⟨[(AV.lit (.bool false))], And.intro (AV.le_refl _) (trivial), rfl, ?_⟩
                    refine bl_eq (okS_no fun h => ?_)
                    obtain ⟨o1, o2, o3, o4⟩ := h
                    first | omega | (have := str_nil.1 (by assumption); omega) | (have e := hb 0 (by omega); rw [Nat.add_zero] at e; omega) | (have e := hb 0 (by omega); have := hng1 (by assumption); rw [Nat.add_zero] at e; omega) | (have e := o4 (sgnAt a + pos) (by omega) (by omega); rw [← hb pos (by omega)] at e; have e2 := utf8_lo (a := b) (pos := pos) (by omega) (by omega); simp only [e2] at *; omega)
                  · refine awp_skip ?_
                    have hu := utf8_dig (a := b) (pos := pos) (by assumption) (by omega)
                    simp only [hu] at *
                    refine ⟨_, _, ?lt, ⟨pos + 1, (by omega), (fun k hk => by by_cases e : k = pos; subst e; omega; exact hv k (by omega)), rfl, rfl⟩, ?wk⟩
                    case lt => omega
                    case wk => exact Wk.sub (And.intro (by exact rfl) (trivial)) (And.intro (by first | rfl | exact row_ns (by simp) | exact congrArg (fun x => some (AO.blk (.stringIter _ x))) (by omega)) (trivial))
              · refine o_iterEnd Gd.none rfl rfl h9 ?_
                refine o_extract (AV.lit (.bool false)) Gd.none rfl rfl ?_
                refine aops_end ?_
                refine hK13 _ ?_
                refine awp_seq fun K19 hK19 => ?_
                refine awp_condB (b := false) rfl (fun hh => absurd (hh.symm.trans rfl) (by decide)) (fun _ => ?_)
                refine awp_exit ?_
                refine hK11 _ ?_
                refine awp_seq fun K20 hK20 => ?_
                refine awp_region rfl ?_
                refine o_assign (AV.lit (.bool true)) Gd.none rfl ?_
                refine aops_end ?_
                refine hK20 _ ?_
                refine awp_ret ?_
                refine post_ret ⟨[(AV.lit (.bool true))], And.intro (AV.le_refl _) (trivial), rfl, ?_⟩
                have e0 := hb 0 (by omega)
                rw [Nat.add_zero] at e0
                refine bl_eq (okS_yes ⟨by omega, by omega, fun hh => ?_, fun i hi1 hi2 => ?_⟩)
                · first | omega | (have := hng0 (by assumption); omega)
                · have := hv (i - sgnAt a) (by omega)
                  rw [hb _ (by omega), show sgnAt a + (i - sgnAt a) = i by omega] at this
                  exact this
        · refine o_skip (b := decide ((byt (b) (0)) = (48))) rfl rfl (decide_eq_false h6) ?_
          refine o_skip (b := decide ((byt (b) (0)) = (48))) rfl rfl (decide_eq_false h6) ?_
          refine o_skip (b := decide ((byt (b) (0)) = (48))) rfl rfl (decide_eq_false h6) ?_
          refine o_skip (b := decide ((byt (b) (0)) = (48))) rfl rfl (decide_eq_false h6) ?_
          refine o_skipU rfl rfl ?_
          refine o_skip (b := decide ((byt (b) (0)) = (48))) rfl rfl (decide_eq_false h6) ?_
          refine o_pickF (b := decide ((byt (b) (0)) = (48))) (AV.lit (.bool false)) (Gd.yes rfl rfl (decide_eq_false h5)) rfl (decide_eq_false h6) rfl ?_
          refine o_pickF (b := decide ((2000) < ((b).size))) (AV.lit (.bool false)) Gd.none rfl (decide_eq_false h5) rfl ?_
          refine aops_end ?_
          refine hK6 _ ?_
          refine awp_condB (b := false) rfl (fun hh => absurd (hh.symm.trans rfl) (by decide)) (fun _ => ?_)
          refine awp_skip ?_
          refine hK5 _ ?_
          refine awp_seq fun K21 hK21 => ?_
          refine awp_seq fun K22 hK22 => ?_
          refine awp_region rfl ?_
          refine o_move (AV.lit (.string (b))) Gd.none rfl ?_
          refine o_iterNew 201 Gd.none Wh_tT9 rfl rfl ?_
          refine aops_end ?_
          refine hK22 _ ?_
          refine awp_block ?_
          refine awp_loopR (fun κ σ => ∃ (pos : Nat), (pos ≤ b.size) ∧ (∀ k, k < pos → 48 ≤ byt b k ∧ byt b k ≤ 57) ∧ (b.size - pos) = κ ∧ σ = ⟨[(40, (AV.ref 201 (0)))], [(201, (AO.blk (.stringIter (b) (pos))))]⟩) ⟨_, _, ⟨0, (by omega), (fun k hk => by omega), rfl, rfl⟩, ?wk3⟩ ?rd3
          case wk3 =>
            exact Wk.sub (And.intro (by exact rfl) (trivial)) (And.intro (by first | rfl | exact row_ns (by simp) | exact congrArg (fun x => some (AO.blk (.stringIter _ x))) (by omega)) (trivial))
          rintro κ _ ⟨pos, hp, hv, rfl, rfl⟩
          refine awp_seq fun K23 hK23 => ?_
          refine awp_region rfl ?_
          refine aops_em (pos < (b).size) (fun h12 => ?_) (fun h12 => ?_)
          · refine o_iterNext (((Utf8.decode (b) (pos)).1 : Int)) (pos + (Utf8.decode (b) (pos)).2) [(201, (AO.blk (.stringIter (b) (pos + (Utf8.decode (b) (pos)).2))))] Gd.none rfl rfl h12 rfl rfl rfl ?_
            refine o_extract (AV.lit (.bool true)) Gd.none rfl rfl ?_
            refine aops_end ?_
            refine hK23 _ ?_
            refine awp_seq fun K24 hK24 => ?_
            refine awp_condB (b := true) rfl (fun _ => ?_) (fun hh => absurd (hh.symm.trans rfl) (by decide))
            refine awp_skip ?_
            refine hK24 _ ?_
            refine awp_block ?_
            refine awp_seq fun K25 hK25 => ?_
            refine awp_region rfl ?_
            refine o_extract (AV.lit (.int .i32 (((Utf8.decode (b) (pos)).1 : Int)))) Gd.none rfl rfl ?_
            refine o_assign (AV.lit (.int .i32 (((Utf8.decode (b) (pos)).1 : Int)))) Gd.none rfl ?_
            refine aops_end ?_
            refine hK25 _ ?_
            refine awp_seq fun K26 hK26 => ?_
            refine awp_region rfl ?_
            refine o_move (AV.lit (.int .i32 (((Utf8.decode (b) (pos)).1 : Int)))) Gd.none rfl ?_
            refine o_lss (a := (((Utf8.decode (b) (pos)).1 : Int))) (c := (((48 : Nat) : Int))) Gd.none rfl rfl ?_
            refine o_move (bp ((((Utf8.decode (b) (pos)).1 : Int)) < (((48 : Nat) : Int)))) Gd.none rfl ?_
            refine o_splitP (q := (((Utf8.decode (b) (pos)).1 : Int)) < (((48 : Nat) : Int))) 46 rfl (fun h13 => ?_) (fun h13 => ?_)
            · refine o_skip (b := decide ((((Utf8.decode (b) (pos)).1 : Int)) < (((48 : Nat) : Int)))) rfl rfl (decide_eq_true h13) ?_
              refine o_skip (b := decide ((((Utf8.decode (b) (pos)).1 : Int)) < (((48 : Nat) : Int)))) rfl rfl (decide_eq_true h13) ?_
              refine o_pickT (b := decide ((((Utf8.decode (b) (pos)).1 : Int)) < (((48 : Nat) : Int)))) (AV.lit (.bool true)) Gd.none rfl (decide_eq_true h13) rfl ?_
              refine aops_end ?_
              refine hK26 _ ?_
              refine awp_condB (b := true) rfl (fun _ => ?_) (fun hh => absurd (hh.symm.trans rfl) (by decide))
              refine awp_seq fun K27 hK27 => ?_
              refine awp_region rfl ?_
              refine o_assign (AV.lit (.bool false)) Gd.none rfl ?_
              refine aops_end ?_
              refine hK27 _ ?_
              refine awp_ret ?_
              refine post_ret ⟨[(AV.lit (.bool false))], And.intro (AV.le_refl _) (trivial), rfl, ?_⟩
              refine bl_eq (okS_no fun h => ?_)
              obtain ⟨o1, o2, o3, o4⟩ := h
              first | omega | (have := str_nil.1 (by assumption); omega) | (have e := hb 0 (by omega); rw [Nat.add_zero] at e; omega) | (have e := hb 0 (by omega); have := hng1 (by assumption); rw [Nat.add_zero] at e; omega) | (have e := o4 (sgnAt a + pos) (by omega) (by omega); rw [← hb pos (by omega)] at e; have e2 := utf8_lo (a := b) (pos := pos) (by omega) (by omega); simp only [e2] at *; omega)
            · refine o_move (AV.lit (.int .i32 (((Utf8.decode (b) (pos)).1 : Int)))) (Gd.yes rfl rfl (decide_eq_false h13)) rfl ?_
              refine o_gtr (a := (((Utf8.decode (b) (pos)).1 : Int))) (c := (((57 : Nat) : Int))) (Gd.yes rfl rfl (decide_eq_false h13)) rfl rfl ?_
              refine o_pickF (b := decide ((((Utf8.decode (b) (pos)).1 : Int)) < (((48 : Nat) : Int)))) (bp ((((57 : Nat) : Int)) < (((Utf8.decode (b) (pos)).1 : Int)))) Gd.none rfl (decide_eq_false h13) rfl ?_
              refine aops_end ?_
              refine hK26 _ ?_
              refine awp_condQ (q := (((57 : Nat) : Int)) < (((Utf8.decode (b) (pos)).1 : Int))) rfl (fun h14 => ?_) (fun h14 => ?_)
              · refine awp_seq fun K28 hK28 => ?_
                refine awp_region rfl ?_
                refine o_assign (AV.lit (.bool false)) Gd.none rfl ?_
                refine aops_end ?_
                refine hK28 _ ?_
                refine awp_ret ?_
                refine post_ret ⟨[(AV.lit (.bool false))], And.intro (AV.le_refl _) (trivial), rfl, ?_⟩
                refine bl_eq (okS_no fun h => ?_)
                obtain ⟨o1, o2, o3, o4⟩ := h
                first | omega | (have := str_nil.1 (by assumption); omega) | (have e := hb 0 (by omega); rw [Nat.add_zero] at e; omega) | (have e := hb 0 (by omega); have := hng1 (by assumption); rw [Nat.add_zero] at e; omega) | (have e := o4 (sgnAt a + pos) (by omega) (by omega); rw [← hb pos (by omega)] at e; have e2 := utf8_lo (a := b) (pos := pos) (by omega) (by omega); simp only [e2] at *; omega)
              · refine awp_skip ?_
                have hu := utf8_dig (a := b) (pos := pos) (by assumption) (by omega)
                simp only [hu] at *
                refine ⟨_, _, ?lt, ⟨pos + 1, (by omega), (fun k hk => by by_cases e : k = pos; subst e; omega; exact hv k (by omega)), rfl, rfl⟩, ?wk⟩
                case lt => omega
                case wk => exact Wk.sub (And.intro (by exact rfl) (trivial)) (And.intro (by first | rfl | exact row_ns (by simp) | exact congrArg (fun x => some (AO.blk (.stringIter _ x))) (by omega)) (trivial))
          · refine o_iterEnd Gd.none rfl rfl h12 ?_
            refine o_extract (AV.lit (.bool false)) Gd.none rfl rfl ?_
            refine aops_end ?_
            refine hK23 _ ?_
            refine awp_seq fun K29 hK29 => ?_
            refine awp_condB (b := false) rfl (fun hh => absurd (hh.symm.trans rfl) (by decide)) (fun _ => ?_)
            refine awp_exit ?_
            refine hK21 _ ?_
            refine awp_seq fun K30 hK30 => ?_
            refine awp_region rfl ?_
            refine o_assign (AV.lit (.bool true)) Gd.none rfl ?_
            refine aops_end ?_
            refine hK30 _ ?_
            refine awp_ret ?_
            refine post_ret ⟨[(AV.lit (.bool true))], And.intro (AV.le_refl _) (trivial), rfl, ?_⟩
            have e0 := hb 0 (by omega)
            rw [Nat.add_zero] at e0
            refine bl_eq (okS_yes ⟨by omega, by omega, fun hh => ?_, fun i hi1 hi2 => ?_⟩)
            · first | omega | (have := hng0 (by assumption); omega)
            · have := hv (i - sgnAt a) (by omega)
              rw [hb _ (by omega), show sgnAt a + (i - sgnAt a) = i by omega] at this
              exact this

end Go.Proofs.YtbilndahjkimkaaDoor

set_option linter.unusedVariables false
set_option linter.unusedSimpArgs false
namespace Go.Proofs.YtbilndahjkimkaaDoor
open Go Go.Ab Go.Mth
theorem Wf_tF24_0 : tyField cx.P 24 0 = some (0, 3) := by kernel_rfl
theorem Wf_tS3 : tySc cx.P 3 = true := by kernel_rfl
theorem Wf_tF24_1 : tyField cx.P 24 1 = some (1, 22) := by kernel_rfl
theorem Wf_tS22 : tySc cx.P 22 = true := by kernel_rfl
theorem Wf_tU22 : cx.P.underlying 22 = some (.slice 3) := by kernel_rfl
theorem Wf_tF24_2 : tyField cx.P 24 2 = some (2, 22) := by kernel_rfl
theorem Wf_tE22 : tyElem cx.P 22 = some (3, 1, 8) := by kernel_rfl
theorem c_gValid (m : MapM) : ECalls cx 14 [(mapV m)] (.lit (.bool (okM m))) := by
  refine ecalls_of_awp Tryd.func14 (c := _) rfl (Nat.le_of_ble_eq_true rfl) ?_
  show awp cx 83 _ (postF cx Tryd.f14 _) ⟨[(0, (mapV m))], []⟩
  refine awp_seq fun K0 hK0 => ?_
  refine awp_region rfl ?_
  refine o_box 2 [(AV.lit (.int .i64 (m.mod))), (AV.sl 1 (is .i64 (m.mul))), (AV.sl 1 (is .i64 (m.add)))] Gd.none rfl rfl ?_
  refine o_assign (AV.lit (.bool false)) Gd.none rfl ?_
  refine aops_end ?_
  refine hK0 _ ?_
  refine awp_seq fun K1 hK1 => ?_
  refine awp_seq fun K2 hK2 => ?_
  refine awp_region rfl ?_
  refine o_fieldRef 0 Gd.none Wf_tF24_0 rfl rfl ?_
  refine o_loadS (AV.lit (.int .i64 (m.mod))) Gd.none Wf_tS3 rfl rfl rfl ?_
  refine o_lss (a := (m.mod)) (c := (((2 : Nat) : Int))) Gd.none rfl rfl ?_
  refine o_move (bp ((m.mod) < (((2 : Nat) : Int)))) Gd.none rfl ?_
  refine o_splitP (q := (m.mod) < (((2 : Nat) : Int))) 7 rfl (fun h1 => ?_) (fun h1 => ?_)
  · refine o_skip (b := decide ((m.mod) < (((2 : Nat) : Int)))) rfl rfl (decide_eq_true h1) ?_
    refine o_skip (b := decide ((m.mod) < (((2 : Nat) : Int)))) rfl rfl (decide_eq_true h1) ?_
    refine o_skip (b := decide ((m.mod) < (((2 : Nat) : Int)))) rfl rfl (decide_eq_true h1) ?_
    refine o_pickT (b := decide ((m.mod) < (((2 : Nat) : Int)))) (AV.lit (.bool true)) Gd.none rfl (decide_eq_true h1) rfl ?_
    refine o_move (AV.lit (.bool true)) Gd.none rfl ?_
    refine o_skip (b := true) rfl rfl rfl ?_
    refine o_skip (b := true) rfl rfl rfl ?_
    refine o_skip (b := true) rfl rfl rfl ?_
    refine o_skip (b := true) rfl rfl rfl ?_
    refine o_skip (b := true) rfl rfl rfl ?_
    refine o_skip (b := true) rfl rfl rfl ?_
    refine o_pickT (b := true) (AV.lit (.bool true)) Gd.none rfl rfl rfl ?_
    refine o_move (AV.lit (.bool true)) Gd.none rfl ?_
    refine o_skip (b := true) rfl rfl rfl ?_
    refine o_skip (b := true) rfl rfl rfl ?_
    refine o_skip (b := true) rfl rfl rfl ?_
    refine o_skip (b := true) rfl rfl rfl ?_
    refine o_skip (b := true) rfl rfl rfl ?_
    refine o_skip (b := true) rfl rfl rfl ?_
    refine o_pickT (b := true) (AV.lit (.bool true)) Gd.none rfl rfl rfl ?_
    refine aops_end ?_
    refine hK2 _ ?_
    refine awp_condB (b := true) rfl (fun _ => ?_) (fun hh => absurd (hh.symm.trans rfl) (by decide))
    refine awp_seq fun K3 hK3 => ?_
    refine awp_region rfl ?_
    refine o_assign (AV.lit (.bool false)) Gd.none rfl ?_
    refine aops_end ?_
    refine hK3 _ ?_
    refine awp_ret ?_
    refine post_ret ⟨[(AV.lit (.bool false))], And.intro (AV.le_refl _) (trivial), rfl, ?_⟩
    refine bl_eq (okM_no fun h => ?_)
    obtain ⟨o1, o2, o3, o4, o5⟩ := h
    first | omega | (have := o5 r (by omega); omega)
  · refine o_fieldRef 0 (Gd.yes rfl rfl (decide_eq_false h1)) Wf_tF24_0 rfl rfl ?_
    refine o_loadS (AV.lit (.int .i64 (m.mod))) (Gd.yes rfl rfl (decide_eq_false h1)) Wf_tS3 rfl rfl rfl ?_
    refine o_gtr (a := (m.mod)) (c := (((12 : Nat) : Int))) (Gd.yes rfl rfl (decide_eq_false h1)) rfl rfl ?_
    refine o_pickF (b := decide ((m.mod) < (((2 : Nat) : Int)))) (bp ((((12 : Nat) : Int)) < (m.mod))) Gd.none rfl (decide_eq_false h1) rfl ?_
    refine o_move (bp ((((12 : Nat) : Int)) < (m.mod))) Gd.none rfl ?_
    refine o_splitP (q := (((12 : Nat) : Int)) < (m.mod)) 12 rfl (fun h2 => ?_) (fun h2 => ?_)
    · refine o_skip (b := decide ((((12 : Nat) : Int)) < (m.mod))) rfl rfl (decide_eq_true h2) ?_
      refine o_skip (b := decide ((((12 : Nat) : Int)) < (m.mod))) rfl rfl (decide_eq_true h2) ?_
      refine o_skip (b := decide ((((12 : Nat) : Int)) < (m.mod))) rfl rfl (decide_eq_true h2) ?_
      refine o_skip (b := decide ((((12 : Nat) : Int)) < (m.mod))) rfl rfl (decide_eq_true h2) ?_
      refine o_skip (b := decide ((((12 : Nat) : Int)) < (m.mod))) rfl rfl (decide_eq_true h2) ?_
      refine o_skip (b := decide ((((12 : Nat) : Int)) < (m.mod))) rfl rfl (decide_eq_true h2) ?_
      refine o_pickT (b := decide ((((12 : Nat) : Int)) < (m.mod))) (AV.lit (.bool true)) Gd.none rfl (decide_eq_true h2) rfl ?_
      refine o_move (AV.lit (.bool true)) Gd.none rfl ?_
      refine o_skip (b := true) rfl rfl rfl ?_
      refine o_skip (b := true) rfl rfl rfl ?_
      refine o_skip (b := true) rfl rfl rfl ?_
      refine o_skip (b := true) rfl rfl rfl ?_
      refine o_skip (b := true) rfl rfl rfl ?_
      refine o_skip (b := true) rfl rfl rfl ?_
      refine o_pickT (b := true) (AV.lit (.bool true)) Gd.none rfl rfl rfl ?_
      refine aops_end ?_
      refine hK2 _ ?_
      refine awp_condB (b := true) rfl (fun _ => ?_) (fun hh => absurd (hh.symm.trans rfl) (by decide))
      refine awp_seq fun K4 hK4 => ?_
      refine awp_region rfl ?_
      refine o_assign (AV.lit (.bool false)) Gd.none rfl ?_
      refine aops_end ?_
      refine hK4 _ ?_
      refine awp_ret ?_
      refine post_ret ⟨[(AV.lit (.bool false))], And.intro (AV.le_refl _) (trivial), rfl, ?_⟩
      refine bl_eq (okM_no fun h => ?_)
      obtain ⟨o1, o2, o3, o4, o5⟩ := h
      first | omega | (have := o5 r (by omega); omega)
    · refine o_fieldRef 1 (Gd.yes rfl rfl (decide_eq_false h2)) Wf_tF24_1 rfl rfl ?_
      refine o_loadS (AV.sl 1 (is .i64 (m.mul))) (Gd.yes rfl rfl (decide_eq_false h2)) Wf_tS22 rfl rfl rfl ?_
      refine i_len (m.mul) (Gd.yes rfl rfl (decide_eq_false h2)) Wf_tU22 rfl ?_
      refine o_fieldRef 0 (Gd.yes rfl rfl (decide_eq_false h2)) Wf_tF24_0 rfl rfl ?_
      refine o_loadS (AV.lit (.int .i64 (m.mod))) (Gd.yes rfl rfl (decide_eq_false h2)) Wf_tS3 rfl rfl rfl ?_
      refine o_neq (a := ((((m.mul).length : Nat) : Int))) (c := (m.mod)) (Gd.yes rfl rfl (decide_eq_false h2)) rfl rfl ?_
      refine o_pickF (b := decide ((((12 : Nat) : Int)) < (m.mod))) (bp (((((m.mul).length : Nat) : Int)) ≠ (m.mod))) Gd.none rfl (decide_eq_false h2) rfl ?_
      refine o_move (bp (((((m.mul).length : Nat) : Int)) ≠ (m.mod))) Gd.none rfl ?_
      refine o_splitP (q := ((((m.mul).length : Nat) : Int)) ≠ (m.mod)) 20 rfl (fun h3 => ?_) (fun h3 => ?_)
      · refine o_skip (b := decide (((((m.mul).length : Nat) : Int)) ≠ (m.mod))) rfl rfl (decide_eq_true h3) ?_
        refine o_skip (b := decide (((((m.mul).length : Nat) : Int)) ≠ (m.mod))) rfl rfl (decide_eq_true h3) ?_
        refine o_skip (b := decide (((((m.mul).length : Nat) : Int)) ≠ (m.mod))) rfl rfl (decide_eq_true h3) ?_
        refine o_skip (b := decide (((((m.mul).length : Nat) : Int)) ≠ (m.mod))) rfl rfl (decide_eq_true h3) ?_
        refine o_skip (b := decide (((((m.mul).length : Nat) : Int)) ≠ (m.mod))) rfl rfl (decide_eq_true h3) ?_
        refine o_skip (b := decide (((((m.mul).length : Nat) : Int)) ≠ (m.mod))) rfl rfl (decide_eq_true h3) ?_
        refine o_pickT (b := decide (((((m.mul).length : Nat) : Int)) ≠ (m.mod))) (AV.lit (.bool true)) Gd.none rfl (decide_eq_true h3) rfl ?_
        refine aops_end ?_
        refine hK2 _ ?_
        refine awp_condB (b := true) rfl (fun _ => ?_) (fun hh => absurd (hh.symm.trans rfl) (by decide))
        refine awp_seq fun K5 hK5 => ?_
        refine awp_region rfl ?_
        refine o_assign (AV.lit (.bool false)) Gd.none rfl ?_
        refine aops_end ?_
        refine hK5 _ ?_
        refine awp_ret ?_
        refine post_ret ⟨[(AV.lit (.bool false))], And.intro (AV.le_refl _) (trivial), rfl, ?_⟩
        refine bl_eq (okM_no fun h => ?_)
        obtain ⟨o1, o2, o3, o4, o5⟩ := h
        first | omega | (have := o5 r (by omega); omega)
      · refine o_fieldRef 2 (Gd.yes rfl rfl (decide_eq_false h3)) Wf_tF24_2 rfl rfl ?_
        refine o_loadS (AV.sl 1 (is .i64 (m.add))) (Gd.yes rfl rfl (decide_eq_false h3)) Wf_tS22 rfl rfl rfl ?_
        refine i_len (m.add) (Gd.yes rfl rfl (decide_eq_false h3)) Wf_tU22 rfl ?_
        refine o_fieldRef 0 (Gd.yes rfl rfl (decide_eq_false h3)) Wf_tF24_0 rfl rfl ?_
        refine o_loadS (AV.lit (.int .i64 (m.mod))) (Gd.yes rfl rfl (decide_eq_false h3)) Wf_tS3 rfl rfl rfl ?_
        refine o_neq (a := ((((m.add).length : Nat) : Int))) (c := (m.mod)) (Gd.yes rfl rfl (decide_eq_false h3)) rfl rfl ?_
        refine o_pickF (b := decide (((((m.mul).length : Nat) : Int)) ≠ (m.mod))) (bp (((((m.add).length : Nat) : Int)) ≠ (m.mod))) Gd.none rfl (decide_eq_false h3) rfl ?_
        refine aops_end ?_
        refine hK2 _ ?_
        refine awp_condQ (q := ((((m.add).length : Nat) : Int)) ≠ (m.mod)) rfl (fun h4 => ?_) (fun h4 => ?_)
        · refine awp_seq fun K6 hK6 => ?_
          refine awp_region rfl ?_
          refine o_assign (AV.lit (.bool false)) Gd.none rfl ?_
          refine aops_end ?_
          refine hK6 _ ?_
          refine awp_ret ?_
          refine post_ret ⟨[(AV.lit (.bool false))], And.intro (AV.le_refl _) (trivial), rfl, ?_⟩
          refine bl_eq (okM_no fun h => ?_)
          obtain ⟨o1, o2, o3, o4, o5⟩ := h
          first | omega | (have := o5 r (by omega); omega)
        · refine awp_skip ?_
          refine hK1 _ ?_
          refine awp_seq fun K7 hK7 => ?_
          refine awp_seq fun K8 hK8 => ?_
          refine awp_region rfl ?_
          refine o_assign (nm .i64 (0)) Gd.none rfl ?_
          refine aops_end ?_
          refine hK8 _ ?_
          refine awp_block ?_
          refine awp_loopR (fun κ σ => ∃ (r : Nat), ((r : Int) ≤ m.mod) ∧ (∀ i : Nat, i < r → 1 ≤ m.mul.getD i 0 ∧ m.mul.getD i 0 ≤ 999 ∧ -999999 ≤ m.add.getD i 0 ∧ m.add.getD i 0 ≤ 999999 ∧ Int.tmod (m.mul.getD i 0 * i + m.add.getD i 0) m.mod = 0) ∧ (m.mod.toNat - r) = κ ∧ σ = ⟨[(1, (AV.ref 2 (0))), (3, (nm .i64 (r)))], [(2, (AO.var 24 [(AV.lit (.int .i64 (m.mod))), (AV.sl 1 (is .i64 (m.mul))), (AV.sl 1 (is .i64 (m.add)))]))]⟩) ⟨_, _, ⟨0, (by omega), (fun i hi => by omega), rfl, rfl⟩, ?wk0⟩ ?rd0
          case wk0 =>
            exact Wk.sub (And.intro (by exact rfl) (And.intro (by first | rfl | exact congrArg (nm _) (by omega) | exact nm_int (by omega) | exact nm_int (by simp [IntKind.wrap, IntKind.bits, IntKind.signed]; omega)) (trivial))) (And.intro (by first | rfl | exact row_ns (by simp) | exact congrArg (fun x => some (AO.blk (.stringIter _ x))) (by omega)) (trivial))
          rintro κ _ ⟨r, hr, hv, rfl, rfl⟩
          refine awp_seq fun K9 hK9 => ?_
          refine awp_seq fun K10 hK10 => ?_
          refine awp_region rfl ?_
          refine o_move (nm .i64 (r)) Gd.none rfl ?_
          refine o_fieldRef 0 Gd.none Wf_tF24_0 rfl rfl ?_
          refine o_loadS (AV.lit (.int .i64 (m.mod))) Gd.none Wf_tS3 rfl rfl rfl ?_
          refine o_lss (a := (((r : Nat) : Int))) (c := (m.mod)) Gd.none rfl rfl ?_
          refine aops_end ?_
          refine hK10 _ ?_
          refine awp_condQ (q := (((r : Nat) : Int)) < (m.mod)) rfl (fun h5 => ?_) (fun h5 => ?_)
          · refine awp_skip ?_
            refine hK9 _ ?_
            refine awp_seq fun K11 hK11 => ?_
            refine awp_block ?_
            refine awp_seq fun K12 hK12 => ?_
            refine awp_regionD rfl ?_
            refine o_fieldRef 1 Gd.none Wf_tF24_1 rfl rfl ?_
            refine o_loadS (AV.sl 1 (is .i64 (m.mul))) Gd.none Wf_tS22 rfl rfl rfl ?_
            refine o_move (nm .i64 (r)) Gd.none rfl ?_
            refine i_index (m.mul) (r) Gd.none Wf_tE22 rfl rfl (by omega) ?_
            refine i_loadI (m.mul) (r) Gd.none Wf_tS3 rfl (by omega) ?_
            refine o_lss (a := ((m.mul).getD (r) 0)) (c := (((1 : Nat) : Int))) Gd.none rfl rfl ?_
            refine o_move (bp (((m.mul).getD (r) 0) < (((1 : Nat) : Int)))) Gd.none rfl ?_
            refine o_splitP (q := ((m.mul).getD (r) 0) < (((1 : Nat) : Int))) 40 rfl (fun h6 => ?_) (fun h6 => ?_)
            · refine o_skip (b := decide (((m.mul).getD (r) 0) < (((1 : Nat) : Int)))) rfl rfl (decide_eq_true h6) ?_
              refine o_skip (b := decide (((m.mul).getD (r) 0) < (((1 : Nat) : Int)))) rfl rfl (decide_eq_true h6) ?_
              refine o_skip (b := decide (((m.mul).getD (r) 0) < (((1 : Nat) : Int)))) rfl rfl (decide_eq_true h6) ?_
              refine o_skip (b := decide (((m.mul).getD (r) 0) < (((1 : Nat) : Int)))) rfl rfl (decide_eq_true h6) ?_
              refine o_skip (b := decide (((m.mul).getD (r) 0) < (((1 : Nat) : Int)))) rfl rfl (decide_eq_true h6) ?_
              refine o_skip (b := decide (((m.mul).getD (r) 0) < (((1 : Nat) : Int)))) rfl rfl (decide_eq_true h6) ?_
              refine o_pickT (b := decide (((m.mul).getD (r) 0) < (((1 : Nat) : Int)))) (AV.lit (.bool true)) Gd.none rfl (decide_eq_true h6) rfl ?_
              refine o_move (AV.lit (.bool true)) Gd.none rfl ?_
              refine o_skip (b := true) rfl rfl rfl ?_
              refine o_skip (b := true) rfl rfl rfl ?_
              refine o_skip (b := true) rfl rfl rfl ?_
              refine o_skip (b := true) rfl rfl rfl ?_
              refine o_skip (b := true) rfl rfl rfl ?_
              refine o_skip (b := true) rfl rfl rfl ?_
              refine o_pickT (b := true) (AV.lit (.bool true)) Gd.none rfl rfl rfl ?_
              refine o_move (AV.lit (.bool true)) Gd.none rfl ?_
              refine o_skip (b := true) rfl rfl rfl ?_
              refine o_skip (b := true) rfl rfl rfl ?_
              refine o_skip (b := true) rfl rfl rfl ?_
              refine o_skip (b := true) rfl rfl rfl ?_
              refine o_skip (b := true) rfl rfl rfl ?_
              refine o_skip (b := true) rfl rfl rfl ?_
              refine o_pickT (b := true) (AV.lit (.bool true)) Gd.none rfl rfl rfl ?_
              refine o_move (AV.lit (.bool true)) Gd.none rfl ?_
              refine o_skip (b := true) rfl rfl rfl ?_
              refine o_skip (b := true) rfl rfl rfl ?_
              refine o_skip (b := true) rfl rfl rfl ?_
              refine o_skip (b := true) rfl rfl rfl ?_
              refine o_skip (b := true) rfl rfl rfl ?_
              refine o_skip (b := true) rfl rfl rfl ?_
              refine o_skip (b := true) rfl rfl rfl ?_
              refine o_skip (b := true) rfl rfl rfl ?_
              refine o_skip (b := true) rfl rfl rfl ?_
              refine o_skip (b := true) rfl rfl rfl ?_
              refine o_skip (b := true) rfl rfl rfl ?_
              refine o_skip (b := true) rfl rfl rfl ?_
              refine o_skip (b := true) rfl rfl rfl ?_
              refine o_skip (b := true) rfl rfl rfl ?_
              refine o_skip (b := true) rfl rfl rfl ?_
              refine o_skip (b := true) rfl rfl rfl ?_
              refine o_skip (b := true) rfl rfl rfl ?_
              refine o_pickT (b := true) (AV.lit (.bool true)) Gd.none rfl rfl rfl ?_
              refine aops_end ⟨by kernel_rfl, ?_⟩
              refine hK12 _ ?_
              refine awp_condB (b := true) rfl (fun _ => ?_) (fun hh => absurd (hh.symm.trans rfl) (by decide))
              refine awp_seq fun K13 hK13 => ?_
              refine awp_region rfl ?_
              refine o_assign (AV.lit (.bool false)) Gd.none rfl ?_
              refine aops_end ?_
              refine hK13 _ ?_
              refine awp_ret ?_
              refine post_ret ⟨[(AV.lit (.bool false))], And.intro (AV.le_refl _) (trivial), rfl, ?_⟩
              refine bl_eq (okM_no fun h => ?_)
              obtain ⟨o1, o2, o3, o4, o5⟩ := h
              first | omega | (have := o5 r (by omega); omega)
            · refine o_fieldRef 1 (Gd.yes rfl rfl (decide_eq_false h6)) Wf_tF24_1 rfl rfl ?_
              refine o_loadS (AV.sl 1 (is .i64 (m.mul))) (Gd.yes rfl rfl (decide_eq_false h6)) Wf_tS22 rfl rfl rfl ?_
              refine o_move (nm .i64 (r)) (Gd.yes rfl rfl (decide_eq_false h6)) rfl ?_
              refine i_index (m.mul) (r) (Gd.yes rfl rfl (decide_eq_false h6)) Wf_tE22 rfl rfl (by omega) ?_
              refine i_loadI (m.mul) (r) (Gd.yes rfl rfl (decide_eq_false h6)) Wf_tS3 rfl (by omega) ?_
              refine o_gtr (a := ((m.mul).getD (r) 0)) (c := (((999 : Nat) : Int))) (Gd.yes rfl rfl (decide_eq_false h6)) rfl rfl ?_
              refine o_pickF (b := decide (((m.mul).getD (r) 0) < (((1 : Nat) : Int)))) (bp ((((999 : Nat) : Int)) < ((m.mul).getD (r) 0))) Gd.none rfl (decide_eq_false h6) rfl ?_
              refine o_move (bp ((((999 : Nat) : Int)) < ((m.mul).getD (r) 0))) Gd.none rfl ?_
              refine o_splitP (q := (((999 : Nat) : Int)) < ((m.mul).getD (r) 0)) 48 rfl (fun h7 => ?_) (fun h7 => ?_)
              · refine o_skip (b := decide ((((999 : Nat) : Int)) < ((m.mul).getD (r) 0))) rfl rfl (decide_eq_true h7) ?_
                refine o_skip (b := decide ((((999 : Nat) : Int)) < ((m.mul).getD (r) 0))) rfl rfl (decide_eq_true h7) ?_
                refine o_skip (b := decide ((((999 : Nat) : Int)) < ((m.mul).getD (r) 0))) rfl rfl (decide_eq_true h7) ?_
                refine o_skip (b := decide ((((999 : Nat) : Int)) < ((m.mul).getD (r) 0))) rfl rfl (decide_eq_true h7) ?_
                refine o_skip (b := decide ((((999 : Nat) : Int)) < ((m.mul).getD (r) 0))) rfl rfl (decide_eq_true h7) ?_
                refine o_skip (b := decide ((((999 : Nat) : Int)) < ((m.mul).getD (r) 0))) rfl rfl (decide_eq_true h7) ?_
                refine o_pickT (b := decide ((((999 : Nat) : Int)) < ((m.mul).getD (r) 0))) (AV.lit (.bool true)) Gd.none rfl (decide_eq_true h7) rfl ?_
                refine o_move (AV.lit (.bool true)) Gd.none rfl ?_
                refine o_skip (b := true) rfl rfl rfl ?_
                refine o_skip (b := true) rfl rfl rfl ?_
                refine o_skip (b := true) rfl rfl rfl ?_
                refine o_skip (b := true) rfl rfl rfl ?_
                refine o_skip (b := true) rfl rfl rfl ?_
                refine o_skip (b := true) rfl rfl rfl ?_
                refine o_pickT (b := true) (AV.lit (.bool true)) Gd.none rfl rfl rfl ?_
                refine o_move (AV.lit (.bool true)) Gd.none rfl ?_
                refine o_skip (b := true) rfl rfl rfl ?_
                refine o_skip (b := true) rfl rfl rfl ?_
                refine o_skip (b := true) rfl rfl rfl ?_
                refine o_skip (b := true) rfl rfl rfl ?_
                refine o_skip (b := true) rfl rfl rfl ?_
                refine o_skip (b := true) rfl rfl rfl ?_
                refine o_skip (b := true) rfl rfl rfl ?_
                refine o_skip (b := true) rfl rfl rfl ?_
                refine o_skip (b := true) rfl rfl rfl ?_
                refine o_skip (b := true) rfl rfl rfl ?_
                refine o_skip (b := true) rfl rfl rfl ?_
                refine o_skip (b := true) rfl rfl rfl ?_
                refine o_skip (b := true) rfl rfl rfl ?_
                refine o_skip (b := true) rfl rfl rfl ?_
                refine o_skip (b := true) rfl rfl rfl ?_
                refine o_skip (b := true) rfl rfl rfl ?_
                refine o_skip (b := true) rfl rfl rfl ?_
                refine o_pickT (b := true) (AV.lit (.bool true)) Gd.none rfl rfl rfl ?_
                refine aops_end ⟨by kernel_rfl, ?_⟩
                refine hK12 _ ?_
                refine awp_condB (b := true) rfl (fun _ => ?_) (fun hh => absurd (hh.symm.trans rfl) (by decide))
                refine awp_seq fun K14 hK14 => ?_
                refine awp_region rfl ?_
                refine o_assign (AV.lit (.bool false)) Gd.none rfl ?_
                refine aops_end ?_
                refine hK14 _ ?_
                refine awp_ret ?_
                refine post_ret ⟨[(AV.lit (.bool false))], And.intro (AV.le_refl _) (trivial), rfl, ?_⟩
                refine bl_eq (okM_no fun h => ?_)
                obtain ⟨o1, o2, o3, o4, o5⟩ := h
                first | omega | (have := o5 r (by omega); omega)
              · refine o_fieldRef 2 (Gd.yes rfl rfl (decide_eq_false h7)) Wf_tF24_2 rfl rfl ?_
                refine o_loadS (AV.sl 1 (is .i64 (m.add))) (Gd.yes rfl rfl (decide_eq_false h7)) Wf_tS22 rfl rfl rfl ?_
                refine o_move (nm .i64 (r)) (Gd.yes rfl rfl (decide_eq_false h7)) rfl ?_
                refine i_index (m.add) (r) (Gd.yes rfl rfl (decide_eq_false h7)) Wf_tE22 rfl rfl (by omega) ?_
                refine i_loadI (m.add) (r) (Gd.yes rfl rfl (decide_eq_false h7)) Wf_tS3 rfl (by omega) ?_
                refine o_lss (a := ((m.add).getD (r) 0)) (c := ((-999999))) (Gd.yes rfl rfl (decide_eq_false h7)) rfl rfl ?_
                refine o_pickF (b := decide ((((999 : Nat) : Int)) < ((m.mul).getD (r) 0))) (bp (((m.add).getD (r) 0) < ((-999999)))) Gd.none rfl (decide_eq_false h7) rfl ?_
                refine o_move (bp (((m.add).getD (r) 0) < ((-999999)))) Gd.none rfl ?_
                refine o_splitP (q := ((m.add).getD (r) 0) < ((-999999))) 56 rfl (fun h8 => ?_) (fun h8 => ?_)
                · refine o_skip (b := decide (((m.add).getD (r) 0) < ((-999999)))) rfl rfl (decide_eq_true h8) ?_
                  refine o_skip (b := decide (((m.add).getD (r) 0) < ((-999999)))) rfl rfl (decide_eq_true h8) ?_
                  refine o_skip (b := decide (((m.add).getD (r) 0) < ((-999999)))) rfl rfl (decide_eq_true h8) ?_
                  refine o_skip (b := decide (((m.add).getD (r) 0) < ((-999999)))) rfl rfl (decide_eq_true h8) ?_
                  refine o_skip (b := decide (((m.add).getD (r) 0) < ((-999999)))) rfl rfl (decide_eq_true h8) ?_
                  refine o_skip (b := decide (((m.add).getD (r) 0) < ((-999999)))) rfl rfl (decide_eq_true h8) ?_
                  refine o_pickT (b := decide (((m.add).getD (r) 0) < ((-999999)))) (AV.lit (.bool true)) Gd.none rfl (decide_eq_true h8) rfl ?_
                  refine o_move (AV.lit (.bool true)) Gd.none rfl ?_
                  refine o_skip (b := true) rfl rfl rfl ?_
                  refine o_skip (b := true) rfl rfl rfl ?_
                  refine o_skip (b := true) rfl rfl rfl ?_
                  refine o_skip (b := true) rfl rfl rfl ?_
                  refine o_skip (b := true) rfl rfl rfl ?_
                  refine o_skip (b := true) rfl rfl rfl ?_
                  refine o_skip (b := true) rfl rfl rfl ?_
                  refine o_skip (b := true) rfl rfl rfl ?_
                  refine o_skip (b := true) rfl rfl rfl ?_
                  refine o_skip (b := true) rfl rfl rfl ?_
                  refine o_skip (b := true) rfl rfl rfl ?_
                  refine o_skip (b := true) rfl rfl rfl ?_
                  refine o_skip (b := true) rfl rfl rfl ?_
                  refine o_skip (b := true) rfl rfl rfl ?_
                  refine o_skip (b := true) rfl rfl rfl ?_
                  refine o_skip (b := true) rfl rfl rfl ?_
                  refine o_skip (b := true) rfl rfl rfl ?_
                  refine o_pickT (b := true) (AV.lit (.bool true)) Gd.none rfl rfl rfl ?_
                  refine aops_end ⟨by kernel_rfl, ?_⟩
                  refine hK12 _ ?_
                  refine awp_condB (b := true) rfl (fun _ => ?_) (fun hh => absurd (hh.symm.trans rfl) (by decide))
                  refine awp_seq fun K15 hK15 => ?_
                  refine awp_region rfl ?_
                  refine o_assign (AV.lit (.bool false)) Gd.none rfl ?_
                  refine aops_end ?_
                  refine hK15 _ ?_
                  refine awp_ret ?_
                  refine post_ret ⟨[(AV.lit (.bool false))], And.intro (AV.le_refl _) (trivial), rfl, ?_⟩
                  refine bl_eq (okM_no fun h => ?_)
                  obtain ⟨o1, o2, o3, o4, o5⟩ := h
                  first | omega | (have := o5 r (by omega); omega)
                · refine o_fieldRef 2 (Gd.yes rfl rfl (decide_eq_false h8)) Wf_tF24_2 rfl rfl ?_
                  refine o_loadS (AV.sl 1 (is .i64 (m.add))) (Gd.yes rfl rfl (decide_eq_false h8)) Wf_tS22 rfl rfl rfl ?_
                  refine o_move (nm .i64 (r)) (Gd.yes rfl rfl (decide_eq_false h8)) rfl ?_
                  refine i_index (m.add) (r) (Gd.yes rfl rfl (decide_eq_false h8)) Wf_tE22 rfl rfl (by omega) ?_
                  refine i_loadI (m.add) (r) (Gd.yes rfl rfl (decide_eq_false h8)) Wf_tS3 rfl (by omega) ?_
                  refine o_gtr (a := ((m.add).getD (r) 0)) (c := (((999999 : Nat) : Int))) (Gd.yes rfl rfl (decide_eq_false h8)) rfl rfl ?_
                  refine o_pickF (b := decide (((m.add).getD (r) 0) < ((-999999)))) (bp ((((999999 : Nat) : Int)) < ((m.add).getD (r) 0))) Gd.none rfl (decide_eq_false h8) rfl ?_
                  refine o_move (bp ((((999999 : Nat) : Int)) < ((m.add).getD (r) 0))) Gd.none rfl ?_
                  refine o_splitP (q := (((999999 : Nat) : Int)) < ((m.add).getD (r) 0)) 64 rfl (fun h9 => ?_) (fun h9 => ?_)
                  · refine o_skip (b := decide ((((999999 : Nat) : Int)) < ((m.add).getD (r) 0))) rfl rfl (decide_eq_true h9) ?_
                    refine o_skip (b := decide ((((999999 : Nat) : Int)) < ((m.add).getD (r) 0))) rfl rfl (decide_eq_true h9) ?_
                    refine o_skip (b := decide ((((999999 : Nat) : Int)) < ((m.add).getD (r) 0))) rfl rfl (decide_eq_true h9) ?_
                    refine o_skip (b := decide ((((999999 : Nat) : Int)) < ((m.add).getD (r) 0))) rfl rfl (decide_eq_true h9) ?_
                    refine o_skip (b := decide ((((999999 : Nat) : Int)) < ((m.add).getD (r) 0))) rfl rfl (decide_eq_true h9) ?_
                    refine o_skip (b := decide ((((999999 : Nat) : Int)) < ((m.add).getD (r) 0))) rfl rfl (decide_eq_true h9) ?_
                    refine o_skip (b := decide ((((999999 : Nat) : Int)) < ((m.add).getD (r) 0))) rfl rfl (decide_eq_true h9) ?_
                    refine o_skip (b := decide ((((999999 : Nat) : Int)) < ((m.add).getD (r) 0))) rfl rfl (decide_eq_true h9) ?_
                    refine o_skip (b := decide ((((999999 : Nat) : Int)) < ((m.add).getD (r) 0))) rfl rfl (decide_eq_true h9) ?_
                    refine o_skip (b := decide ((((999999 : Nat) : Int)) < ((m.add).getD (r) 0))) rfl rfl (decide_eq_true h9) ?_
                    refine o_skip (b := decide ((((999999 : Nat) : Int)) < ((m.add).getD (r) 0))) rfl rfl (decide_eq_true h9) ?_
                    refine o_skip (b := decide ((((999999 : Nat) : Int)) < ((m.add).getD (r) 0))) rfl rfl (decide_eq_true h9) ?_
                    refine o_skip (b := decide ((((999999 : Nat) : Int)) < ((m.add).getD (r) 0))) rfl rfl (decide_eq_true h9) ?_
                    refine o_skip (b := decide ((((999999 : Nat) : Int)) < ((m.add).getD (r) 0))) rfl rfl (decide_eq_true h9) ?_
                    refine o_skip (b := decide ((((999999 : Nat) : Int)) < ((m.add).getD (r) 0))) rfl rfl (decide_eq_true h9) ?_
                    refine o_skip (b := decide ((((999999 : Nat) : Int)) < ((m.add).getD (r) 0))) rfl rfl (decide_eq_true h9) ?_
                    refine o_skip (b := decide ((((999999 : Nat) : Int)) < ((m.add).getD (r) 0))) rfl rfl (decide_eq_true h9) ?_
                    refine o_pickT (b := decide ((((999999 : Nat) : Int)) < ((m.add).getD (r) 0))) (AV.lit (.bool true)) Gd.none rfl (decide_eq_true h9) rfl ?_
                    refine aops_end ⟨by kernel_rfl, ?_⟩
                    refine hK12 _ ?_
                    refine awp_condB (b := true) rfl (fun _ => ?_) (fun hh => absurd (hh.symm.trans rfl) (by decide))
                    refine awp_seq fun K16 hK16 => ?_
                    refine awp_region rfl ?_
                    refine o_assign (AV.lit (.bool false)) Gd.none rfl ?_
                    refine aops_end ?_
                    refine hK16 _ ?_
                    refine awp_ret ?_
                    refine post_ret ⟨[(AV.lit (.bool false))], And.intro (AV.le_refl _) (trivial), rfl, ?_⟩
                    refine bl_eq (okM_no fun h => ?_)
                    obtain ⟨o1, o2, o3, o4, o5⟩ := h
                    first | omega | (have := o5 r (by omega); omega)
                  · refine o_fieldRef 1 (Gd.yes rfl rfl (decide_eq_false h9)) Wf_tF24_1 rfl rfl ?_
                    refine o_loadS (AV.sl 1 (is .i64 (m.mul))) (Gd.yes rfl rfl (decide_eq_false h9)) Wf_tS22 rfl rfl rfl ?_
                    refine o_move (nm .i64 (r)) (Gd.yes rfl rfl (decide_eq_false h9)) rfl ?_
                    refine i_index (m.mul) (r) (Gd.yes rfl rfl (decide_eq_false h9)) Wf_tE22 rfl rfl (by omega) ?_
                    refine i_loadI (m.mul) (r) (Gd.yes rfl rfl (decide_eq_false h9)) Wf_tS3 rfl (by omega) ?_
                    refine o_move (nm .i64 (r)) (Gd.yes rfl rfl (decide_eq_false h9)) rfl ?_
                    refine o_mul (a := ((m.mul).getD (r) 0)) (c := (((r : Nat) : Int))) (Gd.yes rfl rfl (decide_eq_false h9)) rfl rfl (by have hm := mulb (a := (m.mul).getD (r) 0) (r := (r : Int)) (by omega) (by omega) (by omega) (by omega); exact wrap64 (by omega) (by omega)) ?_
                    refine o_fieldRef 2 (Gd.yes rfl rfl (decide_eq_false h9)) Wf_tF24_2 rfl rfl ?_
                    refine o_loadS (AV.sl 1 (is .i64 (m.add))) (Gd.yes rfl rfl (decide_eq_false h9)) Wf_tS22 rfl rfl rfl ?_
                    refine o_move (nm .i64 (r)) (Gd.yes rfl rfl (decide_eq_false h9)) rfl ?_
                    refine i_index (m.add) (r) (Gd.yes rfl rfl (decide_eq_false h9)) Wf_tE22 rfl rfl (by omega) ?_
                    refine i_loadI (m.add) (r) (Gd.yes rfl rfl (decide_eq_false h9)) Wf_tS3 rfl (by omega) ?_
                    refine o_add (a := (((m.mul).getD (r) 0) * (((r : Nat) : Int)))) (c := ((m.add).getD (r) 0)) (Gd.yes rfl rfl (decide_eq_false h9)) rfl rfl (by have hm := mulb (a := (m.mul).getD (r) 0) (r := (r : Int)) (by omega) (by omega) (by omega) (by omega); exact wrap64 (by omega) (by omega)) ?_
                    refine o_fieldRef 0 (Gd.yes rfl rfl (decide_eq_false h9)) Wf_tF24_0 rfl rfl ?_
                    refine o_loadS (AV.lit (.int .i64 (m.mod))) (Gd.yes rfl rfl (decide_eq_false h9)) Wf_tS3 rfl rfl rfl ?_
                    refine o_remT (a := ((((m.mul).getD (r) 0) * (((r : Nat) : Int))) + ((m.add).getD (r) 0))) (c := (m.mod)) (Gd.yes rfl rfl (decide_eq_false h9)) rfl rfl (by omega) ?_
                    refine o_neq (a := (Int.tmod ((((m.mul).getD (r) 0) * (((r : Nat) : Int))) + ((m.add).getD (r) 0)) (m.mod))) (c := (((0 : Nat) : Int))) (Gd.yes rfl rfl (decide_eq_false h9)) rfl rfl ?_
                    refine o_pickF (b := decide ((((999999 : Nat) : Int)) < ((m.add).getD (r) 0))) (bp ((Int.tmod ((((m.mul).getD (r) 0) * (((r : Nat) : Int))) + ((m.add).getD (r) 0)) (m.mod)) ≠ (((0 : Nat) : Int)))) Gd.none rfl (decide_eq_false h9) rfl ?_
                    refine aops_end ⟨by kernel_rfl, ?_⟩
                    refine hK12 _ ?_
                    refine awp_condQ (q := (Int.tmod ((((m.mul).getD (r) 0) * (((r : Nat) : Int))) + ((m.add).getD (r) 0)) (m.mod)) ≠ (((0 : Nat) : Int))) rfl (fun h10 => ?_) (fun h10 => ?_)
                    · refine awp_seq fun K17 hK17 => ?_
                      refine awp_region rfl ?_
                      refine o_assign (AV.lit (.bool false)) Gd.none rfl ?_
                      refine aops_end ?_
                      refine hK17 _ ?_
                      refine awp_ret ?_
                      refine post_ret ⟨[(AV.lit (.bool false))], And.intro (AV.le_refl _) (trivial), rfl, ?_⟩
                      refine bl_eq (okM_no fun h => ?_)
                      obtain ⟨o1, o2, o3, o4, o5⟩ := h
                      first | omega | (have := o5 r (by omega); omega)
                    · refine awp_skip ?_
                      refine hK11 _ ?_
                      refine awp_region rfl ?_
                      refine o_move (nm .i64 (r)) Gd.none rfl ?_
                      refine n_add (r) (1) Gd.none rfl rfl (by simp only [topOf]; omega) ?_
                      refine o_assign (nm .i64 ((r) + (1))) Gd.none rfl ?_
                      refine aops_end ?_
                      refine ⟨_, _, ?lt, ⟨r + 1, (by omega), (fun i hi => by by_cases e : i = r; subst e; exact ⟨by omega, by omega, by omega, by omega, by omega⟩; exact hv i (by omega)), rfl, rfl⟩, ?wk⟩
                      case lt => omega
                      case wk => exact Wk.sub (And.intro (by exact rfl) (And.intro (by first | rfl | exact congrArg (nm _) (by omega) | exact nm_int (by omega) | exact nm_int (by simp [IntKind.wrap, IntKind.bits, IntKind.signed]; omega)) (trivial))) (And.intro (by first | rfl | exact row_ns (by simp) | exact congrArg (fun x => some (AO.blk (.stringIter _ x))) (by omega)) (trivial))
          · refine awp_exit ?_
            refine hK7 _ ?_
            refine awp_seq fun K18 hK18 => ?_
            refine awp_region rfl ?_
            refine o_assign (AV.lit (.bool true)) Gd.none rfl ?_
            refine aops_end ?_
            refine hK18 _ ?_
            refine awp_ret ?_
            refine post_ret ⟨[(AV.lit (.bool true))], And.intro (AV.le_refl _) (trivial), rfl, ?_⟩
            refine bl_eq (okM_yes ⟨by omega, by omega, by omega, by omega, fun i hi => hv i (by omega)⟩)

theorem c_gAlike (x y : List Int) : ECalls cx 19 [(AV.sl 1 (is .i64 (x))), (AV.sl 1 (is .i64 (y)))] (bp (x = y)) := by
  refine ecalls_of_awp Tryd.func19 (c := _) rfl (Nat.le_of_ble_eq_true rfl) ?_
  show awp cx 26 _ (postF cx Tryd.f19 _) ⟨[(0, (AV.sl 1 (is .i64 (x)))), (1, (AV.sl 1 (is .i64 (y))))], []⟩
  refine awp_bound (i := 0) rfl fun hb => ?_
  replace hb := is_bnd hb
  refine awp_bound (i := 1) rfl fun hb2 => ?_
  replace hb2 := is_bnd hb2
  refine awp_seq fun K0 hK0 => ?_
  refine awp_region rfl ?_
  refine o_assign (AV.lit (.bool false)) Gd.none rfl ?_
  refine aops_end ?_
  refine hK0 _ ?_
  refine awp_seq fun K1 hK1 => ?_
  refine awp_seq fun K2 hK2 => ?_
  refine awp_region rfl ?_
  refine o_move (AV.sl 1 (is .i64 (x))) Gd.none rfl ?_
  refine i_len (x) Gd.none Wf_tU22 rfl ?_
  refine o_move (AV.sl 1 (is .i64 (y))) Gd.none rfl ?_
  refine i_len (y) Gd.none Wf_tU22 rfl ?_
  refine n_neq ((x).length) ((y).length) Gd.none rfl rfl ?_
  refine aops_end ?_
  refine hK2 _ ?_
  refine awp_condQ (q := ((x).length) ≠ ((y).length)) rfl (fun h1 => ?_) (fun h1 => ?_)
  · refine awp_seq fun K3 hK3 => ?_
    refine awp_region rfl ?_
    refine o_assign (AV.lit (.bool false)) Gd.none rfl ?_
    refine aops_end ?_
    refine hK3 _ ?_
    refine awp_ret ?_
    refine post_ret ⟨[(AV.lit (.bool false))], And.intro (AV.le_refl _) (trivial), rfl, ?_⟩
    exact (bl_bp (b := false) (by constructor <;> intro h <;> first | (exfalso; subst h; exact h1 rfl) | cases h)).symm
  · refine awp_skip ?_
    refine hK1 _ ?_
    refine awp_seq fun K4 hK4 => ?_
    refine awp_seq fun K5 hK5 => ?_
    refine awp_region rfl ?_
    refine o_assign (nm .i64 (0)) Gd.none rfl ?_
    refine aops_end ?_
    refine hK5 _ ?_
    refine awp_block ?_
    refine awp_loopR (fun κ σ => ∃ (i : Nat), (i ≤ x.length) ∧ (∀ k, k < i → x.getD k 0 = y.getD k 0) ∧ (x.length - i) = κ ∧ σ = ⟨[(0, (AV.sl 1 (is .i64 (x)))), (1, (AV.sl 1 (is .i64 (y)))), (5, (nm .i64 (i)))], []⟩) ⟨_, _, ⟨0, (by omega), (fun k hk => by omega), rfl, rfl⟩, ?wk0⟩ ?rd0
    case wk0 =>
      exact Wk.sub (And.intro (by exact rfl) (And.intro (by exact rfl) (And.intro (by first | rfl | exact congrArg (nm _) (by omega) | exact nm_int (by omega) | exact nm_int (by simp [IntKind.wrap, IntKind.bits, IntKind.signed]; omega)) (trivial)))) (trivial)
    rintro κ _ ⟨i, hi, hv, rfl, rfl⟩
    refine awp_seq fun K6 hK6 => ?_
    refine awp_seq fun K7 hK7 => ?_
    refine awp_region rfl ?_
    refine o_move (nm .i64 (i)) Gd.none rfl ?_
    refine o_move (AV.sl 1 (is .i64 (x))) Gd.none rfl ?_
    refine i_len (x) Gd.none Wf_tU22 rfl ?_
    refine n_lss (i) ((x).length) Gd.none rfl rfl ?_
    refine aops_end ?_
    refine hK7 _ ?_
    refine awp_condQ (q := (i) < ((x).length)) rfl (fun h2 => ?_) (fun h2 => ?_)
    · refine awp_skip ?_
      refine hK6 _ ?_
      refine awp_seq fun K8 hK8 => ?_
      refine awp_block ?_
      refine awp_seq fun K9 hK9 => ?_
      refine awp_regionD rfl ?_
      refine o_move (AV.sl 1 (is .i64 (x))) Gd.none rfl ?_
      refine o_move (nm .i64 (i)) Gd.none rfl ?_
      refine i_index (x) (i) Gd.none Wf_tE22 rfl rfl (by omega) ?_
      refine i_loadI (x) (i) Gd.none Wf_tS3 rfl (by omega) ?_
      refine o_move (AV.sl 1 (is .i64 (y))) Gd.none rfl ?_
      refine o_move (nm .i64 (i)) Gd.none rfl ?_
      refine i_index (y) (i) Gd.none Wf_tE22 rfl rfl (by omega) ?_
      refine i_loadI (y) (i) Gd.none Wf_tS3 rfl (by omega) ?_
      refine o_neq (a := ((x).getD (i) 0)) (c := ((y).getD (i) 0)) Gd.none rfl rfl ?_
      refine aops_end ⟨by kernel_rfl, ?_⟩
      refine hK9 _ ?_
      refine awp_condQ (q := ((x).getD (i) 0) ≠ ((y).getD (i) 0)) rfl (fun h3 => ?_) (fun h3 => ?_)
      · refine awp_seq fun K10 hK10 => ?_
        refine awp_region rfl ?_
        refine o_assign (AV.lit (.bool false)) Gd.none rfl ?_
        refine aops_end ?_
        refine hK10 _ ?_
        refine awp_ret ?_
        refine post_ret ⟨[(AV.lit (.bool false))], And.intro (AV.le_refl _) (trivial), rfl, ?_⟩
        exact (bl_bp (b := false) (by constructor <;> intro h <;> first | (exfalso; subst h; exact h3 rfl) | cases h)).symm
      · refine awp_skip ?_
        refine hK8 _ ?_
        refine awp_region rfl ?_
        refine o_move (nm .i64 (i)) Gd.none rfl ?_
        refine n_add (i) (1) Gd.none rfl rfl (by simp only [topOf]; omega) ?_
        refine o_assign (nm .i64 ((i) + (1))) Gd.none rfl ?_
        refine aops_end ?_
        refine ⟨_, _, ?lt, ⟨i + 1, (by omega), (fun k hk => by by_cases e : k = i; subst e; omega; exact hv k (by omega)), rfl, rfl⟩, ?wk⟩
        case lt => omega
        case wk => exact Wk.sub (And.intro (by exact rfl) (And.intro (by exact rfl) (And.intro (by first | rfl | exact congrArg (nm _) (by omega) | exact nm_int (by omega) | exact nm_int (by simp [IntKind.wrap, IntKind.bits, IntKind.signed]; omega)) (trivial)))) (trivial)
    · refine awp_exit ?_
      refine hK4 _ ?_
      refine awp_seq fun K11 hK11 => ?_
      refine awp_region rfl ?_
      refine o_assign (AV.lit (.bool true)) Gd.none rfl ?_
      refine aops_end ?_
      refine hK11 _ ?_
      refine awp_ret ?_
      refine post_ret ⟨[(AV.lit (.bool true))], And.intro (AV.le_refl _) (trivial), rfl, ?_⟩
      exact (bl_bp (b := true) ⟨fun _ => list_ext (by omega) (fun k hk => hv k (by omega)), fun _ => rfl⟩).symm

end Go.Proofs.YtbilndahjkimkaaDoor

set_option linter.unusedVariables false
set_option linter.unusedSimpArgs false
namespace Go.Proofs.YtbilndahjkimkaaDoor
open Go Go.Ab Go.Mth
theorem Wi_tF24_0 : tyField cx.P 24 0 = some (0, 3) := by kernel_rfl
theorem Wi_tS3 : tySc cx.P 3 = true := by kernel_rfl
theorem Wi_tF24_1 : tyField cx.P 24 1 = some (1, 22) := by kernel_rfl
theorem Wi_tS22 : tySc cx.P 22 = true := by kernel_rfl
theorem Wi_tU22 : cx.P.underlying 22 = some (.slice 3) := by kernel_rfl
theorem Wi_tF24_2 : tyField cx.P 24 2 = some (2, 22) := by kernel_rfl
theorem Wi_tE22 : tyElem cx.P 22 = some (3, 1, 8) := by kernel_rfl
theorem Wi_tO79 : tyZero cx.P 79 = some [(Go.Value.bool false), (Go.Value.slice none 0 0)] := by kernel_rfl
theorem Wi_tA79 : tyAgg cx.P 79 = some 2 := by kernel_rfl
theorem Wi_tC63 : callable cx.P 63 = true := by kernel_rfl
theorem Wi_tZ79 : tySize cx.P 79 = some 2 := by kernel_rfl
theorem Wi_tC59 : callable cx.P 59 = true := by kernel_rfl
theorem Wi_tC60 : callable cx.P 60 = true := by kernel_rfl
theorem Wi_tC61 : callable cx.P 61 = true := by kernel_rfl
theorem c_sValid (m : MapM) : ECalls cx 46 [(mapV m)] (.lit (.bool (okM m))) := by
  refine ecalls_of_awp Tryd.func46 (c := _) rfl (Nat.le_of_ble_eq_true rfl) ?_
  show awp cx 83 _ (postF cx Tryd.f46 _) ⟨[(0, (mapV m))], []⟩
  refine awp_seq fun K0 hK0 => ?_
  refine awp_region rfl ?_
  refine o_box 2 [(AV.lit (.int .i64 (m.mod))), (AV.sl 1 (is .i64 (m.mul))), (AV.sl 1 (is .i64 (m.add)))] Gd.none rfl rfl ?_
  refine o_assign (AV.lit (.bool false)) Gd.none rfl ?_
  refine aops_end ?_
  refine hK0 _ ?_
  refine awp_seq fun K1 hK1 => ?_
  refine awp_seq fun K2 hK2 => ?_
  refine awp_region rfl ?_
  refine o_fieldRef 0 Gd.none Wi_tF24_0 rfl rfl ?_
  refine o_loadS (AV.lit (.int .i64 (m.mod))) Gd.none Wi_tS3 rfl rfl rfl ?_
  refine o_lss (a := (m.mod)) (c := (((2 : Nat) : Int))) Gd.none rfl rfl ?_
  refine o_move (bp ((m.mod) < (((2 : Nat) : Int)))) Gd.none rfl ?_
  refine o_splitP (q := (m.mod) < (((2 : Nat) : Int))) 7 rfl (fun h1 => ?_) (fun h1 => ?_)
  · refine o_skip (b := decide ((m.mod) < (((2 : Nat) : Int)))) rfl rfl (decide_eq_true h1) ?_
    refine o_skip (b := decide ((m.mod) < (((2 : Nat) : Int)))) rfl rfl (decide_eq_true h1) ?_
    refine o_skip (b := decide ((m.mod) < (((2 : Nat) : Int)))) rfl rfl (decide_eq_true h1) ?_
    refine o_pickT (b := decide ((m.mod) < (((2 : Nat) : Int)))) (AV.lit (.bool true)) Gd.none rfl (decide_eq_true h1) rfl ?_
    refine o_move (AV.lit (.bool true)) Gd.none rfl ?_
    refine o_skip (b := true) rfl rfl rfl ?_
    refine o_skip (b := true) rfl rfl rfl ?_
    refine o_skip (b := true) rfl rfl rfl ?_
    refine o_skip (b := true) rfl rfl rfl ?_
    refine o_skip (b := true) rfl rfl rfl ?_
    refine o_skip (b := true) rfl rfl rfl ?_
    refine o_pickT (b := true) (AV.lit (.bool true)) Gd.none rfl rfl rfl ?_
    refine o_move (AV.lit (.bool true)) Gd.none rfl ?_
    refine o_skip (b := true) rfl rfl rfl ?_
    refine o_skip (b := true) rfl rfl rfl ?_
    refine o_skip (b := true) rfl rfl rfl ?_
    refine o_skip (b := true) rfl rfl rfl ?_
    refine o_skip (b := true) rfl rfl rfl ?_
    refine o_skip (b := true) rfl rfl rfl ?_
    refine o_pickT (b := true) (AV.lit (.bool true)) Gd.none rfl rfl rfl ?_
    refine aops_end ?_
    refine hK2 _ ?_
    refine awp_condB (b := true) rfl (fun _ => ?_) (fun hh => absurd (hh.symm.trans rfl) (by decide))
    refine awp_seq fun K3 hK3 => ?_
    refine awp_region rfl ?_
    refine o_assign (AV.lit (.bool false)) Gd.none rfl ?_
    refine aops_end ?_
    refine hK3 _ ?_
    refine awp_ret ?_
    refine post_ret ⟨[(AV.lit (.bool false))], And.intro (AV.le_refl _) (trivial), rfl, ?_⟩
    refine bl_eq (okM_no fun h => ?_)
    obtain ⟨o1, o2, o3, o4, o5⟩ := h
    first | omega | (have := o5 r (by omega); omega)
  · refine o_fieldRef 0 (Gd.yes rfl rfl (decide_eq_false h1)) Wi_tF24_0 rfl rfl ?_
    refine o_loadS (AV.lit (.int .i64 (m.mod))) (Gd.yes rfl rfl (decide_eq_false h1)) Wi_tS3 rfl rfl rfl ?_
    refine o_gtr (a := (m.mod)) (c := (((12 : Nat) : Int))) (Gd.yes rfl rfl (decide_eq_false h1)) rfl rfl ?_
    refine o_pickF (b := decide ((m.mod) < (((2 : Nat) : Int)))) (bp ((((12 : Nat) : Int)) < (m.mod))) Gd.none rfl (decide_eq_false h1) rfl ?_
    refine o_move (bp ((((12 : Nat) : Int)) < (m.mod))) Gd.none rfl ?_
    refine o_splitP (q := (((12 : Nat) : Int)) < (m.mod)) 12 rfl (fun h2 => ?_) (fun h2 => ?_)
    · refine o_skip (b := decide ((((12 : Nat) : Int)) < (m.mod))) rfl rfl (decide_eq_true h2) ?_
      refine o_skip (b := decide ((((12 : Nat) : Int)) < (m.mod))) rfl rfl (decide_eq_true h2) ?_
      refine o_skip (b := decide ((((12 : Nat) : Int)) < (m.mod))) rfl rfl (decide_eq_true h2) ?_
      refine o_skip (b := decide ((((12 : Nat) : Int)) < (m.mod))) rfl rfl (decide_eq_true h2) ?_
      refine o_skip (b := decide ((((12 : Nat) : Int)) < (m.mod))) rfl rfl (decide_eq_true h2) ?_
      refine o_skip (b := decide ((((12 : Nat) : Int)) < (m.mod))) rfl rfl (decide_eq_true h2) ?_
      refine o_pickT (b := decide ((((12 : Nat) : Int)) < (m.mod))) (AV.lit (.bool true)) Gd.none rfl (decide_eq_true h2) rfl ?_
      refine o_move (AV.lit (.bool true)) Gd.none rfl ?_
      refine o_skip (b := true) rfl rfl rfl ?_
      refine o_skip (b := true) rfl rfl rfl ?_
      refine o_skip (b := true) rfl rfl rfl ?_
      refine o_skip (b := true) rfl rfl rfl ?_
      refine o_skip (b := true) rfl rfl rfl ?_
      refine o_skip (b := true) rfl rfl rfl ?_
      refine o_pickT (b := true) (AV.lit (.bool true)) Gd.none rfl rfl rfl ?_
      refine aops_end ?_
      refine hK2 _ ?_
      refine awp_condB (b := true) rfl (fun _ => ?_) (fun hh => absurd (hh.symm.trans rfl) (by decide))
      refine awp_seq fun K4 hK4 => ?_
      refine awp_region rfl ?_
      refine o_assign (AV.lit (.bool false)) Gd.none rfl ?_
      refine aops_end ?_
      refine hK4 _ ?_
      refine awp_ret ?_
      refine post_ret ⟨[(AV.lit (.bool false))], And.intro (AV.le_refl _) (trivial), rfl, ?_⟩
      refine bl_eq (okM_no fun h => ?_)
      obtain ⟨o1, o2, o3, o4, o5⟩ := h
      first | omega | (have := o5 r (by omega); omega)
    · refine o_fieldRef 1 (Gd.yes rfl rfl (decide_eq_false h2)) Wi_tF24_1 rfl rfl ?_
      refine o_loadS (AV.sl 1 (is .i64 (m.mul))) (Gd.yes rfl rfl (decide_eq_false h2)) Wi_tS22 rfl rfl rfl ?_
      refine i_len (m.mul) (Gd.yes rfl rfl (decide_eq_false h2)) Wi_tU22 rfl ?_
      refine o_fieldRef 0 (Gd.yes rfl rfl (decide_eq_false h2)) Wi_tF24_0 rfl rfl ?_
      refine o_loadS (AV.lit (.int .i64 (m.mod))) (Gd.yes rfl rfl (decide_eq_false h2)) Wi_tS3 rfl rfl rfl ?_
      refine o_neq (a := ((((m.mul).length : Nat) : Int))) (c := (m.mod)) (Gd.yes rfl rfl (decide_eq_false h2)) rfl rfl ?_
      refine o_pickF (b := decide ((((12 : Nat) : Int)) < (m.mod))) (bp (((((m.mul).length : Nat) : Int)) ≠ (m.mod))) Gd.none rfl (decide_eq_false h2) rfl ?_
      refine o_move (bp (((((m.mul).length : Nat) : Int)) ≠ (m.mod))) Gd.none rfl ?_
      refine o_splitP (q := ((((m.mul).length : Nat) : Int)) ≠ (m.mod)) 20 rfl (fun h3 => ?_) (fun h3 => ?_)
      · refine o_skip (b := decide (((((m.mul).length : Nat) : Int)) ≠ (m.mod))) rfl rfl (decide_eq_true h3) ?_
        refine o_skip (b := decide (((((m.mul).length : Nat) : Int)) ≠ (m.mod))) rfl rfl (decide_eq_true h3) ?_
        refine o_skip (b := decide (((((m.mul).length : Nat) : Int)) ≠ (m.mod))) rfl rfl (decide_eq_true h3) ?_
        refine o_skip (b := decide (((((m.mul).length : Nat) : Int)) ≠ (m.mod))) rfl rfl (decide_eq_true h3) ?_
        refine o_skip (b := decide (((((m.mul).length : Nat) : Int)) ≠ (m.mod))) rfl rfl (decide_eq_true h3) ?_
        refine o_skip (b := decide (((((m.mul).length : Nat) : Int)) ≠ (m.mod))) rfl rfl (decide_eq_true h3) ?_
        refine o_pickT (b := decide (((((m.mul).length : Nat) : Int)) ≠ (m.mod))) (AV.lit (.bool true)) Gd.none rfl (decide_eq_true h3) rfl ?_
        refine aops_end ?_
        refine hK2 _ ?_
        refine awp_condB (b := true) rfl (fun _ => ?_) (fun hh => absurd (hh.symm.trans rfl) (by decide))
        refine awp_seq fun K5 hK5 => ?_
        refine awp_region rfl ?_
        refine o_assign (AV.lit (.bool false)) Gd.none rfl ?_
        refine aops_end ?_
        refine hK5 _ ?_
        refine awp_ret ?_
        refine post_ret ⟨[(AV.lit (.bool false))], And.intro (AV.le_refl _) (trivial), rfl, ?_⟩
        refine bl_eq (okM_no fun h => ?_)
        obtain ⟨o1, o2, o3, o4, o5⟩ := h
        first | omega | (have := o5 r (by omega); omega)
      · refine o_fieldRef 2 (Gd.yes rfl rfl (decide_eq_false h3)) Wi_tF24_2 rfl rfl ?_
        refine o_loadS (AV.sl 1 (is .i64 (m.add))) (Gd.yes rfl rfl (decide_eq_false h3)) Wi_tS22 rfl rfl rfl ?_
        refine i_len (m.add) (Gd.yes rfl rfl (decide_eq_false h3)) Wi_tU22 rfl ?_
        refine o_fieldRef 0 (Gd.yes rfl rfl (decide_eq_false h3)) Wi_tF24_0 rfl rfl ?_
        refine o_loadS (AV.lit (.int .i64 (m.mod))) (Gd.yes rfl rfl (decide_eq_false h3)) Wi_tS3 rfl rfl rfl ?_
        refine o_neq (a := ((((m.add).length : Nat) : Int))) (c := (m.mod)) (Gd.yes rfl rfl (decide_eq_false h3)) rfl rfl ?_
        refine o_pickF (b := decide (((((m.mul).length : Nat) : Int)) ≠ (m.mod))) (bp (((((m.add).length : Nat) : Int)) ≠ (m.mod))) Gd.none rfl (decide_eq_false h3) rfl ?_
        refine aops_end ?_
        refine hK2 _ ?_
        refine awp_condQ (q := ((((m.add).length : Nat) : Int)) ≠ (m.mod)) rfl (fun h4 => ?_) (fun h4 => ?_)
        · refine awp_seq fun K6 hK6 => ?_
          refine awp_region rfl ?_
          refine o_assign (AV.lit (.bool false)) Gd.none rfl ?_
          refine aops_end ?_
          refine hK6 _ ?_
          refine awp_ret ?_
          refine post_ret ⟨[(AV.lit (.bool false))], And.intro (AV.le_refl _) (trivial), rfl, ?_⟩
          refine bl_eq (okM_no fun h => ?_)
          obtain ⟨o1, o2, o3, o4, o5⟩ := h
          first | omega | (have := o5 r (by omega); omega)
        · refine awp_skip ?_
          refine hK1 _ ?_
          refine awp_seq fun K7 hK7 => ?_
          refine awp_seq fun K8 hK8 => ?_
          refine awp_region rfl ?_
          refine o_fieldRef 0 Gd.none Wi_tF24_0 rfl rfl ?_
          refine o_loadS (AV.lit (.int .i64 (m.mod))) Gd.none Wi_tS3 rfl rfl rfl ?_
          refine o_move (nm .i64 (0)) Gd.none rfl ?_
          refine aops_end ?_
          refine hK8 _ ?_
          refine awp_block ?_
          refine awp_loopR (fun κ σ => ∃ (r : Nat), ((r : Int) ≤ m.mod) ∧ (∀ i : Nat, i < r → 1 ≤ m.mul.getD i 0 ∧ m.mul.getD i 0 ≤ 999 ∧ -999999 ≤ m.add.getD i 0 ∧ m.add.getD i 0 ≤ 999999 ∧ Int.tmod (m.mul.getD i 0 * i + m.add.getD i 0) m.mod = 0) ∧ (m.mod.toNat - r) = κ ∧ σ = ⟨[(1, (AV.ref 2 (0))), (29, (AV.lit (.int .i64 (m.mod)))), (30, (nm .i64 (r)))], [(2, (AO.var 24 [(AV.lit (.int .i64 (m.mod))), (AV.sl 1 (is .i64 (m.mul))), (AV.sl 1 (is .i64 (m.add)))]))]⟩) ⟨_, _, ⟨0, (by omega), (fun i hi => by omega), rfl, rfl⟩, ?wk0⟩ ?rd0
          case wk0 =>
            exact Wk.sub (And.intro (by exact rfl) (And.intro (by exact rfl) (And.intro (by first | rfl | exact congrArg (nm _) (by omega) | exact nm_int (by omega) | exact nm_int (by simp [IntKind.wrap, IntKind.bits, IntKind.signed]; omega)) (trivial)))) (And.intro (by first | rfl | exact row_ns (by simp) | exact congrArg (fun x => some (AO.blk (.stringIter _ x))) (by omega)) (trivial))
          rintro κ _ ⟨r, hr, hv, rfl, rfl⟩
          refine awp_seq fun K9 hK9 => ?_
          refine awp_region rfl ?_
          refine o_lss (a := (((r : Nat) : Int))) (c := (m.mod)) Gd.none rfl rfl ?_
          refine aops_end ?_
          refine hK9 _ ?_
          refine awp_seq fun K10 hK10 => ?_
          refine awp_condQ (q := (((r : Nat) : Int)) < (m.mod)) rfl (fun h5 => ?_) (fun h5 => ?_)
          · refine awp_skip ?_
            refine hK10 _ ?_
            refine awp_seq fun K11 hK11 => ?_
            refine awp_block ?_
            refine awp_seq fun K12 hK12 => ?_
            refine awp_region rfl ?_
            refine o_move (nm .i64 (r)) Gd.none rfl ?_
            refine o_assign (nm .i64 (r)) Gd.none rfl ?_
            refine aops_end ?_
            refine hK12 _ ?_
            refine awp_seq fun K13 hK13 => ?_
            refine awp_regionD rfl ?_
            refine o_fieldRef 1 Gd.none Wi_tF24_1 rfl rfl ?_
            refine o_loadS (AV.sl 1 (is .i64 (m.mul))) Gd.none Wi_tS22 rfl rfl rfl ?_
            refine o_move (nm .i64 (r)) Gd.none rfl ?_
            refine i_index (m.mul) (r) Gd.none Wi_tE22 rfl rfl (by omega) ?_
            refine i_loadI (m.mul) (r) Gd.none Wi_tS3 rfl (by omega) ?_
            refine o_lss (a := ((m.mul).getD (r) 0)) (c := (((1 : Nat) : Int))) Gd.none rfl rfl ?_
            refine o_move (bp (((m.mul).getD (r) 0) < (((1 : Nat) : Int)))) Gd.none rfl ?_
            refine o_splitP (q := ((m.mul).getD (r) 0) < (((1 : Nat) : Int))) 39 rfl (fun h6 => ?_) (fun h6 => ?_)
            · refine o_skip (b := decide (((m.mul).getD (r) 0) < (((1 : Nat) : Int)))) rfl rfl (decide_eq_true h6) ?_
              refine o_skip (b := decide (((m.mul).getD (r) 0) < (((1 : Nat) : Int)))) rfl rfl (decide_eq_true h6) ?_
              refine o_skip (b := decide (((m.mul).getD (r) 0) < (((1 : Nat) : Int)))) rfl rfl (decide_eq_true h6) ?_
              refine o_skip (b := decide (((m.mul).getD (r) 0) < (((1 : Nat) : Int)))) rfl rfl (decide_eq_true h6) ?_
              refine o_skip (b := decide (((m.mul).getD (r) 0) < (((1 : Nat) : Int)))) rfl rfl (decide_eq_true h6) ?_
              refine o_skip (b := decide (((m.mul).getD (r) 0) < (((1 : Nat) : Int)))) rfl rfl (decide_eq_true h6) ?_
              refine o_pickT (b := decide (((m.mul).getD (r) 0) < (((1 : Nat) : Int)))) (AV.lit (.bool true)) Gd.none rfl (decide_eq_true h6) rfl ?_
              refine o_move (AV.lit (.bool true)) Gd.none rfl ?_
              refine o_skip (b := true) rfl rfl rfl ?_
              refine o_skip (b := true) rfl rfl rfl ?_
              refine o_skip (b := true) rfl rfl rfl ?_
              refine o_skip (b := true) rfl rfl rfl ?_
              refine o_skip (b := true) rfl rfl rfl ?_
              refine o_skip (b := true) rfl rfl rfl ?_
              refine o_pickT (b := true) (AV.lit (.bool true)) Gd.none rfl rfl rfl ?_
              refine o_move (AV.lit (.bool true)) Gd.none rfl ?_
              refine o_skip (b := true) rfl rfl rfl ?_
              refine o_skip (b := true) rfl rfl rfl ?_
              refine o_skip (b := true) rfl rfl rfl ?_
              refine o_skip (b := true) rfl rfl rfl ?_
              refine o_skip (b := true) rfl rfl rfl ?_
              refine o_skip (b := true) rfl rfl rfl ?_
              refine o_pickT (b := true) (AV.lit (.bool true)) Gd.none rfl rfl rfl ?_
              refine o_move (AV.lit (.bool true)) Gd.none rfl ?_
              refine o_skip (b := true) rfl rfl rfl ?_
              refine o_skip (b := true) rfl rfl rfl ?_
              refine o_skip (b := true) rfl rfl rfl ?_
              refine o_skip (b := true) rfl rfl rfl ?_
              refine o_skip (b := true) rfl rfl rfl ?_
              refine o_skip (b := true) rfl rfl rfl ?_
              refine o_skip (b := true) rfl rfl rfl ?_
              refine o_skip (b := true) rfl rfl rfl ?_
              refine o_skip (b := true) rfl rfl rfl ?_
              refine o_skip (b := true) rfl rfl rfl ?_
              refine o_skip (b := true) rfl rfl rfl ?_
              refine o_skip (b := true) rfl rfl rfl ?_
              refine o_skip (b := true) rfl rfl rfl ?_
              refine o_skip (b := true) rfl rfl rfl ?_
              refine o_skip (b := true) rfl rfl rfl ?_
              refine o_skip (b := true) rfl rfl rfl ?_
              refine o_skip (b := true) rfl rfl rfl ?_
              refine o_pickT (b := true) (AV.lit (.bool true)) Gd.none rfl rfl rfl ?_
              refine aops_end ⟨by kernel_rfl, ?_⟩
              refine hK13 _ ?_
              refine awp_condB (b := true) rfl (fun _ => ?_) (fun hh => absurd (hh.symm.trans rfl) (by decide))
              refine awp_seq fun K14 hK14 => ?_
              refine awp_region rfl ?_
              refine o_assign (AV.lit (.bool false)) Gd.none rfl ?_
              refine aops_end ?_
              refine hK14 _ ?_
              refine awp_ret ?_
              refine post_ret ⟨[(AV.lit (.bool false))], And.intro (AV.le_refl _) (trivial), rfl, ?_⟩
              refine bl_eq (okM_no fun h => ?_)
              obtain ⟨o1, o2, o3, o4, o5⟩ := h
              first | omega | (have := o5 r (by omega); omega)
            · refine o_fieldRef 1 (Gd.yes rfl rfl (decide_eq_false h6)) Wi_tF24_1 rfl rfl ?_
              refine o_loadS (AV.sl 1 (is .i64 (m.mul))) (Gd.yes rfl rfl (decide_eq_false h6)) Wi_tS22 rfl rfl rfl ?_
              refine o_move (nm .i64 (r)) (Gd.yes rfl rfl (decide_eq_false h6)) rfl ?_
              refine i_index (m.mul) (r) (Gd.yes rfl rfl (decide_eq_false h6)) Wi_tE22 rfl rfl (by omega) ?_
              refine i_loadI (m.mul) (r) (Gd.yes rfl rfl (decide_eq_false h6)) Wi_tS3 rfl (by omega) ?_
              refine o_gtr (a := ((m.mul).getD (r) 0)) (c := (((999 : Nat) : Int))) (Gd.yes rfl rfl (decide_eq_false h6)) rfl rfl ?_
              refine o_pickF (b := decide (((m.mul).getD (r) 0) < (((1 : Nat) : Int)))) (bp ((((999 : Nat) : Int)) < ((m.mul).getD (r) 0))) Gd.none rfl (decide_eq_false h6) rfl ?_
              refine o_move (bp ((((999 : Nat) : Int)) < ((m.mul).getD (r) 0))) Gd.none rfl ?_
              refine o_splitP (q := (((999 : Nat) : Int)) < ((m.mul).getD (r) 0)) 47 rfl (fun h7 => ?_) (fun h7 => ?_)
              · refine o_skip (b := decide ((((999 : Nat) : Int)) < ((m.mul).getD (r) 0))) rfl rfl (decide_eq_true h7) ?_
                refine o_skip (b := decide ((((999 : Nat) : Int)) < ((m.mul).getD (r) 0))) rfl rfl (decide_eq_true h7) ?_
                refine o_skip (b := decide ((((999 : Nat) : Int)) < ((m.mul).getD (r) 0))) rfl rfl (decide_eq_true h7) ?_
                refine o_skip (b := decide ((((999 : Nat) : Int)) < ((m.mul).getD (r) 0))) rfl rfl (decide_eq_true h7) ?_
                refine o_skip (b := decide ((((999 : Nat) : Int)) < ((m.mul).getD (r) 0))) rfl rfl (decide_eq_true h7) ?_
                refine o_skip (b := decide ((((999 : Nat) : Int)) < ((m.mul).getD (r) 0))) rfl rfl (decide_eq_true h7) ?_
                refine o_pickT (b := decide ((((999 : Nat) : Int)) < ((m.mul).getD (r) 0))) (AV.lit (.bool true)) Gd.none rfl (decide_eq_true h7) rfl ?_
                refine o_move (AV.lit (.bool true)) Gd.none rfl ?_
                refine o_skip (b := true) rfl rfl rfl ?_
                refine o_skip (b := true) rfl rfl rfl ?_
                refine o_skip (b := true) rfl rfl rfl ?_
                refine o_skip (b := true) rfl rfl rfl ?_
                refine o_skip (b := true) rfl rfl rfl ?_
                refine o_skip (b := true) rfl rfl rfl ?_
                refine o_pickT (b := true) (AV.lit (.bool true)) Gd.none rfl rfl rfl ?_
                refine o_move (AV.lit (.bool true)) Gd.none rfl ?_
                refine o_skip (b := true) rfl rfl rfl ?_
                refine o_skip (b := true) rfl rfl rfl ?_
                refine o_skip (b := true) rfl rfl rfl ?_
                refine o_skip (b := true) rfl rfl rfl ?_
                refine o_skip (b := true) rfl rfl rfl ?_
                refine o_skip (b := true) rfl rfl rfl ?_
                refine o_skip (b := true) rfl rfl rfl ?_
                refine o_skip (b := true) rfl rfl rfl ?_
                refine o_skip (b := true) rfl rfl rfl ?_
                refine o_skip (b := true) rfl rfl rfl ?_
                refine o_skip (b := true) rfl rfl rfl ?_
                refine o_skip (b := true) rfl rfl rfl ?_
                refine o_skip (b := true) rfl rfl rfl ?_
                refine o_skip (b := true) rfl rfl rfl ?_
                refine o_skip (b := true) rfl rfl rfl ?_
                refine o_skip (b := true) rfl rfl rfl ?_
                refine o_skip (b := true) rfl rfl rfl ?_
                refine o_pickT (b := true) (AV.lit (.bool true)) Gd.none rfl rfl rfl ?_
                refine aops_end ⟨by kernel_rfl, ?_⟩
                refine hK13 _ ?_
                refine awp_condB (b := true) rfl (fun _ => ?_) (fun hh => absurd (hh.symm.trans rfl) (by decide))
                refine awp_seq fun K15 hK15 => ?_
                refine awp_region rfl ?_
                refine o_assign (AV.lit (.bool false)) Gd.none rfl ?_
                refine aops_end ?_
                refine hK15 _ ?_
                refine awp_ret ?_
                refine post_ret ⟨[(AV.lit (.bool false))], And.intro (AV.le_refl _) (trivial), rfl, ?_⟩
                refine bl_eq (okM_no fun h => ?_)
                obtain ⟨o1, o2, o3, o4, o5⟩ := h
                first | omega | (have := o5 r (by omega); omega)
              · refine o_fieldRef 2 (Gd.yes rfl rfl (decide_eq_false h7)) Wi_tF24_2 rfl rfl ?_
                refine o_loadS (AV.sl 1 (is .i64 (m.add))) (Gd.yes rfl rfl (decide_eq_false h7)) Wi_tS22 rfl rfl rfl ?_
                refine o_move (nm .i64 (r)) (Gd.yes rfl rfl (decide_eq_false h7)) rfl ?_
                refine i_index (m.add) (r) (Gd.yes rfl rfl (decide_eq_false h7)) Wi_tE22 rfl rfl (by omega) ?_
                refine i_loadI (m.add) (r) (Gd.yes rfl rfl (decide_eq_false h7)) Wi_tS3 rfl (by omega) ?_
                refine o_lss (a := ((m.add).getD (r) 0)) (c := ((-999999))) (Gd.yes rfl rfl (decide_eq_false h7)) rfl rfl ?_
                refine o_pickF (b := decide ((((999 : Nat) : Int)) < ((m.mul).getD (r) 0))) (bp (((m.add).getD (r) 0) < ((-999999)))) Gd.none rfl (decide_eq_false h7) rfl ?_
                refine o_move (bp (((m.add).getD (r) 0) < ((-999999)))) Gd.none rfl ?_
                refine o_splitP (q := ((m.add).getD (r) 0) < ((-999999))) 55 rfl (fun h8 => ?_) (fun h8 => ?_)
                · refine o_skip (b := decide (((m.add).getD (r) 0) < ((-999999)))) rfl rfl (decide_eq_true h8) ?_
                  refine o_skip (b := decide (((m.add).getD (r) 0) < ((-999999)))) rfl rfl (decide_eq_true h8) ?_
                  refine o_skip (b := decide (((m.add).getD (r) 0) < ((-999999)))) rfl rfl (decide_eq_true h8) ?_
                  refine o_skip (b := decide (((m.add).getD (r) 0) < ((-999999)))) rfl rfl (decide_eq_true h8) ?_
                  refine o_skip (b := decide (((m.add).getD (r) 0) < ((-999999)))) rfl rfl (decide_eq_true h8) ?_
                  refine o_skip (b := decide (((m.add).getD (r) 0) < ((-999999)))) rfl rfl (decide_eq_true h8) ?_
                  refine o_pickT (b := decide (((m.add).getD (r) 0) < ((-999999)))) (AV.lit (.bool true)) Gd.none rfl (decide_eq_true h8) rfl ?_
                  refine o_move (AV.lit (.bool true)) Gd.none rfl ?_
                  refine o_skip (b := true) rfl rfl rfl ?_
                  refine o_skip (b := true) rfl rfl rfl ?_
                  refine o_skip (b := true) rfl rfl rfl ?_
                  refine o_skip (b := true) rfl rfl rfl ?_
                  refine o_skip (b := true) rfl rfl rfl ?_
                  refine o_skip (b := true) rfl rfl rfl ?_
                  refine o_skip (b := true) rfl rfl rfl ?_
                  refine o_skip (b := true) rfl rfl rfl ?_
                  refine o_skip (b := true) rfl rfl rfl ?_
                  refine o_skip (b := true) rfl rfl rfl ?_
                  refine o_skip (b := true) rfl rfl rfl ?_
                  refine o_skip (b := true) rfl rfl rfl ?_
                  refine o_skip (b := true) rfl rfl rfl ?_
                  refine o_skip (b := true) rfl rfl rfl ?_
                  refine o_skip (b := true) rfl rfl rfl ?_
                  refine o_skip (b := true) rfl rfl rfl ?_
                  refine o_skip (b := true) rfl rfl rfl ?_
                  refine o_pickT (b := true) (AV.lit (.bool true)) Gd.none rfl rfl rfl ?_
                  refine aops_end ⟨by kernel_rfl, ?_⟩
                  refine hK13 _ ?_
                  refine awp_condB (b := true) rfl (fun _ => ?_) (fun hh => absurd (hh.symm.trans rfl) (by decide))
                  refine awp_seq fun K16 hK16 => ?_
                  refine awp_region rfl ?_
                  refine o_assign (AV.lit (.bool false)) Gd.none rfl ?_
                  refine aops_end ?_
                  refine hK16 _ ?_
                  refine awp_ret ?_
                  refine post_ret ⟨[(AV.lit (.bool false))], And.intro (AV.le_refl _) (trivial), rfl, ?_⟩
                  refine bl_eq (okM_no fun h => ?_)
                  obtain ⟨o1, o2, o3, o4, o5⟩ := h
                  first | omega | (have := o5 r (by omega); omega)
                · refine o_fieldRef 2 (Gd.yes rfl rfl (decide_eq_false h8)) Wi_tF24_2 rfl rfl ?_
                  refine o_loadS (AV.sl 1 (is .i64 (m.add))) (Gd.yes rfl rfl (decide_eq_false h8)) Wi_tS22 rfl rfl rfl ?_
                  refine o_move (nm .i64 (r)) (Gd.yes rfl rfl (decide_eq_false h8)) rfl ?_
                  refine i_index (m.add) (r) (Gd.yes rfl rfl (decide_eq_false h8)) Wi_tE22 rfl rfl (by omega) ?_
                  refine i_loadI (m.add) (r) (Gd.yes rfl rfl (decide_eq_false h8)) Wi_tS3 rfl (by omega) ?_
                  refine o_gtr (a := ((m.add).getD (r) 0)) (c := (((999999 : Nat) : Int))) (Gd.yes rfl rfl (decide_eq_false h8)) rfl rfl ?_
                  refine o_pickF (b := decide (((m.add).getD (r) 0) < ((-999999)))) (bp ((((999999 : Nat) : Int)) < ((m.add).getD (r) 0))) Gd.none rfl (decide_eq_false h8) rfl ?_
                  refine o_move (bp ((((999999 : Nat) : Int)) < ((m.add).getD (r) 0))) Gd.none rfl ?_
                  refine o_splitP (q := (((999999 : Nat) : Int)) < ((m.add).getD (r) 0)) 63 rfl (fun h9 => ?_) (fun h9 => ?_)
                  · refine o_skip (b := decide ((((999999 : Nat) : Int)) < ((m.add).getD (r) 0))) rfl rfl (decide_eq_true h9) ?_
                    refine o_skip (b := decide ((((999999 : Nat) : Int)) < ((m.add).getD (r) 0))) rfl rfl (decide_eq_true h9) ?_
                    refine o_skip (b := decide ((((999999 : Nat) : Int)) < ((m.add).getD (r) 0))) rfl rfl (decide_eq_true h9) ?_
                    refine o_skip (b := decide ((((999999 : Nat) : Int)) < ((m.add).getD (r) 0))) rfl rfl (decide_eq_true h9) ?_
                    refine o_skip (b := decide ((((999999 : Nat) : Int)) < ((m.add).getD (r) 0))) rfl rfl (decide_eq_true h9) ?_
                    refine o_skip (b := decide ((((999999 : Nat) : Int)) < ((m.add).getD (r) 0))) rfl rfl (decide_eq_true h9) ?_
                    refine o_skip (b := decide ((((999999 : Nat) : Int)) < ((m.add).getD (r) 0))) rfl rfl (decide_eq_true h9) ?_
                    refine o_skip (b := decide ((((999999 : Nat) : Int)) < ((m.add).getD (r) 0))) rfl rfl (decide_eq_true h9) ?_
                    refine o_skip (b := decide ((((999999 : Nat) : Int)) < ((m.add).getD (r) 0))) rfl rfl (decide_eq_true h9) ?_
                    refine o_skip (b := decide ((((999999 : Nat) : Int)) < ((m.add).getD (r) 0))) rfl rfl (decide_eq_true h9) ?_
                    refine o_skip (b := decide ((((999999 : Nat) : Int)) < ((m.add).getD (r) 0))) rfl rfl (decide_eq_true h9) ?_
                    refine o_skip (b := decide ((((999999 : Nat) : Int)) < ((m.add).getD (r) 0))) rfl rfl (decide_eq_true h9) ?_
                    refine o_skip (b := decide ((((999999 : Nat) : Int)) < ((m.add).getD (r) 0))) rfl rfl (decide_eq_true h9) ?_
                    refine o_skip (b := decide ((((999999 : Nat) : Int)) < ((m.add).getD (r) 0))) rfl rfl (decide_eq_true h9) ?_
                    refine o_skip (b := decide ((((999999 : Nat) : Int)) < ((m.add).getD (r) 0))) rfl rfl (decide_eq_true h9) ?_
                    refine o_skip (b := decide ((((999999 : Nat) : Int)) < ((m.add).getD (r) 0))) rfl rfl (decide_eq_true h9) ?_
                    refine o_skip (b := decide ((((999999 : Nat) : Int)) < ((m.add).getD (r) 0))) rfl rfl (decide_eq_true h9) ?_
                    refine o_pickT (b := decide ((((999999 : Nat) : Int)) < ((m.add).getD (r) 0))) (AV.lit (.bool true)) Gd.none rfl (decide_eq_true h9) rfl ?_
                    refine aops_end ⟨by kernel_rfl, ?_⟩
                    refine hK13 _ ?_
                    refine awp_condB (b := true) rfl (fun _ => ?_) (fun hh => absurd (hh.symm.trans rfl) (by decide))
                    refine awp_seq fun K17 hK17 => ?_
                    refine awp_region rfl ?_
                    refine o_assign (AV.lit (.bool false)) Gd.none rfl ?_
                    refine aops_end ?_
                    refine hK17 _ ?_
                    refine awp_ret ?_
                    refine post_ret ⟨[(AV.lit (.bool false))], And.intro (AV.le_refl _) (trivial), rfl, ?_⟩
                    refine bl_eq (okM_no fun h => ?_)
                    obtain ⟨o1, o2, o3, o4, o5⟩ := h
                    first | omega | (have := o5 r (by omega); omega)
                  · refine o_fieldRef 1 (Gd.yes rfl rfl (decide_eq_false h9)) Wi_tF24_1 rfl rfl ?_
                    refine o_loadS (AV.sl 1 (is .i64 (m.mul))) (Gd.yes rfl rfl (decide_eq_false h9)) Wi_tS22 rfl rfl rfl ?_
                    refine o_move (nm .i64 (r)) (Gd.yes rfl rfl (decide_eq_false h9)) rfl ?_
                    refine i_index (m.mul) (r) (Gd.yes rfl rfl (decide_eq_false h9)) Wi_tE22 rfl rfl (by omega) ?_
                    refine i_loadI (m.mul) (r) (Gd.yes rfl rfl (decide_eq_false h9)) Wi_tS3 rfl (by omega) ?_
                    refine o_move (nm .i64 (r)) (Gd.yes rfl rfl (decide_eq_false h9)) rfl ?_
                    refine o_mul (a := ((m.mul).getD (r) 0)) (c := (((r : Nat) : Int))) (Gd.yes rfl rfl (decide_eq_false h9)) rfl rfl (by have hm := mulb (a := (m.mul).getD (r) 0) (r := (r : Int)) (by omega) (by omega) (by omega) (by omega); exact wrap64 (by omega) (by omega)) ?_
                    refine o_fieldRef 2 (Gd.yes rfl rfl (decide_eq_false h9)) Wi_tF24_2 rfl rfl ?_
                    refine o_loadS (AV.sl 1 (is .i64 (m.add))) (Gd.yes rfl rfl (decide_eq_false h9)) Wi_tS22 rfl rfl rfl ?_
                    refine o_move (nm .i64 (r)) (Gd.yes rfl rfl (decide_eq_false h9)) rfl ?_
                    refine i_index (m.add) (r) (Gd.yes rfl rfl (decide_eq_false h9)) Wi_tE22 rfl rfl (by omega) ?_
                    refine i_loadI (m.add) (r) (Gd.yes rfl rfl (decide_eq_false h9)) Wi_tS3 rfl (by omega) ?_
                    refine o_add (a := (((m.mul).getD (r) 0) * (((r : Nat) : Int)))) (c := ((m.add).getD (r) 0)) (Gd.yes rfl rfl (decide_eq_false h9)) rfl rfl (by have hm := mulb (a := (m.mul).getD (r) 0) (r := (r : Int)) (by omega) (by omega) (by omega) (by omega); exact wrap64 (by omega) (by omega)) ?_
                    refine o_fieldRef 0 (Gd.yes rfl rfl (decide_eq_false h9)) Wi_tF24_0 rfl rfl ?_
                    refine o_loadS (AV.lit (.int .i64 (m.mod))) (Gd.yes rfl rfl (decide_eq_false h9)) Wi_tS3 rfl rfl rfl ?_
                    refine o_remT (a := ((((m.mul).getD (r) 0) * (((r : Nat) : Int))) + ((m.add).getD (r) 0))) (c := (m.mod)) (Gd.yes rfl rfl (decide_eq_false h9)) rfl rfl (by omega) ?_
                    refine o_neq (a := (Int.tmod ((((m.mul).getD (r) 0) * (((r : Nat) : Int))) + ((m.add).getD (r) 0)) (m.mod))) (c := (((0 : Nat) : Int))) (Gd.yes rfl rfl (decide_eq_false h9)) rfl rfl ?_
                    refine o_pickF (b := decide ((((999999 : Nat) : Int)) < ((m.add).getD (r) 0))) (bp ((Int.tmod ((((m.mul).getD (r) 0) * (((r : Nat) : Int))) + ((m.add).getD (r) 0)) (m.mod)) ≠ (((0 : Nat) : Int)))) Gd.none rfl (decide_eq_false h9) rfl ?_
                    refine aops_end ⟨by kernel_rfl, ?_⟩
                    refine hK13 _ ?_
                    refine awp_condQ (q := (Int.tmod ((((m.mul).getD (r) 0) * (((r : Nat) : Int))) + ((m.add).getD (r) 0)) (m.mod)) ≠ (((0 : Nat) : Int))) rfl (fun h10 => ?_) (fun h10 => ?_)
                    · refine awp_seq fun K18 hK18 => ?_
                      refine awp_region rfl ?_
                      refine o_assign (AV.lit (.bool false)) Gd.none rfl ?_
                      refine aops_end ?_
                      refine hK18 _ ?_
                      refine awp_ret ?_
                      refine post_ret ⟨[(AV.lit (.bool false))], And.intro (AV.le_refl _) (trivial), rfl, ?_⟩
                      refine bl_eq (okM_no fun h => ?_)
                      obtain ⟨o1, o2, o3, o4, o5⟩ := h
                      first | omega | (have := o5 r (by omega); omega)
                    · refine awp_skip ?_
                      refine hK11 _ ?_
                      refine awp_region rfl ?_
                      refine n_add (r) (1) Gd.none rfl rfl (by simp only [topOf]; omega) ?_
                      refine o_move (nm .i64 ((r) + (1))) Gd.none rfl ?_
                      refine aops_end ?_
                      refine ⟨_, _, ?lt, ⟨r + 1, (by omega), (fun i hi => by by_cases e : i = r; subst e; exact ⟨by omega, by omega, by omega, by omega, by omega⟩; exact hv i (by omega)), rfl, rfl⟩, ?wk⟩
                      case lt => omega
                      case wk => exact Wk.sub (And.intro (by exact rfl) (And.intro (by exact rfl) (And.intro (by first | rfl | exact congrArg (nm _) (by omega) | exact nm_int (by omega) | exact nm_int (by simp [IntKind.wrap, IntKind.bits, IntKind.signed]; omega)) (trivial)))) (And.intro (by first | rfl | exact row_ns (by simp) | exact congrArg (fun x => some (AO.blk (.stringIter _ x))) (by omega)) (trivial))
          · refine awp_exit ?_
            refine hK7 _ ?_
            refine awp_seq fun K19 hK19 => ?_
            refine awp_region rfl ?_
            refine o_assign (AV.lit (.bool true)) Gd.none rfl ?_
            refine aops_end ?_
            refine hK19 _ ?_
            refine awp_ret ?_
            refine post_ret ⟨[(AV.lit (.bool true))], And.intro (AV.le_refl _) (trivial), rfl, ?_⟩
            refine bl_eq (okM_yes ⟨by omega, by omega, by omega, by omega, fun i hi => hv i (by omega)⟩)

theorem c_sNext (m : MapM) (z : Int) (hm : OkM m) (hz : (digs z.natAbs).length ≤ 1000000) : ECalls cx 50 [(mapV m), (intW (z))] (.tup [intW (stepZ m z), .lit (.int .i64 (z % m.mod))]) := by
  refine ecalls_of_awp Tryd.func50 (c := _) rfl (Nat.le_of_ble_eq_true rfl) ?_
  show awp cx 40 _ (postF cx Tryd.f50 _) ⟨[(0, (mapV m)), (1, (intW (z)))], []⟩
  have hM := hm
  obtain ⟨o1, o2, o3, o4, o5⟩ := hm
  have hr0 := Int.emod_nonneg z (b := m.mod) (by omega)
  have hr1 := Int.emod_lt_of_pos z (b := m.mod) (by omega)
  have hr := o5 (z % m.mod).toNat (by omega)
  have hL1 := small_len (z := ((m.mul).getD ((z % m.mod).toNat) 0)) (by omega)
  have hL2 := small_len (z := ((m.add).getD ((z % m.mod).toNat) 0)) (by omega)
  have hL3 := len_mulZ z ((m.mul).getD ((z % m.mod).toNat) 0)
  have hL4 := len_addZ (z * ((m.mul).getD ((z % m.mod).toNat) 0)) ((m.add).getD ((z % m.mod).toNat) 0)
  have hmd : ((m.mod.toNat : Nat) : Int) = m.mod := Int.toNat_of_nonneg (by omega)
  refine awp_seq fun K0 hK0 => ?_
  refine awp_region rfl ?_
  refine o_box 2 [(AV.lit (.int .i64 (m.mod))), (AV.sl 1 (is .i64 (m.mul))), (AV.sl 1 (is .i64 (m.add)))] Gd.none rfl rfl ?_
  refine o_box 3 [(bp (z < 0)), (AV.sl 1 (ns .u32 (digs (z).natAbs)))] Gd.none rfl rfl ?_
  refine o_alloc 4 [(AV.lit (.bool false)), (AV.lit (.slice none 0 0))] Gd.none Wi_tO79 rfl rfl rfl ?_
  refine o_assign (nm .i64 (0)) Gd.none rfl ?_
  refine aops_end ?_
  refine hK0 _ ?_
  refine awp_seq fun K1 hK1 => ?_
  refine awp_region rfl ?_
  refine o_loadA [(bp (z < 0)), (AV.sl 1 (ns .u32 (digs (z).natAbs)))] Gd.none Wi_tA79 rfl rfl rfl rfl rfl ?_
  refine o_fieldRef 0 Gd.none Wi_tF24_0 rfl rfl ?_
  refine o_loadS (AV.lit (.int .i64 (m.mod))) Gd.none Wi_tS3 rfl rfl rfl ?_
  refine n_as (v' := (nm .i64 (m.mod.toNat))) (nm_int (by omega)) ?_
  refine o_call [(AV.agg [(bp (z < 0)), (AV.sl 1 (ns .u32 (digs (z).natAbs)))]), (nm .i64 (m.mod.toNat))] (AV.tup [(intW ((z / ((m.mod.toNat : Nat) : Int)))), (AV.lit (.int .i64 (z % ((m.mod.toNat : Nat) : Int))))]) Gd.none Wi_tC63 rfl (c_wQR (z) (m.mod.toNat) (by omega) (by omega) (by first | assumption | omega | (simp only [Int.natAbs_neg]; omega))) ?_
  refine o_move (AV.tup [(intW ((z / ((m.mod.toNat : Nat) : Int)))), (AV.lit (.int .i64 (z % ((m.mod.toNat : Nat) : Int))))]) Gd.none rfl ?_
  refine o_extract (intW ((z / ((m.mod.toNat : Nat) : Int)))) Gd.none rfl rfl ?_
  refine o_extract (AV.lit (.int .i64 (z % ((m.mod.toNat : Nat) : Int)))) Gd.none rfl rfl ?_
  refine n_as (v' := (nm .i64 ((z % m.mod).toNat))) (nm_int (by rw [hmd]; omega)) ?_
  refine o_alloc 5 [(AV.lit (.bool false)), (AV.lit (.slice none 0 0))] Gd.none Wi_tO79 rfl rfl rfl ?_
  refine o_store [(5, (AO.var 79 [(bp ((z / ((m.mod.toNat : Nat) : Int)) < 0)), (AV.sl 1 (ns .u32 (digs ((z / ((m.mod.toNat : Nat) : Int))).natAbs)))])), (4, (AO.var 79 [(AV.lit (.bool false)), (AV.lit (.slice none 0 0))])), (3, (AO.var 79 [(bp (z < 0)), (AV.sl 1 (ns .u32 (digs (z).natAbs)))])), (2, (AO.var 24 [(AV.lit (.int .i64 (m.mod))), (AV.sl 1 (is .i64 (m.mul))), (AV.sl 1 (is .i64 (m.add)))]))] Gd.none Wi_tZ79 rfl rfl rfl rfl rfl rfl ?_
  refine o_assign (nm .i64 ((z % m.mod).toNat)) Gd.none rfl ?_
  refine aops_end ?_
  refine hK1 _ ?_
  refine awp_seq fun K2 hK2 => ?_
  refine awp_regionD rfl ?_
  refine o_loadA [(bp (z < 0)), (AV.sl 1 (ns .u32 (digs (z).natAbs)))] Gd.none Wi_tA79 rfl rfl rfl rfl rfl ?_
  refine o_fieldRef 1 Gd.none Wi_tF24_1 rfl rfl ?_
  refine o_loadS (AV.sl 1 (is .i64 (m.mul))) Gd.none Wi_tS22 rfl rfl rfl ?_
  refine o_move (nm .i64 ((z % m.mod).toNat)) Gd.none rfl ?_
  refine n_as (v' := (nm .i64 ((z % m.mod).toNat))) (congrArg (nm _) (by omega)) ?_
  refine i_index (m.mul) ((z % m.mod).toNat) Gd.none Wi_tE22 rfl rfl (by omega) ?_
  refine i_loadI (m.mul) ((z % m.mod).toNat) Gd.none Wi_tS3 rfl (by omega) ?_
  refine o_call [(AV.lit (.int .i64 ((m.mul).getD ((z % m.mod).toNat) 0)))] (intW ((m.mul).getD ((z % m.mod).toNat) 0)) Gd.none Wi_tC59 rfl (c_wOf ((m.mul).getD ((z % m.mod).toNat) 0) (by first | decide | omega) (by first | decide | omega)) ?_
  refine o_call [(AV.agg [(bp (z < 0)), (AV.sl 1 (ns .u32 (digs (z).natAbs)))]), (intW ((m.mul).getD ((z % m.mod).toNat) 0))] (intW ((z * (m.mul).getD ((z % m.mod).toNat) 0))) Gd.none Wi_tC60 rfl (c_wMul (z) ((m.mul).getD ((z % m.mod).toNat) 0) (by first | assumption | omega | (simp only [Int.natAbs_neg]; omega)) (by first | assumption | omega | (simp only [Int.natAbs_neg]; omega))) ?_
  refine o_fieldRef 2 Gd.none Wi_tF24_2 rfl rfl ?_
  refine o_loadS (AV.sl 1 (is .i64 (m.add))) Gd.none Wi_tS22 rfl rfl rfl ?_
  refine o_move (nm .i64 ((z % m.mod).toNat)) Gd.none rfl ?_
  refine n_as (v' := (nm .i64 ((z % m.mod).toNat))) (congrArg (nm _) (by omega)) ?_
  refine i_index (m.add) ((z % m.mod).toNat) Gd.none Wi_tE22 rfl rfl (by omega) ?_
  refine i_loadI (m.add) ((z % m.mod).toNat) Gd.none Wi_tS3 rfl (by omega) ?_
  refine o_call [(AV.lit (.int .i64 ((m.add).getD ((z % m.mod).toNat) 0)))] (intW ((m.add).getD ((z % m.mod).toNat) 0)) Gd.none Wi_tC59 rfl (c_wOf ((m.add).getD ((z % m.mod).toNat) 0) (by first | decide | omega) (by first | decide | omega)) ?_
  refine o_call [(intW ((z * (m.mul).getD ((z % m.mod).toNat) 0))), (intW ((m.add).getD ((z % m.mod).toNat) 0))] (intW (((z * (m.mul).getD ((z % m.mod).toNat) 0) + (m.add).getD ((z % m.mod).toNat) 0))) Gd.none Wi_tC61 rfl (c_wAdd ((z * (m.mul).getD ((z % m.mod).toNat) 0)) ((m.add).getD ((z % m.mod).toNat) 0) (by first | assumption | omega | (simp only [Int.natAbs_neg]; omega)) (by first | assumption | omega | (simp only [Int.natAbs_neg]; omega))) ?_
  refine o_fieldRef 0 Gd.none Wi_tF24_0 rfl rfl ?_
  refine o_loadS (AV.lit (.int .i64 (m.mod))) Gd.none Wi_tS3 rfl rfl rfl ?_
  refine n_as (v' := (nm .i64 (m.mod.toNat))) (nm_int (by omega)) ?_
  refine o_call [(intW (((z * (m.mul).getD ((z % m.mod).toNat) 0) + (m.add).getD ((z % m.mod).toNat) 0))), (nm .i64 (m.mod.toNat))] (AV.tup [(intW ((((z * (m.mul).getD ((z % m.mod).toNat) 0) + (m.add).getD ((z % m.mod).toNat) 0) / ((m.mod.toNat : Nat) : Int)))), (AV.lit (.int .i64 (((z * (m.mul).getD ((z % m.mod).toNat) 0) + (m.add).getD ((z % m.mod).toNat) 0) % ((m.mod.toNat : Nat) : Int))))]) Gd.none Wi_tC63 rfl (c_wQR (((z * (m.mul).getD ((z % m.mod).toNat) 0) + (m.add).getD ((z % m.mod).toNat) 0)) (m.mod.toNat) (by omega) (by omega) (by first | assumption | omega | (simp only [Int.natAbs_neg]; omega))) ?_
  refine o_move (AV.tup [(intW ((((z * (m.mul).getD ((z % m.mod).toNat) 0) + (m.add).getD ((z % m.mod).toNat) 0) / ((m.mod.toNat : Nat) : Int)))), (AV.lit (.int .i64 (((z * (m.mul).getD ((z % m.mod).toNat) 0) + (m.add).getD ((z % m.mod).toNat) 0) % ((m.mod.toNat : Nat) : Int))))]) Gd.none rfl ?_
  refine o_extract (intW ((((z * (m.mul).getD ((z % m.mod).toNat) 0) + (m.add).getD ((z % m.mod).toNat) 0) / ((m.mod.toNat : Nat) : Int)))) Gd.none rfl rfl ?_
  refine o_extract (AV.lit (.int .i64 (((z * (m.mul).getD ((z % m.mod).toNat) 0) + (m.add).getD ((z % m.mod).toNat) 0) % ((m.mod.toNat : Nat) : Int)))) Gd.none rfl rfl ?_
  refine o_alloc 6 [(AV.lit (.bool false)), (AV.lit (.slice none 0 0))] Gd.none Wi_tO79 rfl rfl rfl ?_
  refine o_store [(6, (AO.var 79 [(bp ((((z * (m.mul).getD ((z % m.mod).toNat) 0) + (m.add).getD ((z % m.mod).toNat) 0) / ((m.mod.toNat : Nat) : Int)) < 0)), (AV.sl 1 (ns .u32 (digs ((((z * (m.mul).getD ((z % m.mod).toNat) 0) + (m.add).getD ((z % m.mod).toNat) 0) / ((m.mod.toNat : Nat) : Int))).natAbs)))])), (5, (AO.var 79 [(bp ((z / ((m.mod.toNat : Nat) : Int)) < 0)), (AV.sl 1 (ns .u32 (digs ((z / ((m.mod.toNat : Nat) : Int))).natAbs)))])), (4, (AO.var 79 [(AV.lit (.bool false)), (AV.lit (.slice none 0 0))])), (3, (AO.var 79 [(bp (z < 0)), (AV.sl 1 (ns .u32 (digs (z).natAbs)))])), (2, (AO.var 24 [(AV.lit (.int .i64 (m.mod))), (AV.sl 1 (is .i64 (m.mul))), (AV.sl 1 (is .i64 (m.add)))]))] Gd.none Wi_tZ79 rfl rfl rfl rfl rfl rfl ?_
  refine o_assign (AV.lit (.int .i64 (((z * (m.mul).getD ((z % m.mod).toNat) 0) + (m.add).getD ((z % m.mod).toNat) 0) % ((m.mod.toNat : Nat) : Int)))) Gd.none rfl ?_
  refine aops_end ⟨by kernel_rfl, ?_⟩
  refine hK2 _ ?_
  refine awp_seq fun K3 hK3 => ?_
  refine awp_region rfl ?_
  refine o_loadA [(bp ((((z * (m.mul).getD ((z % m.mod).toNat) 0) + (m.add).getD ((z % m.mod).toNat) 0) / ((m.mod.toNat : Nat) : Int)) < 0)), (AV.sl 1 (ns .u32 (digs ((((z * (m.mul).getD ((z % m.mod).toNat) 0) + (m.add).getD ((z % m.mod).toNat) 0) / ((m.mod.toNat : Nat) : Int))).natAbs)))] Gd.none Wi_tA79 rfl rfl rfl rfl rfl ?_
  refine o_move (nm .i64 ((z % m.mod).toNat)) Gd.none rfl ?_
  refine o_store [(6, (AO.var 79 [(bp ((((z * (m.mul).getD ((z % m.mod).toNat) 0) + (m.add).getD ((z % m.mod).toNat) 0) / ((m.mod.toNat : Nat) : Int)) < 0)), (AV.sl 1 (ns .u32 (digs ((((z * (m.mul).getD ((z % m.mod).toNat) 0) + (m.add).getD ((z % m.mod).toNat) 0) / ((m.mod.toNat : Nat) : Int))).natAbs)))])), (5, (AO.var 79 [(bp ((z / ((m.mod.toNat : Nat) : Int)) < 0)), (AV.sl 1 (ns .u32 (digs ((z / ((m.mod.toNat : Nat) : Int))).natAbs)))])), (4, (AO.var 79 [(bp ((((z * (m.mul).getD ((z % m.mod).toNat) 0) + (m.add).getD ((z % m.mod).toNat) 0) / ((m.mod.toNat : Nat) : Int)) < 0)), (AV.sl 1 (ns .u32 (digs ((((z * (m.mul).getD ((z % m.mod).toNat) 0) + (m.add).getD ((z % m.mod).toNat) 0) / ((m.mod.toNat : Nat) : Int))).natAbs)))])), (3, (AO.var 79 [(bp (z < 0)), (AV.sl 1 (ns .u32 (digs (z).natAbs)))])), (2, (AO.var 24 [(AV.lit (.int .i64 (m.mod))), (AV.sl 1 (is .i64 (m.mul))), (AV.sl 1 (is .i64 (m.add)))]))] Gd.none Wi_tZ79 rfl rfl rfl rfl rfl rfl ?_
  refine o_assign (nm .i64 ((z % m.mod).toNat)) Gd.none rfl ?_
  refine aops_end ?_
  refine hK3 _ ?_
  refine awp_ret ?_
  refine post_ret ⟨[(AV.agg [(bp ((((z * (m.mul).getD ((z % m.mod).toNat) 0) + (m.add).getD ((z % m.mod).toNat) 0) / ((m.mod.toNat : Nat) : Int)) < 0)), (AV.sl 1 (ns .u32 (digs ((((z * (m.mul).getD ((z % m.mod).toNat) 0) + (m.add).getD ((z % m.mod).toNat) 0) / ((m.mod.toNat : Nat) : Int))).natAbs)))]), (nm .i64 ((z % m.mod).toNat))], And.intro ⟨4, (AO.var 79 [(bp ((((z * (m.mul).getD ((z % m.mod).toNat) 0) + (m.add).getD ((z % m.mod).toNat) 0) / ((m.mod.toNat : Nat) : Int)) < 0)), (AV.sl 1 (ns .u32 (digs ((((z * (m.mul).getD ((z % m.mod).toNat) 0) + (m.add).getD ((z % m.mod).toNat) 0) / ((m.mod.toNat : Nat) : Int))).natAbs)))]), rfl, rfl, rfl, Or.inl ⟨Wi_tA79, AV.le_refl _⟩⟩ (And.intro (AV.le_refl _) (trivial)), rfl, ?_⟩
  exact tup_eq2 (congrArg (intK .u32) (by unfold stepZ; rw [hmd, Int.mul_comm z])) (int_nm (by omega)).symm

end Go.Proofs.YtbilndahjkimkaaDoor

set_option linter.unusedVariables false
set_option linter.unusedSimpArgs false
namespace Go.Proofs.YtbilndahjkimkaaDoor
open Go Go.Ab Go.Mth
theorem Wj_tO24 : tyZero cx.P 24 = some [(Go.Value.int IntKind.i64 0), (Go.Value.slice none 0 0), (Go.Value.slice none 0 0)] := by kernel_rfl
theorem Wj_tE22 : tyElem cx.P 22 = some (3, 1, 8) := by kernel_rfl
theorem Wj_tO3 : tyZero cx.P 3 = some [(Go.Value.int IntKind.i64 0)] := by kernel_rfl
theorem Wj_tP24 : tyPlaces cx.P 24 = some (fun i => (#[(0, 1), (1, 1), (2, 1)] : Array (Nat × Nat))[i]?) := by kernel_rfl
theorem Wj_tZ24 : tySize cx.P 24 = some 3 := by kernel_rfl
theorem Wj_tA24 : tyAgg cx.P 24 = some 3 := by kernel_rfl
theorem c_gCollatz  : ECalls cx 51 [] (mapV (kinM 3 1)) := by
  refine ecalls_of_awp Tryd.func51 (c := _) rfl (Nat.le_of_ble_eq_true rfl) ?_
  show awp cx 4 _ (postF cx Tryd.f51 _) ⟨[], []⟩
  refine awp_seq fun K0 hK0 => ?_
  refine awp_region rfl ?_
  refine o_alloc 2 [(nm .i64 (0)), (AV.lit (.slice none 0 0)), (AV.lit (.slice none 0 0))] Gd.none Wj_tO24 rfl rfl rfl ?_
  refine aops_end ?_
  refine hK0 _ ?_
  refine awp_seq fun K1 hK1 => ?_
  refine awp_region rfl ?_
  refine o_buildSlice 3 (ns .i64 ([1, 3])) [(0, [(nm .i64 (1))]), (1, [(nm .i64 (3))])] Gd.none Wj_tE22 rfl Wj_tO3 rfl rfl rfl rfl rfl rfl rfl ?_
  refine o_buildSlice 4 (ns .i64 ([0, 1])) [(0, [(nm .i64 (0))]), (1, [(nm .i64 (1))])] Gd.none Wj_tE22 rfl Wj_tO3 rfl rfl rfl rfl rfl rfl rfl ?_
  refine o_build [(nm .i64 (2)), (AV.row 3), (AV.row 4)] [(0, [(nm .i64 (2))]), (1, [(AV.row 3)]), (2, [(AV.row 4)])] Gd.none Wj_tP24 Wj_tO24 rfl rfl rfl ?_
  refine o_store [(4, (AO.row 3 1 (ns .i64 ([0, 1])))), (3, (AO.row 3 1 (ns .i64 ([1, 3])))), (2, (AO.var 24 [(nm .i64 (2)), (AV.row 3), (AV.row 4)]))] Gd.none Wj_tZ24 rfl rfl rfl rfl rfl rfl ?_
  refine aops_end ?_
  refine hK1 _ ?_
  refine awp_wk (σ' := ⟨[(0, (AV.ref 2 (0)))], [(2, (AO.var 24 [(nm .i64 (2)), (AV.row 3), (AV.row 4)])), (3, (AO.row 3 1 (ns .i64 ([1, 3])))), (4, (AO.row 3 1 (ns .i64 ([0, 1]))))]⟩) (Wk.sub (And.intro rfl (trivial)) (And.intro rfl (And.intro rfl (And.intro rfl (trivial))))) ?_
  refine awp_wk (σ' := ⟨[(0, (AV.ref 2 (0)))], [(2, (AO.var 24 [(nm .i64 (2)), (AV.sl 1 (ns .i64 ([1, 3]))), (AV.row 4)])), (4, (AO.row 3 1 (ns .i64 ([0, 1]))))]⟩) (Wk.freeze (id := 3) (e := 3) (sz := 1) (cs := (ns .i64 ([1, 3]))) rfl) ?_
  refine awp_wk (σ' := ⟨[(0, (AV.ref 2 (0)))], [(2, (AO.var 24 [(nm .i64 (2)), (AV.sl 1 (ns .i64 ([1, 3]))), (AV.sl 1 (ns .i64 ([0, 1])))]))]⟩) (Wk.freeze (id := 4) (e := 3) (sz := 1) (cs := (ns .i64 ([0, 1]))) rfl) ?_
  refine awp_ret ?_
  refine post_ret ⟨[(mapV (kinM 3 1))], And.intro ⟨2, (AO.var 24 [(nm .i64 (2)), (AV.sl 1 (ns .i64 ([1, 3]))), (AV.sl 1 (ns .i64 ([0, 1])))]), rfl, rfl, rfl, Or.inl ⟨Wj_tA24, AV.le_agg (LeL.cons (AV.le_refl _) (LeL.cons (AV.le_refl _) (LeL.cons (AV.le_refl _) (LeL.nil))))⟩⟩ (trivial), rfl, ?_⟩
  rfl

end Go.Proofs.YtbilndahjkimkaaDoor

set_option linter.unusedVariables false
namespace Go.Mth
open Go.Ab
def iterZ (m : MapM) : Nat → Int → Int
  | 0, z => z
  | k + 1, z => stepZ m (iterZ m k z)
def sbs (l : List ByteArray) : List AV := l.map fun s => .lit (.string s)
def strs (zs : List Int) : List AV := sbs (zs.map txt)
section
variable {C : Ctx} {ops : Array Oper} {s : List (Nat × AV)} {m : List (Nat × AO)} {os : List Oper} {K : List Eff → St → Prop} {d : Nat} {t : TypeId} {p : String} {af : Array Edge} {g : Option (Nat × Bool)}
end
def orbQ (m : MapM) (a : ByteArray) (k : Int) : Prop := okM m = true ∧ okS a = true ∧ 0 ≤ k ∧ k ≤ 1000
open Classical in
noncomputable def orbS (m : MapM) (a : ByteArray) (k : Int) : List Int := if okM m = true ∧ okS a = true ∧ 0 ≤ k ∧ k ≤ 1000 ∧ Fit (runZ m k.toNat (numS a)) then orbZ m k.toNat (numS a) else []
open Classical in
noncomputable def orbE (m : MapM) (a : ByteArray) (k : Int) : Nat := if okM m = true ∧ okS a = true then if 0 ≤ k ∧ k ≤ 1000 then if Fit (runZ m k.toNat (numS a)) then 0 else 3 else 2 else 1
noncomputable def runS (m : MapM) (a : ByteArray) (k : Int) : ByteArray := if okM m = true ∧ okS a = true ∧ 0 ≤ k ∧ k ≤ 20000 then toldS (runZ m k.toNat (numS a)) else { data := #[] }
noncomputable def runE (m : MapM) (a : ByteArray) (k : Int) : Nat := if okM m = true ∧ okS a = true then if 0 ≤ k ∧ k ≤ 20000 then toldE (runZ m k.toNat (numS a)) else 2 else 1
def fallF (m : MapM) (a : ByteArray) (k : Int) : Nat × Int × Nat := fallZ m (numS a) k.toNat (numS a) 1
noncomputable def fallK (m : MapM) (a : ByteArray) (k : Int) : Nat := if okM m = true ∧ okS a = true ∧ 1 ≤ k ∧ k ≤ 20000 then (fallF m a k).1 else 0
noncomputable def fallT (m : MapM) (a : ByteArray) (k : Int) : ByteArray := if okM m = true ∧ okS a = true ∧ 1 ≤ k ∧ k ≤ 20000 ∧ (fallF m a k).2.2 = 0 then txt (fallF m a k).2.1 else { data := #[] }
noncomputable def fallE (m : MapM) (a : ByteArray) (k : Int) : Nat := if okM m = true ∧ okS a = true then if 1 ≤ k ∧ k ≤ 20000 then (fallF m a k).2.2 else 2 else 1
end Go.Mth

