/- What the proof of a row of this seat leans on (part 5 of 6): a library of abstract values, walks of functions, and plain laws. -/
import Derived.Test.YtnejjdcbbminaaaGreatDoorPkFractionRestsd
set_option linter.unusedVariables false
set_option linter.unusedSimpArgs false
namespace Go.Proofs.YtnejjdcbbminaaaGreatDoor
open Go Go.Ab Go.Mth
theorem Yb_tO89 : tyZero cx.P 89 = some [(Go.Value.int IntKind.i64 0), (Go.Value.int IntKind.i64 0), (Go.Value.int IntKind.i64 0), (Go.Value.int IntKind.i64 0), (Go.Value.int IntKind.i64 0), (Go.Value.int IntKind.i64 0), (Go.Value.int IntKind.i64 0), (Go.Value.int IntKind.i64 0), (Go.Value.int IntKind.i64 0), (Go.Value.int IntKind.i64 0), (Go.Value.int IntKind.i64 0), (Go.Value.int IntKind.i64 0), (Go.Value.int IntKind.i64 0), (Go.Value.int IntKind.i64 0), (Go.Value.int IntKind.i64 0), (Go.Value.int IntKind.i64 0), (Go.Value.int IntKind.i64 0), (Go.Value.int IntKind.i64 0), (Go.Value.int IntKind.i64 0), (Go.Value.int IntKind.i64 0), (Go.Value.int IntKind.i64 0), (Go.Value.int IntKind.i64 0), (Go.Value.int IntKind.i64 0), (Go.Value.int IntKind.i64 0), (Go.Value.int IntKind.i64 0), (Go.Value.int IntKind.i64 0), (Go.Value.int IntKind.i64 0), (Go.Value.int IntKind.i64 0), (Go.Value.int IntKind.i64 0), (Go.Value.int IntKind.i64 0)] := by kernel_rfl
theorem Yb_tO3 : tyZero cx.P 3 = some [(Go.Value.int IntKind.i64 0)] := by kernel_rfl
theorem Yb_tZ3 : tySize cx.P 3 = some 1 := by kernel_rfl
theorem Yb_tS3 : tySc cx.P 3 = true := by kernel_rfl
theorem Yb_tR89 : tyArr cx.P 89 = some (30, 3, 1) := by kernel_rfl
theorem Yb_tC93 : callable cx.P 93 = true := by kernel_rfl
theorem Yb_tA89 : tyAgg cx.P 89 = some 30 := by kernel_rfl
theorem Yb_tZ89 : tySize cx.P 89 = some 30 := by kernel_rfl
theorem Yb_tC56 : callable cx.P 56 = true := by kernel_rfl
theorem Yb_tF24_0 : tyField cx.P 24 0 = some (0, 3) := by kernel_rfl
theorem Yb_tO52 : tyZero cx.P 52 = some [(Go.Value.string {data := #[]}), (Go.Value.string {data := #[]})] := by kernel_rfl
theorem Yb_tC82 : callable cx.P 82 = true := by kernel_rfl
theorem Yb_tP52 : tyPlaces cx.P 52 = some (fun i => (#[(0, 1), (1, 1)] : Array (Nat × Nat))[i]?) := by kernel_rfl
theorem Yb_tZ52 : tySize cx.P 52 = some 2 := by kernel_rfl
theorem Yb_tA52 : tyAgg cx.P 52 = some 2 := by kernel_rfl
theorem c_primes  : ECalls cx 56 [] (AV.agg (ns .i64 P30)) := by
  refine ecalls_of_awp Tryz.func56 (c := _) rfl (Nat.le_of_ble_eq_true rfl) ?_
  show awp cx 20 _ (postF cx Tryz.f56 _) ⟨[], []⟩
  refine awp_seq fun K0 hK0 => ?_
  refine awp_region rfl ?_
  refine o_alloc 2 [(nm .i64 (0)), (nm .i64 (0)), (nm .i64 (0)), (nm .i64 (0)), (nm .i64 (0)), (nm .i64 (0)), (nm .i64 (0)), (nm .i64 (0)), (nm .i64 (0)), (nm .i64 (0)), (nm .i64 (0)), (nm .i64 (0)), (nm .i64 (0)), (nm .i64 (0)), (nm .i64 (0)), (nm .i64 (0)), (nm .i64 (0)), (nm .i64 (0)), (nm .i64 (0)), (nm .i64 (0)), (nm .i64 (0)), (nm .i64 (0)), (nm .i64 (0)), (nm .i64 (0)), (nm .i64 (0)), (nm .i64 (0)), (nm .i64 (0)), (nm .i64 (0)), (nm .i64 (0)), (nm .i64 (0))] Gd.none Yb_tO89 rfl rfl rfl ?_
  refine aops_end ?_
  refine hK0 _ ?_
  refine awp_seq fun K1 hK1 => ?_
  refine awp_region rfl ?_
  refine o_alloc 3 [(nm .i64 (0)), (nm .i64 (0)), (nm .i64 (0)), (nm .i64 (0)), (nm .i64 (0)), (nm .i64 (0)), (nm .i64 (0)), (nm .i64 (0)), (nm .i64 (0)), (nm .i64 (0)), (nm .i64 (0)), (nm .i64 (0)), (nm .i64 (0)), (nm .i64 (0)), (nm .i64 (0)), (nm .i64 (0)), (nm .i64 (0)), (nm .i64 (0)), (nm .i64 (0)), (nm .i64 (0)), (nm .i64 (0)), (nm .i64 (0)), (nm .i64 (0)), (nm .i64 (0)), (nm .i64 (0)), (nm .i64 (0)), (nm .i64 (0)), (nm .i64 (0)), (nm .i64 (0)), (nm .i64 (0))] Gd.none Yb_tO89 rfl rfl rfl ?_
  refine aops_end ?_
  refine hK1 _ ?_
  refine awp_seq fun K2 hK2 => ?_
  refine awp_region rfl ?_
  refine o_alloc 4 [(nm .i64 (0))] Gd.none Yb_tO3 rfl rfl rfl ?_
  refine o_store [(4, (AO.var 3 [(nm .i64 (1))])), (3, (AO.var 89 [(nm .i64 (0)), (nm .i64 (0)), (nm .i64 (0)), (nm .i64 (0)), (nm .i64 (0)), (nm .i64 (0)), (nm .i64 (0)), (nm .i64 (0)), (nm .i64 (0)), (nm .i64 (0)), (nm .i64 (0)), (nm .i64 (0)), (nm .i64 (0)), (nm .i64 (0)), (nm .i64 (0)), (nm .i64 (0)), (nm .i64 (0)), (nm .i64 (0)), (nm .i64 (0)), (nm .i64 (0)), (nm .i64 (0)), (nm .i64 (0)), (nm .i64 (0)), (nm .i64 (0)), (nm .i64 (0)), (nm .i64 (0)), (nm .i64 (0)), (nm .i64 (0)), (nm .i64 (0)), (nm .i64 (0))])), (2, (AO.var 89 [(nm .i64 (0)), (nm .i64 (0)), (nm .i64 (0)), (nm .i64 (0)), (nm .i64 (0)), (nm .i64 (0)), (nm .i64 (0)), (nm .i64 (0)), (nm .i64 (0)), (nm .i64 (0)), (nm .i64 (0)), (nm .i64 (0)), (nm .i64 (0)), (nm .i64 (0)), (nm .i64 (0)), (nm .i64 (0)), (nm .i64 (0)), (nm .i64 (0)), (nm .i64 (0)), (nm .i64 (0)), (nm .i64 (0)), (nm .i64 (0)), (nm .i64 (0)), (nm .i64 (0)), (nm .i64 (0)), (nm .i64 (0)), (nm .i64 (0)), (nm .i64 (0)), (nm .i64 (0)), (nm .i64 (0))]))] Gd.none Yb_tZ3 rfl rfl rfl rfl rfl rfl ?_
  refine aops_end ?_
  refine hK2 _ ?_
  refine awp_seq fun K3 hK3 => ?_
  refine awp_seq fun K4 hK4 => ?_
  refine awp_region rfl ?_
  refine o_mv (nm .i64 (0)) rfl ?_
  refine aops_end ?_
  refine hK4 _ ?_
  refine awp_block ?_
  refine awp_loopR (fun κ σ => ∃ (i : Nat), (i ≤ 30) ∧ (30 - i) = κ ∧ σ = ⟨[(0, (AV.ref 2 (0))), (1, (AV.ref 3 (0))), (2, (AV.ref 4 (0))), (4, (nm .i64 (i)))], [(2, (AO.var 89 [(nm .i64 (0)), (nm .i64 (0)), (nm .i64 (0)), (nm .i64 (0)), (nm .i64 (0)), (nm .i64 (0)), (nm .i64 (0)), (nm .i64 (0)), (nm .i64 (0)), (nm .i64 (0)), (nm .i64 (0)), (nm .i64 (0)), (nm .i64 (0)), (nm .i64 (0)), (nm .i64 (0)), (nm .i64 (0)), (nm .i64 (0)), (nm .i64 (0)), (nm .i64 (0)), (nm .i64 (0)), (nm .i64 (0)), (nm .i64 (0)), (nm .i64 (0)), (nm .i64 (0)), (nm .i64 (0)), (nm .i64 (0)), (nm .i64 (0)), (nm .i64 (0)), (nm .i64 (0)), (nm .i64 (0))])), (3, (AO.var 89 (ns .i64 (arr i)))), (4, (AO.var 3 [(nm .i64 (prv i))]))]⟩) ⟨_, _, ⟨0, (by omega), rfl, rfl⟩, ?wk0⟩ ?rd0
  case wk0 =>
    exact Wk.sub (And.intro rfl (And.intro rfl (And.intro rfl (And.intro (by first | rfl | exact congrArg (nm _) (by omega) | exact nm_int (by omega) | exact nm_int (by simp [IntKind.wrap, IntKind.bits, IntKind.signed]; omega)) (trivial))))) (And.intro (by first | rfl | (first | (show some (AO.var _ (ns .i64 ((arr i).set i n))) = some (AO.var _ (ns .i64 (arr (i + 1)))); rw [hnE, arr_set i (by omega)]) | (rw [hnE]; rfl))) (And.intro (by first | rfl | (first | (show some (AO.var _ (ns .i64 ((arr i).set i n))) = some (AO.var _ (ns .i64 (arr (i + 1)))); rw [hnE, arr_set i (by omega)]) | (rw [hnE]; rfl))) (And.intro (by first | rfl | (first | (show some (AO.var _ (ns .i64 ((arr i).set i n))) = some (AO.var _ (ns .i64 (arr (i + 1)))); rw [hnE, arr_set i (by omega)]) | (rw [hnE]; rfl))) (trivial))))
  rintro κ _ ⟨i, hi, rfl, rfl⟩
  refine awp_seq fun K5 hK5 => ?_
  refine awp_region rfl ?_
  refine n_lss (i) (30) Gd.none rfl rfl ?_
  refine aops_end ?_
  refine hK5 _ ?_
  refine awp_seq fun K6 hK6 => ?_
  refine awp_condQ (q := (i) < (30)) rfl (fun h1 => ?_) (fun h1 => ?_)
  · have hu := p30_up i h1
    have hal2 := arr_len hi
    refine awp_skip ?_
    refine hK6 _ ?_
    refine awp_seq fun K7 hK7 => ?_
    refine awp_block ?_
    refine awp_seq fun K8 hK8 => ?_
    refine awp_region rfl ?_
    refine o_mv (nm .i64 (i)) rfl ?_
    refine o_as (nm .i64 (i)) rfl ?_
    refine aops_end ?_
    refine hK8 _ ?_
    refine awp_seq fun K9 hK9 => ?_
    refine awp_seq fun K10 hK10 => ?_
    refine awp_region rfl ?_
    refine o_loadS (nm .i64 (prv i)) Gd.none Yb_tS3 rfl rfl rfl ?_
    refine n_add (prv i) (1) Gd.none rfl rfl (by simp only [topOf]; omega) ?_
    refine o_store [(2, (AO.var 89 [(nm .i64 (0)), (nm .i64 (0)), (nm .i64 (0)), (nm .i64 (0)), (nm .i64 (0)), (nm .i64 (0)), (nm .i64 (0)), (nm .i64 (0)), (nm .i64 (0)), (nm .i64 (0)), (nm .i64 (0)), (nm .i64 (0)), (nm .i64 (0)), (nm .i64 (0)), (nm .i64 (0)), (nm .i64 (0)), (nm .i64 (0)), (nm .i64 (0)), (nm .i64 (0)), (nm .i64 (0)), (nm .i64 (0)), (nm .i64 (0)), (nm .i64 (0)), (nm .i64 (0)), (nm .i64 (0)), (nm .i64 (0)), (nm .i64 (0)), (nm .i64 (0)), (nm .i64 (0)), (nm .i64 (0))])), (3, (AO.var 89 (ns .i64 (arr i)))), (4, (AO.var 3 [(nm .i64 ((prv i) + (1)))]))] Gd.none Yb_tZ3 rfl rfl rfl rfl rfl rfl ?_
    refine aops_end ?_
    refine hK10 _ ?_
    refine awp_block ?_
    refine awp_loopR (fun κ σ => ∃ (n : Nat), (prv i < n) ∧ (n ≤ P30.getD i 0) ∧ (114 - n) = κ ∧ σ = ⟨[(0, (AV.ref 2 (0))), (1, (AV.ref 3 (0))), (2, (AV.ref 4 (0))), (3, (nm .i64 (i))), (4, (nm .i64 (i)))], [(2, (AO.var 89 [(nm .i64 (0)), (nm .i64 (0)), (nm .i64 (0)), (nm .i64 (0)), (nm .i64 (0)), (nm .i64 (0)), (nm .i64 (0)), (nm .i64 (0)), (nm .i64 (0)), (nm .i64 (0)), (nm .i64 (0)), (nm .i64 (0)), (nm .i64 (0)), (nm .i64 (0)), (nm .i64 (0)), (nm .i64 (0)), (nm .i64 (0)), (nm .i64 (0)), (nm .i64 (0)), (nm .i64 (0)), (nm .i64 (0)), (nm .i64 (0)), (nm .i64 (0)), (nm .i64 (0)), (nm .i64 (0)), (nm .i64 (0)), (nm .i64 (0)), (nm .i64 (0)), (nm .i64 (0)), (nm .i64 (0))])), (3, (AO.var 89 (ns .i64 (arr i)))), (4, (AO.var 3 [(nm .i64 (n))]))]⟩) ⟨_, _, ⟨prv i + 1, (by omega), (by omega), rfl, rfl⟩, ?wk1⟩ ?rd1
    case wk1 =>
      exact Wk.sub (And.intro rfl (And.intro rfl (And.intro rfl (And.intro rfl (And.intro rfl (trivial)))))) (And.intro rfl (And.intro rfl (And.intro (by first | rfl | (first | (show some (AO.var _ (ns .i64 ((arr i).set i n))) = some (AO.var _ (ns .i64 (arr (i + 1)))); rw [hnE, arr_set i (by omega)]) | (rw [hnE]; rfl))) (trivial))))
    rintro κ _ ⟨n, hn1, hn2, rfl, rfl⟩
    have hal : ((arr i).take i).length ≤ 30 := by rw [arr_take hi, List.length_take]; omega
    have hap : ∀ p ∈ (arr i).take i, 0 < p := by rw [arr_take hi]; exact fun p hp => p30_pos p (List.mem_of_mem_take hp)
    refine awp_seq fun K11 hK11 => ?_
    refine awp_seq fun K12 hK12 => ?_
    refine awp_region rfl ?_
    refine o_mv (nm .i64 (i)) rfl ?_
    refine n_sliceArr (0) (i) (0) (i) Gd.none Yb_tR89 rfl rfl rfl rfl (hi_nm rfl) (by omega) (by omega) (by first | rfl | simp) (by first | rfl | omega) ?_
    refine o_makeFunc [(AV.ref 4 (0))] Gd.none rfl ?_
    refine o_callV [(3, (AO.var 89 (ns .i64 (arr i)))), (4, (AO.var 3 [(nm .i64 (n))]))] [(AV.sl 1 (ns .i64 ((arr i).take (i)))), (AV.clo 96 [(AV.ip [(nm .i64 (n))])])] (.bool (decide (∃ x ∈ ((arr i).take (i)), (fun (p : Nat) => (n) % p = 0) x))) Gd.none Yb_tC93 rfl (And.intro rfl (And.intro (closedL_ns _ _) (And.intro rfl (And.intro rfl (trivial))))) rfl (by show [AV.frzV 4 _ (AV.frzV 3 _ (AV.vw 3 0 1 i)), _] = _; rw [frzV_vw (by omega)]; rfl) (c_hasPrm (n) ((arr i).take (i)) (by first | omega | assumption) (by assumption)) ?_
    refine aops_end ?_
    refine hK12 _ ?_
    refine awp_condQ (q := ∃ x ∈ ((arr i).take (i)), (fun (p : Nat) => (n) % p = 0) x) rfl (fun h2 => ?_) (fun h2 => ?_)
    · refine awp_skip ?_
      refine hK11 _ ?_
      refine awp_seq fun K13 hK13 => ?_
      refine awp_block ?_
      refine awp_skip ?_
      refine hK13 _ ?_
      refine awp_region rfl ?_
      refine o_loadS (nm .i64 (n)) Gd.none Yb_tS3 rfl rfl rfl ?_
      refine n_add (n) (1) Gd.none rfl rfl (by simp only [topOf]; omega) ?_
      refine o_store [(2, (AO.var 89 [(nm .i64 (0)), (nm .i64 (0)), (nm .i64 (0)), (nm .i64 (0)), (nm .i64 (0)), (nm .i64 (0)), (nm .i64 (0)), (nm .i64 (0)), (nm .i64 (0)), (nm .i64 (0)), (nm .i64 (0)), (nm .i64 (0)), (nm .i64 (0)), (nm .i64 (0)), (nm .i64 (0)), (nm .i64 (0)), (nm .i64 (0)), (nm .i64 (0)), (nm .i64 (0)), (nm .i64 (0)), (nm .i64 (0)), (nm .i64 (0)), (nm .i64 (0)), (nm .i64 (0)), (nm .i64 (0)), (nm .i64 (0)), (nm .i64 (0)), (nm .i64 (0)), (nm .i64 (0)), (nm .i64 (0))])), (3, (AO.var 89 (ns .i64 (arr i)))), (4, (AO.var 3 [(nm .i64 ((n) + (1)))]))] Gd.none Yb_tZ3 rfl rfl rfl rfl rfl rfl ?_
      refine aops_end ?_
      refine ⟨_, _, ?lt, ⟨n + 1, (by omega), (by have hne : n ≠ P30.getD i 0 := fun e => p30_miss i h1 (by rw [← arr_take hi, ← e]; exact h2); omega), rfl, rfl⟩, ?wk⟩
      case lt => omega
      case wk => exact Wk.sub (And.intro rfl (And.intro rfl (And.intro rfl (And.intro rfl (And.intro rfl (trivial)))))) (And.intro rfl (And.intro rfl (And.intro (by first | rfl | (first | (show some (AO.var _ (ns .i64 ((arr i).set i n))) = some (AO.var _ (ns .i64 (arr (i + 1)))); rw [hnE, arr_set i (by omega)]) | (rw [hnE]; rfl))) (trivial))))
    · have hnE : n = P30.getD i 0 := Nat.le_antisymm hn2 (Nat.not_lt.1 fun e => h2 (by rw [arr_take hi]; exact p30_hit i h1 n (by omega) hn1 e))
      refine awp_exit ?_
      refine hK9 _ ?_
      refine awp_region rfl ?_
      refine o_mv (nm .i64 (i)) rfl ?_
      refine o_loadS (nm .i64 (n)) Gd.none Yb_tS3 rfl rfl rfl ?_
      refine n_indexArr (i) (i) Gd.none Yb_tR89 rfl rfl (by omega) (by first | rfl | simp) ?_
      refine n_storeArr (arr i) (i) (n) [(2, (AO.var 89 [(nm .i64 (0)), (nm .i64 (0)), (nm .i64 (0)), (nm .i64 (0)), (nm .i64 (0)), (nm .i64 (0)), (nm .i64 (0)), (nm .i64 (0)), (nm .i64 (0)), (nm .i64 (0)), (nm .i64 (0)), (nm .i64 (0)), (nm .i64 (0)), (nm .i64 (0)), (nm .i64 (0)), (nm .i64 (0)), (nm .i64 (0)), (nm .i64 (0)), (nm .i64 (0)), (nm .i64 (0)), (nm .i64 (0)), (nm .i64 (0)), (nm .i64 (0)), (nm .i64 (0)), (nm .i64 (0)), (nm .i64 (0)), (nm .i64 (0)), (nm .i64 (0)), (nm .i64 (0)), (nm .i64 (0))])), (3, (AO.var 89 (ns .i64 ((arr i).set (i) (n))))), (4, (AO.var 3 [(nm .i64 (n))]))] Gd.none Yb_tZ3 rfl rfl rfl (by omega) rfl ?_
      refine aops_end ?_
      refine hK7 _ ?_
      refine awp_region rfl ?_
      refine n_add (i) (1) Gd.none rfl rfl (by simp only [topOf]; omega) ?_
      refine o_mv (nm .i64 ((i) + (1))) rfl ?_
      refine aops_end ?_
      refine ⟨_, _, ?lt, ⟨i + 1, (by omega), rfl, rfl⟩, ?wk⟩
      case lt => omega
      case wk => exact Wk.sub (And.intro rfl (And.intro rfl (And.intro rfl (And.intro (by first | rfl | exact congrArg (nm _) (by omega) | exact nm_int (by omega) | exact nm_int (by simp [IntKind.wrap, IntKind.bits, IntKind.signed]; omega)) (trivial))))) (And.intro rfl (And.intro (by first | rfl | (first | (show some (AO.var _ (ns .i64 ((arr i).set i n))) = some (AO.var _ (ns .i64 (arr (i + 1)))); rw [hnE, arr_set i (by omega)]) | (rw [hnE]; rfl))) (And.intro (by first | rfl | (first | (show some (AO.var _ (ns .i64 ((arr i).set i n))) = some (AO.var _ (ns .i64 (arr (i + 1)))); rw [hnE, arr_set i (by omega)]) | (rw [hnE]; rfl))) (trivial))))
  · have hal2 := arr_len hi
    refine awp_exit ?_
    refine hK3 _ ?_
    refine awp_seq fun K14 hK14 => ?_
    refine awp_region rfl ?_
    refine n_loadArrA (arr i) Gd.none Yb_tA89 rfl rfl (by exact hal2) ?_
    refine n_as (v' := (AV.agg (ns .i64 (P30)))) (by rw [show i = 30 by omega]; rfl) ?_
    refine n_storeArrA (P30) [(2, (AO.var 89 (ns .i64 (P30)))), (3, (AO.var 89 (ns .i64 (arr i)))), (4, (AO.var 3 [(nm .i64 (prv i))]))] Gd.none Yb_tZ89 rfl rfl rfl (by rfl) rfl rfl ?_
    refine aops_end ?_
    refine hK14 _ ?_
    refine awp_ret ?_
    refine post_ret ⟨[(AV.agg (ns .i64 (P30)))], And.intro ⟨2, (AO.var 89 (ns .i64 (P30))), rfl, rfl, rfl, Or.inl ⟨Yb_tA89, AV.le_refl _⟩⟩ (trivial), rfl, ?_⟩
    rfl

theorem c_own (m : Mac) (z : Int) (h0 : 0 ≤ m.regs + 2 * z) (h1 : m.regs + 2 * z < 30) (h2 : 0 ≤ m.regs) (h3 : m.regs ≤ 4) : ECalls cx 59 [(macV m), (AV.lit (.int .i64 (z)))] (nm .i64 (ownP m z)) := by
  refine ecalls_of_awp Tryz.func59 (c := _) rfl (Nat.le_of_ble_eq_true rfl) ?_
  show awp cx 12 _ (postF cx Tryz.f59 _) ⟨[(0, (macV m)), (1, (AV.lit (.int .i64 (z))))], []⟩
  refine awp_seq fun K0 hK0 => ?_
  refine awp_region rfl ?_
  refine o_box 2 [(AV.lit (.int .i64 (m.regs))), (AV.sl 4 (gcells cI (m.code)))] Gd.none rfl rfl ?_
  refine o_as (nm .i64 (0)) rfl ?_
  refine aops_end ?_
  refine hK0 _ ?_
  refine awp_seq fun K1 hK1 => ?_
  refine awp_regionD rfl ?_
  refine o_ct c_primes Gd.none Yb_tC56 rfl ?_
  refine o_fieldRef 0 Gd.none Yb_tF24_0 rfl rfl ?_
  refine o_loadS (AV.lit (.int .i64 (m.regs))) Gd.none Yb_tS3 rfl rfl rfl ?_
  refine o_mv (AV.lit (.int .i64 (z))) rfl ?_
  refine o_mul (a := (((2 : Nat) : Int))) (c := (z)) Gd.none rfl rfl (by exact wrap64 (by omega) (by omega)) ?_
  refine o_add (a := (m.regs)) (c := ((((2 : Nat) : Int)) * (z))) Gd.none rfl rfl (by exact wrap64 (by omega) (by omega)) ?_
  refine n_as (v' := (nm .i64 ((m.regs + 2 * z).toNat))) (nm_int (by omega)) ?_
  refine n_indexAgg (P30) ((m.regs + 2 * z).toNat) Gd.none Yb_tR89 Yb_tS3 rfl rfl (by rfl) (by omega) ?_
  refine o_as (nm .i64 ((P30).getD ((m.regs + 2 * z).toNat) 0)) rfl ?_
  refine aops_end ⟨by kernel_rfl, ?_⟩
  refine hK1 _ ?_
  refine awp_ret ?_
  refine post_ret ⟨[(nm .i64 ((P30).getD ((m.regs + 2 * z).toNat) 0))], And.intro (AV.le_refl _) (trivial), rfl, ?_⟩
  rfl

theorem c_twin (m : Mac) (z : Int) (h0 : 0 ≤ m.regs + 2 * z) (h1 : m.regs + 2 * z < 29) (h2 : 0 ≤ m.regs) (h3 : m.regs ≤ 4) : ECalls cx 58 [(macV m), (AV.lit (.int .i64 (z)))] (nm .i64 (twnP m z)) := by
  refine ecalls_of_awp Tryz.func58 (c := _) rfl (Nat.le_of_ble_eq_true rfl) ?_
  show awp cx 13 _ (postF cx Tryz.f58 _) ⟨[(0, (macV m)), (1, (AV.lit (.int .i64 (z))))], []⟩
  refine awp_seq fun K0 hK0 => ?_
  refine awp_region rfl ?_
  refine o_box 2 [(AV.lit (.int .i64 (m.regs))), (AV.sl 4 (gcells cI (m.code)))] Gd.none rfl rfl ?_
  refine o_as (nm .i64 (0)) rfl ?_
  refine aops_end ?_
  refine hK0 _ ?_
  refine awp_seq fun K1 hK1 => ?_
  refine awp_regionD rfl ?_
  refine o_ct c_primes Gd.none Yb_tC56 rfl ?_
  refine o_fieldRef 0 Gd.none Yb_tF24_0 rfl rfl ?_
  refine o_loadS (AV.lit (.int .i64 (m.regs))) Gd.none Yb_tS3 rfl rfl rfl ?_
  refine o_mv (AV.lit (.int .i64 (z))) rfl ?_
  refine o_mul (a := (((2 : Nat) : Int))) (c := (z)) Gd.none rfl rfl (by exact wrap64 (by omega) (by omega)) ?_
  refine o_add (a := (m.regs)) (c := ((((2 : Nat) : Int)) * (z))) Gd.none rfl rfl (by exact wrap64 (by omega) (by omega)) ?_
  refine o_add (a := ((m.regs) + ((((2 : Nat) : Int)) * (z)))) (c := (((1 : Nat) : Int))) Gd.none rfl rfl (by exact wrap64 (by omega) (by omega)) ?_
  refine n_as (v' := (nm .i64 ((m.regs + 2 * z + 1).toNat))) (nm_int (by omega)) ?_
  refine n_indexAgg (P30) ((m.regs + 2 * z + 1).toNat) Gd.none Yb_tR89 Yb_tS3 rfl rfl (by rfl) (by omega) ?_
  refine o_as (nm .i64 ((P30).getD ((m.regs + 2 * z + 1).toNat) 0)) rfl ?_
  refine aops_end ⟨by kernel_rfl, ?_⟩
  refine hK1 _ ?_
  refine awp_ret ?_
  refine post_ret ⟨[(nm .i64 ((P30).getD ((m.regs + 2 * z + 1).toNat) 0))], And.intro (AV.le_refl _) (trivial), rfl, ?_⟩
  rfl

theorem c_frac (a b : Nat) (ha : a ≤ 9223372036854775807) (hb : b ≤ 9223372036854775807) : ECalls cx 57 [(nm .i64 (a)), (nm .i64 (b))] (.agg [.lit (.string (txt ((a : Nat) : Int))), .lit (.string (txt ((b : Nat) : Int)))]) := by
  refine ecalls_of_awp Tryz.func57 (c := _) rfl (Nat.le_of_ble_eq_true rfl) ?_
  show awp cx 10 _ (postF cx Tryz.f57 _) ⟨[(0, (nm .i64 (a))), (1, (nm .i64 (b)))], []⟩
  refine awp_seq fun K0 hK0 => ?_
  refine awp_region rfl ?_
  refine o_alloc 2 [(AV.lit (.string (({data := #[]} : ByteArray)))), (AV.lit (.string (({data := #[]} : ByteArray))))] Gd.none Yb_tO52 rfl rfl rfl ?_
  refine aops_end ?_
  refine hK0 _ ?_
  refine awp_seq fun K1 hK1 => ?_
  refine awp_region rfl ?_
  refine o_mv (nm .i64 (a)) rfl ?_
  refine o_ct (c_itoa (a) (by omega)) Gd.none Yb_tC82 rfl ?_
  refine o_mv (nm .i64 (b)) rfl ?_
  refine o_ct (c_itoa (b) (by omega)) Gd.none Yb_tC82 rfl ?_
  refine o_build [(AV.lit (.string (txt ((a : Nat) : Int)))), (AV.lit (.string (txt ((b : Nat) : Int))))] [(0, [(AV.lit (.string (txt ((a : Nat) : Int))))]), (1, [(AV.lit (.string (txt ((b : Nat) : Int))))])] Gd.none Yb_tP52 Yb_tO52 rfl rfl rfl ?_
  refine o_store [(2, (AO.var 52 [(AV.lit (.string (txt ((a : Nat) : Int)))), (AV.lit (.string (txt ((b : Nat) : Int))))]))] Gd.none Yb_tZ52 rfl rfl rfl rfl rfl rfl ?_
  refine aops_end ?_
  refine hK1 _ ?_
  refine awp_ret ?_
  refine post_ret ⟨[(AV.agg [(AV.lit (.string (txt ((a : Nat) : Int)))), (AV.lit (.string (txt ((b : Nat) : Int))))])], And.intro ⟨2, (AO.var 52 [(AV.lit (.string (txt ((a : Nat) : Int)))), (AV.lit (.string (txt ((b : Nat) : Int))))]), rfl, rfl, rfl, Or.inl ⟨Yb_tA52, AV.le_refl _⟩⟩ (trivial), rfl, ?_⟩
  rfl

end Go.Proofs.YtnejjdcbbminaaaGreatDoor

set_option linter.unusedVariables false
set_option linter.unusedSimpArgs false
namespace Go.Mth
open Go.Ab
variable {a b c : ByteArray}
theorem cmpZ_zero (x y : Int) : cmpZ x y = 0 ↔ x = y := by unfold cmpZ; constructor <;> (repeat' split) <;> omega
theorem ok_zero : okS ⟨#[48]⟩ = true ∧ numS ⟨#[48]⟩ = 0 := ok_of_txt txt_nil (by decide)
noncomputable abbrev gG (a b : ByteArray) : ByteArray := if okS a && okS b then toldS ((Int.gcd (numS a) (numS b) : Nat) : Int) else { data := #[] }
theorem gcd_fit {x y : Int} (hx : Fit x) (hy : Fit y) : Fit ((Int.gcd x y : Nat) : Int) := by
  rcases Nat.eq_zero_or_pos x.natAbs with e | e
  · refine fit_le ?_ hy
    show Nat.gcd x.natAbs y.natAbs ≤ _
    rw [e, Nat.gcd_zero_left]
    exact Nat.le_refl _
  · exact fit_le (Nat.gcd_le_left y.natAbs e) hx
end Go.Mth

set_option linter.unusedVariables false
set_option linter.unusedSimpArgs false
namespace Go.Mth
open Go.Ab
theorem txt_sz2 {z : Int} (h : Fit z) : (txt z).size ≤ 9223372036854775807 := by have := told_sz z; rwa [(told_fit h).1] at this
end Go.Mth

set_option linter.unusedVariables false
set_option linter.unusedSimpArgs false
namespace Go.Mth
open Go.Ab
noncomputable def posE (a : ByteArray) : Nat := if okS a = true then (if 0 < numS a then 0 else 2) else 1
theorem posE_0 {a : ByteArray} : posE a = 0 ↔ okS a = true ∧ 0 < numS a := by
  unfold posE
  by_cases h : okS a = true <;> by_cases h2 : 0 < numS a <;> simp [h, h2]
theorem cmp_0 (a : ByteArray) (h : okS a = true) : (if okS a && okS ⟨#[48]⟩ then cmpZ (numS a) (numS ⟨#[48]⟩) else 0) = cmpZ (numS a) 0 := by
  rw [if_pos (by rw [h, ok_zero.1]; rfl), ok_zero.2]
theorem cmpZ_le {x y : Int} : cmpZ x y ≤ 0 ↔ x ≤ y := by unfold cmpZ; repeat' split <;> omega
def redP (f : Frc) : Prop := (okS f.num = true ∧ 0 < numS f.num) ∧ (okS f.den = true ∧ 0 < numS f.den) ∧ Int.gcd (numS f.num) (numS f.den) = 1
noncomputable instance (f : Frc) : Decidable (redP f) := by unfold redP; infer_instance
def lstP (l : List Frc) : Prop := l.length ≤ 100 ∧ ∀ f ∈ l, redP f
noncomputable instance (l : List Frc) : Decidable (lstP l) := by unfold lstP; infer_instance
noncomputable def askE (l : List Frc) (n : ByteArray) : Nat := if lstP l then posE n else 1
theorem askE_0 {l : List Frc} {n : ByteArray} : askE l n = 0 ↔ lstP l ∧ okS n = true ∧ 0 < numS n := by
  unfold askE
  by_cases h : lstP l
  · rw [if_pos h, posE_0]; exact ⟨fun e => ⟨h, e⟩, fun e => e.2⟩
  · rw [if_neg h]; exact ⟨fun e => absurd e (by decide), fun e => absurd e.1 h⟩
theorem gcd_str {a b : ByteArray} (h : okS a = true ∧ okS b = true) : (if okS a && okS b then toldS ((Int.gcd (numS a) (numS b) : Nat) : Int) else ({ data := #[] } : ByteArray)) = txt ((Int.gcd (numS a) (numS b) : Nat) : Int) := by
  rw [if_pos (by rw [h.1, h.2]; rfl)]
  exact (told_fit (gcd_fit (fit_numS (okS_iff.1 h.1)) (fit_numS (okS_iff.1 h.2)))).1
theorem gcd_one {a b : ByteArray} (h : okS a = true ∧ okS b = true) : (if okS a && okS b then toldS ((Int.gcd (numS a) (numS b) : Nat) : Int) else ({ data := #[] } : ByteArray)).toList = ByteArray.toList ⟨#[49]⟩ ↔ Int.gcd (numS a) (numS b) = 1 := by
  rw [gcd_str h, str_eq, ← txt_one]
  exact ⟨fun e => by have := txt_inj e; omega, fun e => by rw [e]; rfl⟩
theorem mul_str {a b : ByteArray} (h : okS a = true ∧ okS b = true) : (if okS a && okS b then toldS (numS a * numS b) else ({ data := #[] } : ByteArray)) = toldS (numS a * numS b) ∧ (if okS a && okS b then toldE (numS a * numS b) else 1) = toldE (numS a * numS b) :=
  ⟨if_pos (by rw [h.1, h.2]; rfl), if_pos (by rw [h.1, h.2]; rfl)⟩
def hitP (z : Int) (f : Frc) : Prop := z % numS f.den = 0
instance (z : Int) (f : Frc) : Decidable (hitP z f) := by unfold hitP; infer_instance
def fstI (l : List Frc) (z : Int) : Int := ixP (hitP z) l
def fstS (l : List Frc) (z : Int) : ByteArray := if ∃ f ∈ l, hitP z f then txt (z / numS (l.getD (fstI l z).toNat default).den) else { data := #[] }
theorem fst_hit {l : List Frc} {z : Int} {i : Nat} (hi : i < l.length) (h : hitP z (l.getD i default)) (hb : ∀ k, k < i → ¬ hitP z (l.getD k default)) : fstI l z = (i : Int) ∧ fstS l z = txt (z / numS (l.getD i default).den) := by
  have e : fstI l z = (i : Int) := ixP_hit hi h hb
  refine ⟨e, ?_⟩
  unfold fstS
  rw [if_pos (some_of hi h), e, Int.toNat_natCast]
theorem fst_none {l : List Frc} {z : Int} {i : Nat} (hi : l.length ≤ i) (hb : ∀ k, k < i → ¬ hitP z (l.getD k default)) : fstI l z = -1 ∧ fstS l z = { data := #[] } := by
  refine ⟨ixP_none hi hb, ?_⟩
  unfold fstS
  rw [if_neg (none_of hi fun k hk _ => hb k hk)]
theorem hit_str {l : List Frc} {i : Nat} {n : ByteArray} (hl : lstP l) (hn : okS n = true) (hi : i < l.length) : divQ n (l.getD i default).den = txt (numS n / numS (l.getD i default).den) ∧ ((divR n (l.getD i default).den).toList = ByteArray.toList ⟨#[48]⟩ ↔ hitP (numS n) (l.getD i default)) := by
  have h := (hl.2 _ (gdm (d := default) hi)).2.1
  obtain ⟨e1, e2, _⟩ := div_yes ⟨hn, h.1⟩ h.2
  refine ⟨e1, ?_⟩
  rw [e2, str_eq, ← txt_zero]
  exact ⟨fun e => txt_inj e, fun e => by rw [show numS n % numS (l.getD i default).den = 0 from e]⟩
theorem fstI_nn {l : List Frc} {z : Int} : (∃ f ∈ l, hitP z f) ↔ 0 ≤ fstI l z := ixP_nn
theorem fstI_bd {l : List Frc} {z : Int} (h : 0 ≤ fstI l z) : (fstI l z).toNat < l.length ∧ hitP z (l.getD (fstI l z).toNat default) := by
  have hx : ∃ x ∈ l, hitP z x := fstI_nn.2 h
  have e : fstI l z = (l.findIdx (fun x => decide (hitP z x)) : Int) := if_pos hx
  have hlt : l.findIdx (fun x => decide (hitP z x)) < l.length := by
    obtain ⟨x, hx, hp⟩ := hx
    exact List.findIdx_lt_length_of_exists ⟨x, hx, by simpa using hp⟩
  rw [e, Int.toNat_natCast]
  refine ⟨hlt, ?_⟩
  have := List.findIdx_getElem (w := hlt)
  rw [List.getD_eq_getElem?_getD, List.getElem?_eq_getElem hlt]
  simpa using this
noncomputable def firI (l : List Frc) (n : ByteArray) : Int := if askE l n = 0 ∧ 0 ≤ fstI l (numS n) then fstI l (numS n) else 0
noncomputable def firE (l : List Frc) (n : ByteArray) : Nat := if askE l n = 0 then (if 0 ≤ fstI l (numS n) then 0 else 4) else askE l n
def nxF (l : List Frc) (z : Int) : Int := z / numS (l.getD (fstI l z).toNat default).den * numS (l.getD (fstI l z).toNat default).num
noncomputable def ply (l : List Frc) : Nat → Int → Nat → ByteArray × Nat × Nat
  | 0, z, c => (txt z, c, 0)
  | k + 1, z, c => if 0 ≤ fstI l z then (if Fit (nxF l z) then ply l k (nxF l z) (c + 1) else ({ data := #[] }, 0, 3)) else (txt z, c, 0)
noncomputable def plyA (l : List Frc) (n : ByteArray) (k : Int) : ByteArray × Nat × Nat := if askE l n = 0 then (if 0 ≤ k ∧ k ≤ 20000 then ply l k.toNat (numS n) 0 else ({ data := #[] }, 0, 2)) else ({ data := #[] }, 0, askE l n)
theorem fst_str {l : List Frc} {z : Int} (hl : lstP l) (h : 0 ≤ fstI l z) (hz : 0 < z) (hf : Fit z) : fstS l z = txt (z / numS (l.getD (fstI l z).toNat default).den) ∧ Fit (z / numS (l.getD (fstI l z).toNat default).den) ∧ 0 < z / numS (l.getD (fstI l z).toNat default).den := by
  obtain ⟨h1, h2⟩ := fstI_bd h
  have h3 := (hl.2 _ (gdm (d := default) h1)).2.1.2
  refine ⟨if_pos (fstI_nn.2 h), fit_le ?_ hf, ?_⟩
  · rw [Int.natAbs_ediv_of_dvd (Int.dvd_of_emod_eq_zero h2)]; exact Nat.div_le_self _ _
  · exact Int.ediv_pos_of_pos_of_dvd hz (by omega) (Int.dvd_of_emod_eq_zero h2)
theorem ply_next {l : List Frc} {k i : Nat} {z : Int} (h : i < k) (hf : 0 ≤ fstI l z) (hF : Fit (nxF l z)) : ply l (k - i) z i = ply l (k - (i + 1)) (nxF l z) (i + 1) := by
  rw [show k - i = (k - (i + 1)) + 1 by omega]
  exact (if_pos hf).trans (if_pos hF)
theorem ply_big {l : List Frc} {k i : Nat} {z : Int} (h : i < k) (hf : 0 ≤ fstI l z) (hF : ¬ Fit (nxF l z)) : ply l (k - i) z i = ({ data := #[] }, 0, 3) := by
  rw [show k - i = (k - (i + 1)) + 1 by omega]
  exact (if_pos hf).trans (if_neg hF)
theorem ply_stop {l : List Frc} {k i : Nat} {z : Int} (h : i < k) (hf : ¬ 0 ≤ fstI l z) : ply l (k - i) z i = (txt z, i, 0) := by
  rw [show k - i = (k - (i + 1)) + 1 by omega]
  exact if_neg hf
theorem plyA_0 {l : List Frc} {n : ByteArray} {k : Int} (h : askE l n = 0) (h2 : 0 ≤ k ∧ k ≤ 20000) : plyA l n k = ply l k.toNat (numS n) 0 := (if_pos h).trans (if_pos h2)
theorem plyA_1 {l : List Frc} {n : ByteArray} {k : Int} (h : ¬ askE l n = 0) : plyA l n k = ({ data := #[] }, 0, askE l n) := if_neg h
theorem plyA_2 {l : List Frc} {n : ByteArray} {k : Int} (h : askE l n = 0) (h2 : ¬ (0 ≤ k ∧ k ≤ 20000)) : plyA l n k = ({ data := #[] }, 0, 2) := (if_pos h).trans (if_neg h2)
theorem tld_ok {z : Int} (h : ¬ toldE z ≠ 0) : Fit z := Decidable.not_not.1 fun e => h (by unfold toldE; rw [if_neg e]; decide)
theorem tld_big {z : Int} (h : toldE z ≠ 0) : ¬ Fit z := fun e => h (told_fit e).2
theorem tld_3 {z : Int} (h : ¬ Fit z) : toldE z = 3 := if_neg h
def cmX (o d : Int) : Int := o / ((Int.gcd o d : Nat) : Int) * d
noncomputable def com : List Frc → Int → ByteArray × Nat
  | [], o => (txt o, 0)
  | f :: r, o => if Fit (cmX o (numS f.den)) then com r (cmX o (numS f.den)) else ({ data := #[] }, 3)
noncomputable def comA (l : List Frc) : ByteArray × Nat := if lstP l then com l 1 else ({ data := #[] }, 1)
theorem com_drop {l : List Frc} {i : Nat} {o : Int} (h : i < l.length) : com (l.drop i) o = if Fit (cmX o (numS (l.getD i default).den)) then com (l.drop (i + 1)) (cmX o (numS (l.getD i default).den)) else ({ data := #[] }, 3) := by
  rw [List.drop_eq_getElem_cons h, show l.getD i default = l[i] by rw [List.getD_eq_getElem?_getD, List.getElem?_eq_getElem h]; rfl]
  rfl
theorem com_end {l : List Frc} {i : Nat} {o : Int} (h : l.length ≤ i) : com (l.drop i) o = (txt o, 0) := by rw [List.drop_of_length_le h]; rfl
theorem cm_gcd {a b : ByteArray} (h : okS a = true ∧ okS b = true) (h0 : 0 < numS a) : Fit ((Int.gcd (numS a) (numS b) : Nat) : Int) ∧ 0 < ((Int.gcd (numS a) (numS b) : Nat) : Int) ∧ divQ a (txt ((Int.gcd (numS a) (numS b) : Nat) : Int)) = txt (numS a / ((Int.gcd (numS a) (numS b) : Nat) : Int)) ∧ Fit (numS a / ((Int.gcd (numS a) (numS b) : Nat) : Int)) ∧ 0 < numS a / ((Int.gcd (numS a) (numS b) : Nat) : Int) := by
  have f := gcd_fit (fit_numS (okS_iff.1 h.1)) (fit_numS (okS_iff.1 h.2))
  have p : 0 < ((Int.gcd (numS a) (numS b) : Nat) : Int) := by
    have : 0 < Int.gcd (numS a) (numS b) := Int.gcd_pos_of_ne_zero_left _ (by omega)
    omega
  have d : ((Int.gcd (numS a) (numS b) : Nat) : Int) ∣ numS a := Int.gcd_dvd_left ..
  refine ⟨f, p, ?_, fit_le ?_ (fit_numS (okS_iff.1 h.1)), Int.ediv_pos_of_pos_of_dvd h0 (by omega) d⟩
  · have := (div_yes (a := a) (b := txt ((Int.gcd (numS a) (numS b) : Nat) : Int)) ⟨h.1, okS_iff.2 (okS_txt f)⟩ (by rw [numS_txt]; exact p)).1
    rwa [numS_txt] at this
  · rw [Int.natAbs_ediv_of_dvd d]; exact Nat.div_le_self _ _
end Go.Mth

set_option linter.unusedVariables false
set_option linter.unusedSimpArgs false
namespace Go.Proofs.YtnejjdcbbminaaaGreatDoor
open Go Go.Ab Go.Mth
theorem Yc_tC106 : callable cx.P 106 = true := by kernel_rfl
theorem Yc_tC115 : callable cx.P 115 = true := by kernel_rfl
theorem Yc_tF52_0 : tyField cx.P 52 0 = some (0, 9) := by kernel_rfl
theorem Yc_tS9 : tySc cx.P 9 = true := by kernel_rfl
theorem Yc_tC84 : callable cx.P 84 = true := by kernel_rfl
theorem Yc_tF52_1 : tyField cx.P 52 1 = some (1, 9) := by kernel_rfl
theorem Yc_tC76 : callable cx.P 76 = true := by kernel_rfl
theorem Yc_tA52 : tyAgg cx.P 52 = some 2 := by kernel_rfl
theorem Yc_tC104 : callable cx.P 104 = true := by kernel_rfl
theorem Yc_tU26 : cx.P.underlying 26 = some (.slice 52) := by kernel_rfl
theorem Yc_tE26 : tyElem cx.P 26 = some (52, 2, 32) := by kernel_rfl
theorem Yc_tC103 : callable cx.P 103 = true := by kernel_rfl
theorem Yc_tC120 : callable cx.P 120 = true := by kernel_rfl
theorem Yc_tC102 : callable cx.P 102 = true := by kernel_rfl
theorem Yc_tC75 : callable cx.P 75 = true := by kernel_rfl
theorem Yc_tO52 : tyZero cx.P 52 = some [(Go.Value.string {data := #[]}), (Go.Value.string {data := #[]})] := by kernel_rfl
theorem Yc_tZ52 : tySize cx.P 52 = some 2 := by kernel_rfl
theorem Yc_tC77 : callable cx.P 77 = true := by kernel_rfl
theorem Yc_tC70 : callable cx.P 70 = true := by kernel_rfl
theorem Yc_tC71 : callable cx.P 71 = true := by kernel_rfl
theorem c_positive (a : ByteArray) (ha : a.size ≤ 9223372036854775807) : ECalls cx 84 [(AV.lit (.string (a)))] (nm .i64 (posE a)) := by
  refine ecalls_of_awp Tryz.func84 (c := _) rfl (Nat.le_of_ble_eq_true rfl) ?_
  show awp cx 15 _ (postF cx Tryz.f84 _) ⟨[(0, (AV.lit (.string (a))))], []⟩
  refine awp_seq fun K0 hK0 => ?_
  refine awp_region rfl ?_
  refine o_as (nm .i64 (0)) rfl ?_
  refine aops_end ?_
  refine hK0 _ ?_
  refine awp_seq fun K1 hK1 => ?_
  refine awp_seq fun K2 hK2 => ?_
  refine awp_region rfl ?_
  refine o_mv (AV.lit (.string (a))) rfl ?_
  refine o_ct (c_nValid (a) (by first | assumption | decide | omega)) Gd.none Yc_tC106 rfl ?_
  refine o_not (b := okS (a)) Gd.none rfl ?_
  refine aops_end ?_
  refine hK2 _ ?_
  refine awp_condB (b := !(okS (a))) rfl (fun h1 => ?_) (fun h1 => ?_)
  · refine awp_seq fun K3 hK3 => ?_
    refine awp_region rfl ?_
    refine o_as (nm .i64 (1)) rfl ?_
    refine aops_end ?_
    refine hK3 _ ?_
    refine awp_ret ?_
    refine post_ret ⟨[(nm .i64 (1))], And.intro (AV.le_refl _) (trivial), rfl, ?_⟩
    exact congrArg (nm .i64) (if_neg (by simpa using h1))
  · refine awp_skip ?_
    refine hK1 _ ?_
    refine awp_seq fun K4 hK4 => ?_
    refine awp_seq fun K5 hK5 => ?_
    refine awp_region rfl ?_
    refine o_mv (AV.lit (.string (a))) rfl ?_
    refine o_ct (c_nCompare (a) (({data := #[48]} : ByteArray)) (by first | assumption | decide | omega) (by first | assumption | decide | omega)) Gd.none Yc_tC115 rfl ?_
    refine o_mv (AV.tup [(AV.lit (.int .i64 ((if okS (a) && okS (({data := #[48]} : ByteArray)) then (cmpZ (numS (a)) (numS (({data := #[48]} : ByteArray)))) else (0))))), (nm .i64 ((if okS (a) && okS (({data := #[48]} : ByteArray)) then (0) else (1))))]) rfl ?_
    refine o_extract (AV.lit (.int .i64 ((if okS (a) && okS (({data := #[48]} : ByteArray)) then (cmpZ (numS (a)) (numS (({data := #[48]} : ByteArray)))) else (0))))) Gd.none rfl rfl ?_
    refine o_extract (nm .i64 ((if okS (a) && okS (({data := #[48]} : ByteArray)) then (0) else (1)))) Gd.none rfl rfl ?_
    refine o_as (AV.lit (.int .i64 ((if okS (a) && okS (({data := #[48]} : ByteArray)) then (cmpZ (numS (a)) (numS (({data := #[48]} : ByteArray)))) else (0))))) rfl ?_
    refine o_as (nm .i64 ((if okS (a) && okS (({data := #[48]} : ByteArray)) then (0) else (1)))) rfl ?_
    refine aops_end ?_
    refine hK5 _ ?_
    refine awp_seq fun K6 hK6 => ?_
    refine awp_region rfl ?_
    refine o_mv (AV.lit (.int .i64 ((if okS (a) && okS (({data := #[48]} : ByteArray)) then (cmpZ (numS (a)) (numS (({data := #[48]} : ByteArray)))) else (0))))) rfl ?_
    refine o_leq (a := ((if okS (a) && okS (({data := #[48]} : ByteArray)) then (cmpZ (numS (a)) (numS (({data := #[48]} : ByteArray)))) else (0)))) (c := (((0 : Nat) : Int))) Gd.none rfl rfl ?_
    refine aops_end ?_
    refine hK6 _ ?_
    refine awp_condQ (q := ((if okS (a) && okS (({data := #[48]} : ByteArray)) then (cmpZ (numS (a)) (numS (({data := #[48]} : ByteArray)))) else (0))) ≤ (((0 : Nat) : Int))) rfl (fun h2 => ?_) (fun h2 => ?_)
    · refine awp_seq fun K7 hK7 => ?_
      refine awp_region rfl ?_
      refine o_as (nm .i64 (2)) rfl ?_
      refine aops_end ?_
      refine hK7 _ ?_
      refine awp_ret ?_
      refine post_ret ⟨[(nm .i64 (2))], And.intro (AV.le_refl _) (trivial), rfl, ?_⟩
      exact congrArg (nm .i64) ((if_pos (by simpa using h1)).trans (if_neg (fun e => absurd (cmpZ_le.1 (by rw [cmp_0 a (by simpa using h1)] at h2; exact h2)) (by omega))))
    · refine awp_skip ?_
      refine hK4 _ ?_
      refine awp_seq fun K8 hK8 => ?_
      refine awp_region rfl ?_
      refine o_as (nm .i64 (0)) rfl ?_
      refine aops_end ?_
      refine hK8 _ ?_
      refine awp_ret ?_
      refine post_ret ⟨[(nm .i64 (0))], And.intro (AV.le_refl _) (trivial), rfl, ?_⟩
      exact congrArg (nm .i64) ((if_pos (by simpa using h1)).trans (if_pos (by rw [cmp_0 a (by simpa using h1)] at h2; have := (not_congr cmpZ_le).1 h2; omega)))

theorem c_reduced (f : Frc) (hn : f.num.size ≤ 9223372036854775807) (hd : f.den.size ≤ 9223372036854775807) : ECalls cx 104 [(AV.agg [(AV.lit (.string ((f).num))), (AV.lit (.string ((f).den)))])] (bp (redP f)) := by
  refine ecalls_of_awp Tryz.func104 (c := _) rfl (Nat.le_of_ble_eq_true rfl) ?_
  show awp cx 25 _ (postF cx Tryz.f104 _) ⟨[(0, (AV.agg [(AV.lit (.string ((f).num))), (AV.lit (.string ((f).den)))]))], []⟩
  refine awp_seq fun K0 hK0 => ?_
  refine awp_region rfl ?_
  refine o_box 2 [(AV.lit (.string ((f).num))), (AV.lit (.string ((f).den)))] Gd.none rfl rfl ?_
  refine o_as (AV.lit (.bool false)) rfl ?_
  refine aops_end ?_
  refine hK0 _ ?_
  refine awp_seq fun K1 hK1 => ?_
  refine awp_seq fun K2 hK2 => ?_
  refine awp_region rfl ?_
  refine o_fieldRef 0 Gd.none Yc_tF52_0 rfl rfl ?_
  refine o_loadS (AV.lit (.string ((f).num))) Gd.none Yc_tS9 rfl rfl rfl ?_
  refine o_ct (c_positive ((f).num) (by first | assumption | decide | omega)) Gd.none Yc_tC84 rfl ?_
  refine n_neq (posE ((f).num)) (0) Gd.none rfl rfl ?_
  refine o_mv (bp ((posE ((f).num)) ≠ (0))) rfl ?_
  refine o_splitP (q := (posE ((f).num)) ≠ (0)) 9 rfl (fun h1 => ?_) (fun h1 => ?_)
  · refine o_skip rfl rfl (decide_eq_true h1) ?_
    refine o_skip rfl rfl (decide_eq_true h1) ?_
    refine o_skip rfl rfl (decide_eq_true h1) ?_
    refine o_skip rfl rfl (decide_eq_true h1) ?_
    refine o_pickT (AV.lit (.bool true)) Gd.none rfl (decide_eq_true h1) rfl ?_
    refine aops_end ?_
    refine hK2 _ ?_
    refine awp_condB (b := true) rfl (fun _ => ?_) (fun hh => absurd (hh.symm.trans rfl) (by decide))
    refine awp_seq fun K3 hK3 => ?_
    refine awp_region rfl ?_
    refine o_as (AV.lit (.bool false)) rfl ?_
    refine aops_end ?_
    refine hK3 _ ?_
    refine awp_ret ?_
    refine post_ret ⟨[(AV.lit (.bool false))], And.intro (AV.le_refl _) (trivial), rfl, ?_⟩
    exact bpn (fun o => h1 (posE_0.2 o.1))
  · refine o_fieldRef 1 (Gd.yes rfl rfl (decide_eq_false h1)) Yc_tF52_1 rfl rfl ?_
    refine o_loadS (AV.lit (.string ((f).den))) (Gd.yes rfl rfl (decide_eq_false h1)) Yc_tS9 rfl rfl rfl ?_
    refine o_ct (c_positive ((f).den) (by first | assumption | decide | omega)) (Gd.yes rfl rfl (decide_eq_false h1)) Yc_tC84 rfl ?_
    refine n_neq (posE ((f).den)) (0) (Gd.yes rfl rfl (decide_eq_false h1)) rfl rfl ?_
    refine o_pickF (bp ((posE ((f).den)) ≠ (0))) Gd.none rfl (decide_eq_false h1) rfl ?_
    refine aops_end ?_
    refine hK2 _ ?_
    refine awp_condQ (q := (posE ((f).den)) ≠ (0)) rfl (fun h2 => ?_) (fun h2 => ?_)
    · refine awp_seq fun K4 hK4 => ?_
      refine awp_region rfl ?_
      refine o_as (AV.lit (.bool false)) rfl ?_
      refine aops_end ?_
      refine hK4 _ ?_
      refine awp_ret ?_
      refine post_ret ⟨[(AV.lit (.bool false))], And.intro (AV.le_refl _) (trivial), rfl, ?_⟩
      exact bpn (fun o => h2 (posE_0.2 o.2.1))
    · refine awp_skip ?_
      refine hK1 _ ?_
      refine awp_seq fun K5 hK5 => ?_
      refine awp_region rfl ?_
      refine o_fieldRef 0 Gd.none Yc_tF52_0 rfl rfl ?_
      refine o_loadS (AV.lit (.string ((f).num))) Gd.none Yc_tS9 rfl rfl rfl ?_
      refine o_fieldRef 1 Gd.none Yc_tF52_1 rfl rfl ?_
      refine o_loadS (AV.lit (.string ((f).den))) Gd.none Yc_tS9 rfl rfl rfl ?_
      refine o_ct (c_nGcd ((f).num) ((f).den) (by first | assumption | decide | omega) (by first | assumption | decide | omega)) Gd.none Yc_tC76 rfl ?_
      refine o_mv (AV.tup [(AV.lit (.string ((if okS ((f).num) && okS ((f).den) then (toldS ((Int.gcd (numS ((f).num)) (numS ((f).den)) : Nat) : Int)) else (({ data := #[] } : ByteArray)))))), (nm .i64 ((if okS ((f).num) && okS ((f).den) then (toldE ((Int.gcd (numS ((f).num)) (numS ((f).den)) : Nat) : Int)) else (1))))]) rfl ?_
      refine o_extract (AV.lit (.string ((if okS ((f).num) && okS ((f).den) then (toldS ((Int.gcd (numS ((f).num)) (numS ((f).den)) : Nat) : Int)) else (({ data := #[] } : ByteArray)))))) Gd.none rfl rfl ?_
      refine o_extract (nm .i64 ((if okS ((f).num) && okS ((f).den) then (toldE ((Int.gcd (numS ((f).num)) (numS ((f).den)) : Nat) : Int)) else (1)))) Gd.none rfl rfl ?_
      refine o_as (AV.lit (.string ((if okS ((f).num) && okS ((f).den) then (toldS ((Int.gcd (numS ((f).num)) (numS ((f).den)) : Nat) : Int)) else (({ data := #[] } : ByteArray)))))) rfl ?_
      refine o_as (nm .i64 ((if okS ((f).num) && okS ((f).den) then (toldE ((Int.gcd (numS ((f).num)) (numS ((f).den)) : Nat) : Int)) else (1)))) rfl ?_
      refine aops_end ?_
      refine hK5 _ ?_
      refine awp_seq fun K6 hK6 => ?_
      refine awp_region rfl ?_
      refine o_mv (AV.lit (.string ((if okS ((f).num) && okS ((f).den) then (toldS ((Int.gcd (numS ((f).num)) (numS ((f).den)) : Nat) : Int)) else (({ data := #[] } : ByteArray)))))) rfl ?_
      refine o_eqlS (a := ((if okS ((f).num) && okS ((f).den) then (toldS ((Int.gcd (numS ((f).num)) (numS ((f).den)) : Nat) : Int)) else (({ data := #[] } : ByteArray))))) (c := (({data := #[49]} : ByteArray))) Gd.none rfl rfl ?_
      refine o_as (bp (((if okS ((f).num) && okS ((f).den) then (toldS ((Int.gcd (numS ((f).num)) (numS ((f).den)) : Nat) : Int)) else (({ data := #[] } : ByteArray)))).toList = (({data := #[49]} : ByteArray)).toList)) rfl ?_
      refine aops_end ?_
      refine hK6 _ ?_
      refine awp_ret ?_
      refine post_ret ⟨[(bp (((if okS ((f).num) && okS ((f).den) then (toldS ((Int.gcd (numS ((f).num)) (numS ((f).den)) : Nat) : Int)) else (({ data := #[] } : ByteArray)))).toList = (({data := #[49]} : ByteArray)).toList))], And.intro (AV.le_refl _) (trivial), rfl, ?_⟩
      exact bpc (by have g1 := posE_0.1 (Decidable.not_not.1 h1); have g2 := posE_0.1 (Decidable.not_not.1 h2); rw [gcd_one ⟨g1.1, g2.1⟩]; exact ⟨fun o => o.2.2, fun o => ⟨g1, g2, o⟩⟩)

theorem c_list1 (f : Frc) (hn : f.num.size ≤ 9223372036854775807) (hd : f.den.size ≤ 9223372036854775807) : ECalls cx 103 [(AV.agg [(AV.lit (.string ((f).num))), (AV.lit (.string ((f).den)))])] (bp (¬ redP f)) := by
  refine ecalls_of_awp Tryz.func103 (c := _) rfl (Nat.le_of_ble_eq_true rfl) ?_
  show awp cx 6 _ (postF cx Tryz.f103 _) ⟨[(0, (AV.agg [(AV.lit (.string ((f).num))), (AV.lit (.string ((f).den)))]))], []⟩
  refine awp_seq fun K0 hK0 => ?_
  refine awp_region rfl ?_
  refine o_box 2 [(AV.lit (.string ((f).num))), (AV.lit (.string ((f).den)))] Gd.none rfl rfl ?_
  refine o_as (AV.lit (.bool false)) rfl ?_
  refine aops_end ?_
  refine hK0 _ ?_
  refine awp_seq fun K1 hK1 => ?_
  refine awp_region rfl ?_
  refine o_loadA [(AV.lit (.string ((f).num))), (AV.lit (.string ((f).den)))] Gd.none Yc_tA52 rfl rfl rfl rfl rfl ?_
  refine o_ct (c_reduced (f) (by first | assumption | decide | omega) (by first | assumption | decide | omega)) Gd.none Yc_tC104 rfl ?_
  refine o_notP (q := redP (f)) Gd.none rfl ?_
  refine o_as (bp (¬ (redP (f)))) rfl ?_
  refine aops_end ?_
  refine hK1 _ ?_
  refine awp_ret ?_
  refine post_ret ⟨[(bp (¬ (redP (f))))], And.intro (AV.le_refl _) (trivial), rfl, ?_⟩
  rfl

theorem c_ixFrc (l : List Frc) (hl : l.length ≤ 100) (hS : ∀ f ∈ l, f.num.size ≤ 9223372036854775807 ∧ f.den.size ≤ 9223372036854775807) : ECalls cx 120 [(AV.sl 2 (gcells cF (l))), (AV.clo 103 [])] (.lit (.int .i64 (ixP (fun f => ¬ redP f) l))) := by
  refine ecalls_of_awp Tryz.func120 (c := _) rfl (Nat.le_of_ble_eq_true rfl) ?_
  show awp cx 19 _ (postF cx Tryz.f120 _) ⟨[(0, (AV.sl 2 (gcells cF (l)))), (1, (AV.clo 103 []))], []⟩
  refine awp_seq fun K0 hK0 => ?_
  refine awp_region rfl ?_
  refine o_as (nm .i64 (0)) rfl ?_
  refine aops_end ?_
  refine hK0 _ ?_
  refine awp_seq fun K1 hK1 => ?_
  refine awp_seq fun K2 hK2 => ?_
  refine awp_region rfl ?_
  refine o_mv (AV.sl 2 (gcells cF (l))) rfl ?_
  refine g_len cF (l) cF_len Gd.none Yc_tU26 rfl ?_
  refine o_mv (nm .i64 (0)) rfl ?_
  refine aops_end ?_
  refine hK2 _ ?_
  refine awp_block ?_
  refine awp_loopR (fun κ σ => ∃ (i : Nat), (i ≤ l.length) ∧ (∀ k, k < i → ¬ ((fun f => ¬ redP f) ((l).getD k default))) ∧ (l.length - i) = κ ∧ σ = ⟨[(0, (AV.sl 2 (gcells cF (l)))), (1, (AV.clo 103 [])), (7, (nm .i64 (l.length))), (8, (nm .i64 (i)))], []⟩) ⟨_, _, ⟨0, (by omega), (fun k hk => by omega), rfl, rfl⟩, ?wk0⟩ ?rd0
  case wk0 =>
    exact Wk.sub (And.intro rfl (And.intro rfl (And.intro (by first | rfl | exact congrArg (nm _) (by omega) | exact nm_int (by omega) | exact nm_int (by simp [IntKind.wrap, IntKind.bits, IntKind.signed]; omega)) (And.intro (by first | rfl | exact congrArg (nm _) (by omega) | exact nm_int (by omega) | exact nm_int (by simp [IntKind.wrap, IntKind.bits, IntKind.signed]; omega)) (trivial))))) (trivial)
  rintro κ _ ⟨i, hi, hb, rfl, rfl⟩
  refine awp_seq fun K3 hK3 => ?_
  refine awp_region rfl ?_
  refine n_lss (i) (l.length) Gd.none rfl rfl ?_
  refine aops_end ?_
  refine hK3 _ ?_
  refine awp_seq fun K4 hK4 => ?_
  refine awp_condQ (q := (i) < (l.length)) rfl (fun h1 => ?_) (fun h1 => ?_)
  · refine awp_skip ?_
    refine hK4 _ ?_
    refine awp_seq fun K5 hK5 => ?_
    refine awp_block ?_
    refine awp_seq fun K6 hK6 => ?_
    refine awp_region rfl ?_
    refine o_mv (nm .i64 (i)) rfl ?_
    refine o_as (nm .i64 (i)) rfl ?_
    refine aops_end ?_
    refine hK6 _ ?_
    refine awp_seq fun K7 hK7 => ?_
    refine awp_region rfl ?_
    refine o_mv (AV.clo 103 []) rfl ?_
    refine o_mv (AV.sl 2 (gcells cF (l))) rfl ?_
    refine o_mv (nm .i64 (i)) rfl ?_
    refine g_index cF (l) (i) cF_len rfl Gd.none Yc_tE26 rfl rfl (by omega) ?_
    refine g_loadA cF (l) (i) default cF_len Gd.none Yc_tA52 rfl (by omega) ?_
    refine o_callG [] [(AV.agg [(AV.lit (.string ((((l).getD (i) default)).num))), (AV.lit (.string ((((l).getD (i) default)).den)))])] _ (bp (¬ (redP (((l).getD (i) default))))) [] Gd.none Yc_tC103 rfl (trivial) rfl rfl (LeL.cons (AV.le_refl _) (LeL.nil)) (c_list1 (((l).getD (i) default)) (hS _ (gdm (by omega))).1 (hS _ (gdm (by omega))).2) rfl ?_
    refine aops_end ?_
    refine hK7 _ ?_
    refine awp_condQ (q := ¬ (redP (((l).getD (i) default)))) rfl (fun h2 => ?_) (fun h2 => ?_)
    · refine awp_seq fun K8 hK8 => ?_
      refine awp_region rfl ?_
      refine o_mv (nm .i64 (i)) rfl ?_
      refine o_as (nm .i64 (i)) rfl ?_
      refine aops_end ?_
      refine hK8 _ ?_
      refine awp_ret ?_
      refine post_ret ⟨[(nm .i64 (i))], And.intro (AV.le_refl _) (trivial), rfl, ?_⟩
      exact congrArg (fun z => AV.lit (.int .i64 z)) (ixP_hit (d := default) (by omega) (by assumption) hb)
    · refine awp_skip ?_
      refine hK5 _ ?_
      refine awp_region rfl ?_
      refine n_add (i) (1) Gd.none rfl rfl (by simp only [topOf]; omega) ?_
      refine o_mv (nm .i64 ((i) + (1))) rfl ?_
      refine aops_end ?_
      refine ⟨_, _, ?lt, ⟨i + 1, (by omega), (fun k hk => by rcases Nat.lt_or_ge k i with e | e; exact hb k e; rw [show k = i by omega]; assumption), rfl, rfl⟩, ?wk⟩
      case lt => omega
      case wk => exact Wk.sub (And.intro rfl (And.intro rfl (And.intro rfl (And.intro (by first | rfl | exact congrArg (nm _) (by omega) | exact nm_int (by omega) | exact nm_int (by simp [IntKind.wrap, IntKind.bits, IntKind.signed]; omega)) (trivial))))) (trivial)
  · refine awp_exit ?_
    refine hK1 _ ?_
    refine awp_seq fun K9 hK9 => ?_
    refine awp_region rfl ?_
    refine o_as (AV.lit (.int .i64 ((-1)))) rfl ?_
    refine aops_end ?_
    refine hK9 _ ?_
    refine awp_ret ?_
    refine post_ret ⟨[(AV.lit (.int .i64 ((-1))))], And.intro (AV.le_refl _) (trivial), rfl, ?_⟩
    exact congrArg (fun z => AV.lit (.int .i64 z)) (ixP_none (d := default) (by omega) hb)

theorem c_hasFrc (l : List Frc) (hl : l.length ≤ 100) (hS : ∀ f ∈ l, f.num.size ≤ 9223372036854775807 ∧ f.den.size ≤ 9223372036854775807) : ECalls cx 102 [(AV.sl 2 (gcells cF (l))), (AV.clo 103 [])] (bp (∃ x ∈ l, (fun f => ¬ redP f) x)) := by
  refine ecalls_of_awp Tryz.func102 (c := _) rfl (Nat.le_of_ble_eq_true rfl) ?_
  show awp cx 9 _ (postF cx Tryz.f102 _) ⟨[(0, (AV.sl 2 (gcells cF (l)))), (1, (AV.clo 103 []))], []⟩
  refine awp_seq fun K0 hK0 => ?_
  refine awp_region rfl ?_
  refine o_as (AV.lit (.bool false)) rfl ?_
  refine aops_end ?_
  refine hK0 _ ?_
  refine awp_seq fun K1 hK1 => ?_
  refine awp_region rfl ?_
  refine o_mv (AV.sl 2 (gcells cF (l))) rfl ?_
  refine o_mv (AV.clo 103 []) rfl ?_
  refine o_ct (c_ixFrc (l) (by omega) (by assumption)) Gd.none Yc_tC120 rfl ?_
  refine o_geq (a := (ixP (fun f => ¬ redP f) (l))) (c := (((0 : Nat) : Int))) Gd.none rfl rfl ?_
  refine o_as (bp ((((0 : Nat) : Int)) ≤ (ixP (fun f => ¬ redP f) (l)))) rfl ?_
  refine aops_end ?_
  refine hK1 _ ?_
  refine awp_ret ?_
  refine post_ret ⟨[(bp ((((0 : Nat) : Int)) ≤ (ixP (fun f => ¬ redP f) (l))))], And.intro (AV.le_refl _) (trivial), rfl, ?_⟩
  exact bpc (ixP_nn (p := fun f => ¬ redP f))

theorem c_list (l : List Frc) (hS : ∀ f ∈ l, f.num.size ≤ 9223372036854775807 ∧ f.den.size ≤ 9223372036854775807) : ECalls cx 75 [(AV.sl 2 (gcells cF (l)))] (bp (lstP l)) := by
  refine ecalls_of_awp Tryz.func75 (c := _) rfl (Nat.le_of_ble_eq_true rfl) ?_
  show awp cx 11 _ (postF cx Tryz.f75 _) ⟨[(0, (AV.sl 2 (gcells cF (l))))], []⟩
  refine awp_seq fun K0 hK0 => ?_
  refine awp_region rfl ?_
  refine o_as (AV.lit (.bool false)) rfl ?_
  refine aops_end ?_
  refine hK0 _ ?_
  refine awp_seq fun K1 hK1 => ?_
  refine awp_region rfl ?_
  refine o_mv (AV.sl 2 (gcells cF (l))) rfl ?_
  refine g_len cF (l) cF_len Gd.none Yc_tU26 rfl ?_
  refine n_leq ((l).length) (100) Gd.none rfl rfl ?_
  refine o_mv (bp (((l).length) ≤ (100))) rfl ?_
  refine o_splitP (q := ((l).length) ≤ (100)) 6 rfl (fun h1 => ?_) (fun h1 => ?_)
  · refine o_move (AV.sl 2 (gcells cF (l))) (Gd.yes rfl rfl (decide_eq_true h1)) rfl ?_
    refine o_ct (c_hasFrc (l) (by omega) (by assumption)) (Gd.yes rfl rfl (decide_eq_true h1)) Yc_tC102 rfl ?_
    refine o_notP (q := ∃ x ∈ (l), (fun f => ¬ redP f) x) (Gd.yes rfl rfl (decide_eq_true h1)) rfl ?_
    refine o_pickT (bp (¬ (∃ x ∈ (l), (fun f => ¬ redP f) x))) Gd.none rfl (decide_eq_true h1) rfl ?_
    refine o_as (bp (¬ (∃ x ∈ (l), (fun f => ¬ redP f) x))) rfl ?_
    refine aops_end ?_
    refine hK1 _ ?_
    refine awp_ret ?_
    refine post_ret ⟨[(bp (¬ (∃ x ∈ (l), (fun f => ¬ redP f) x)))], And.intro (AV.le_refl _) (trivial), rfl, ?_⟩
    first | exact bpn (fun o => absurd o.1 (by omega)) | exact bpc ⟨fun o => (by rintro ⟨x, hx, hn⟩; exact hn (o.2 x hx)), fun o => ⟨by omega, fun x hx => Decidable.not_not.1 fun hn => o ⟨x, hx, hn⟩⟩⟩
  · refine o_skip rfl rfl (decide_eq_false h1) ?_
    refine o_skip rfl rfl (decide_eq_false h1) ?_
    refine o_skip rfl rfl (decide_eq_false h1) ?_
    refine o_pickF (AV.lit (.bool false)) Gd.none rfl (decide_eq_false h1) rfl ?_
    refine o_as (AV.lit (.bool false)) rfl ?_
    refine aops_end ?_
    refine hK1 _ ?_
    refine awp_ret ?_
    refine post_ret ⟨[(AV.lit (.bool false))], And.intro (AV.le_refl _) (trivial), rfl, ?_⟩
    first | exact bpn (fun o => absurd o.1 (by omega)) | exact bpc ⟨fun o => (by rintro ⟨x, hx, hn⟩; exact hn (o.2 x hx)), fun o => ⟨by omega, fun x hx => Decidable.not_not.1 fun hn => o ⟨x, hx, hn⟩⟩⟩

theorem c_asks (l : List Frc) (n : ByteArray) (hS : ∀ f ∈ l, f.num.size ≤ 9223372036854775807 ∧ f.den.size ≤ 9223372036854775807) (hn : n.size ≤ 9223372036854775807) : ECalls cx 70 [(AV.sl 2 (gcells cF (l))), (AV.lit (.string (n)))] (nm .i64 (askE l n)) := by
  refine ecalls_of_awp Tryz.func70 (c := _) rfl (Nat.le_of_ble_eq_true rfl) ?_
  show awp cx 10 _ (postF cx Tryz.f70 _) ⟨[(0, (AV.sl 2 (gcells cF (l)))), (1, (AV.lit (.string (n))))], []⟩
  refine awp_seq fun K0 hK0 => ?_
  refine awp_region rfl ?_
  refine o_as (nm .i64 (0)) rfl ?_
  refine aops_end ?_
  refine hK0 _ ?_
  refine awp_seq fun K1 hK1 => ?_
  refine awp_seq fun K2 hK2 => ?_
  refine awp_region rfl ?_
  refine o_mv (AV.sl 2 (gcells cF (l))) rfl ?_
  refine o_ct (c_list (l) (by assumption)) Gd.none Yc_tC75 rfl ?_
  refine o_notP (q := lstP (l)) Gd.none rfl ?_
  refine aops_end ?_
  refine hK2 _ ?_
  refine awp_condQ (q := ¬ (lstP (l))) rfl (fun h1 => ?_) (fun h1 => ?_)
  · refine awp_seq fun K3 hK3 => ?_
    refine awp_region rfl ?_
    refine o_as (nm .i64 (1)) rfl ?_
    refine aops_end ?_
    refine hK3 _ ?_
    refine awp_ret ?_
    refine post_ret ⟨[(nm .i64 (1))], And.intro (AV.le_refl _) (trivial), rfl, ?_⟩
    exact congrArg (nm .i64) (if_neg (by assumption))
  · refine awp_skip ?_
    refine hK1 _ ?_
    refine awp_seq fun K4 hK4 => ?_
    refine awp_region rfl ?_
    refine o_mv (AV.lit (.string (n))) rfl ?_
    refine o_ct (c_positive (n) (by first | assumption | decide | omega)) Gd.none Yc_tC84 rfl ?_
    refine o_as (nm .i64 (posE (n))) rfl ?_
    refine aops_end ?_
    refine hK4 _ ?_
    refine awp_ret ?_
    refine post_ret ⟨[(nm .i64 (posE (n)))], And.intro (AV.le_refl _) (trivial), rfl, ?_⟩
    exact congrArg (nm .i64) (if_pos (Decidable.not_not.1 (by assumption)))

theorem c_first (l : List Frc) (n : ByteArray) (hS : ∀ f ∈ l, f.num.size ≤ 9223372036854775807 ∧ f.den.size ≤ 9223372036854775807) (hl : lstP l) (hk : okS n = true) (hn : n.size ≤ 9223372036854775807) : ECalls cx 71 [(AV.sl 2 (gcells cF (l))), (AV.lit (.string (n)))] (.tup [.lit (.int .i64 (fstI l (numS n))), .lit (.string (fstS l (numS n)))]) := by
  refine ecalls_of_awp Tryz.func71 (c := _) rfl (Nat.le_of_ble_eq_true rfl) ?_
  show awp cx 31 _ (postF cx Tryz.f71 _) ⟨[(0, (AV.sl 2 (gcells cF (l)))), (1, (AV.lit (.string (n))))], []⟩
  refine awp_seq fun K0 hK0 => ?_
  refine awp_region rfl ?_
  refine o_as (nm .i64 (0)) rfl ?_
  refine o_as (AV.lit (.string (({data := #[]} : ByteArray)))) rfl ?_
  refine aops_end ?_
  refine hK0 _ ?_
  refine awp_seq fun K1 hK1 => ?_
  refine awp_seq fun K2 hK2 => ?_
  refine awp_region rfl ?_
  refine o_mv (AV.sl 2 (gcells cF (l))) rfl ?_
  refine g_len cF (l) cF_len Gd.none Yc_tU26 rfl ?_
  refine o_mv (nm .i64 (0)) rfl ?_
  refine aops_end ?_
  refine hK2 _ ?_
  refine awp_block ?_
  refine awp_loopR (fun κ σ => ∃ (i : Nat), (i ≤ l.length) ∧ (∀ k, k < i → ¬ hitP (numS n) (l.getD k default)) ∧ (l.length - i) = κ ∧ σ = ⟨[(1, (AV.lit (.string (n)))), (11, (AV.sl 2 (gcells cF (l)))), (12, (nm .i64 (l.length))), (13, (nm .i64 (i)))], []⟩) ⟨_, _, ⟨0, (by omega), (fun k hk => by omega), rfl, rfl⟩, ?wk0⟩ ?rd0
  case wk0 =>
    exact Wk.sub (And.intro rfl (And.intro rfl (And.intro (by first | rfl | exact congrArg (nm _) (by omega) | exact nm_int (by omega) | exact nm_int (by simp [IntKind.wrap, IntKind.bits, IntKind.signed]; omega)) (And.intro (by first | rfl | exact congrArg (nm _) (by omega) | exact nm_int (by omega) | exact nm_int (by simp [IntKind.wrap, IntKind.bits, IntKind.signed]; omega)) (trivial))))) (trivial)
  rintro κ _ ⟨i, hi, hb, rfl, rfl⟩
  have hl1 := hl.1
  refine awp_seq fun K3 hK3 => ?_
  refine awp_region rfl ?_
  refine n_lss (i) (l.length) Gd.none rfl rfl ?_
  refine aops_end ?_
  refine hK3 _ ?_
  refine awp_seq fun K4 hK4 => ?_
  refine awp_condQ (q := (i) < (l.length)) rfl (fun h1 => ?_) (fun h1 => ?_)
  · have hq := hit_str hl hk h1
    have hSi := hS _ (gdm (d := default) h1)
    have hSd := hSi.2
    refine awp_skip ?_
    refine hK4 _ ?_
    refine awp_seq fun K5 hK5 => ?_
    refine awp_block ?_
    refine awp_seq fun K6 hK6 => ?_
    refine awp_region rfl ?_
    refine o_mv (nm .i64 (i)) rfl ?_
    refine g_index cF (l) (i) cF_len rfl Gd.none Yc_tE26 rfl rfl (by omega) ?_
    refine g_loadA cF (l) (i) default cF_len Gd.none Yc_tA52 rfl (by omega) ?_
    refine o_alloc 101 [(AV.lit (.string (({data := #[]} : ByteArray)))), (AV.lit (.string (({data := #[]} : ByteArray))))] Gd.none Yc_tO52 rfl rfl rfl ?_
    refine o_as (nm .i64 (i)) rfl ?_
    refine o_store [(101, (AO.var 52 [(AV.lit (.string ((((l).getD (i) default)).num))), (AV.lit (.string ((((l).getD (i) default)).den)))]))] Gd.none Yc_tZ52 rfl rfl rfl rfl rfl rfl ?_
    refine aops_end ?_
    refine hK6 _ ?_
    refine awp_seq fun K7 hK7 => ?_
    refine awp_region rfl ?_
    refine o_mv (AV.lit (.string (n))) rfl ?_
    refine o_fieldRef 1 Gd.none Yc_tF52_1 rfl rfl ?_
    refine o_loadS (AV.lit (.string ((((l).getD (i) default)).den))) Gd.none Yc_tS9 rfl rfl rfl ?_
    refine o_ct (c_nDivide (n) ((((l).getD (i) default)).den) (by first | assumption | decide | omega) (by first | assumption | decide | omega)) Gd.none Yc_tC77 rfl ?_
    refine o_mv (AV.tup [(AV.lit (.string (divQ (n) ((((l).getD (i) default)).den)))), (AV.lit (.string (divR (n) ((((l).getD (i) default)).den)))), (nm .i64 (divE (n) ((((l).getD (i) default)).den)))]) rfl ?_
    refine o_extract (AV.lit (.string (divQ (n) ((((l).getD (i) default)).den)))) Gd.none rfl rfl ?_
    refine o_extract (AV.lit (.string (divR (n) ((((l).getD (i) default)).den)))) Gd.none rfl rfl ?_
    refine o_extract (nm .i64 (divE (n) ((((l).getD (i) default)).den))) Gd.none rfl rfl ?_
    refine o_as (AV.lit (.string (divQ (n) ((((l).getD (i) default)).den)))) rfl ?_
    refine o_as (AV.lit (.string (divR (n) ((((l).getD (i) default)).den)))) rfl ?_
    refine o_as (nm .i64 (divE (n) ((((l).getD (i) default)).den))) rfl ?_
    refine aops_end ?_
    refine hK7 _ ?_
    refine awp_seq fun K8 hK8 => ?_
    refine awp_region rfl ?_
    refine o_mv (AV.lit (.string (divR (n) ((((l).getD (i) default)).den)))) rfl ?_
    refine o_eqlS (a := (divR (n) ((((l).getD (i) default)).den))) (c := (({data := #[48]} : ByteArray))) Gd.none rfl rfl ?_
    refine aops_end ?_
    refine hK8 _ ?_
    refine awp_condQ (q := (divR (n) ((((l).getD (i) default)).den)).toList = (({data := #[48]} : ByteArray)).toList) rfl (fun h2 => ?_) (fun h2 => ?_)
    · have hx := fst_hit h1 (hq.2.1 h2) hb
      refine awp_seq fun K9 hK9 => ?_
      refine awp_region rfl ?_
      refine o_mv (nm .i64 (i)) rfl ?_
      refine o_mv (AV.lit (.string (divQ (n) ((((l).getD (i) default)).den)))) rfl ?_
      refine o_as (nm .i64 (i)) rfl ?_
      refine o_as (AV.lit (.string (divQ (n) ((((l).getD (i) default)).den)))) rfl ?_
      refine aops_end ?_
      refine hK9 _ ?_
      refine awp_ret ?_
      refine post_ret ⟨[(nm .i64 (i)), (AV.lit (.string (divQ (n) ((((l).getD (i) default)).den))))], And.intro (AV.le_refl _) (And.intro (AV.le_refl _) (trivial)), rfl, ?_⟩
      rw [hx.1, hx.2, hq.1]; rfl
    · replace h2 := fun e => h2 (hq.2.2 e)
      refine awp_skip ?_
      refine hK5 _ ?_
      refine awp_region rfl ?_
      refine n_add (i) (1) Gd.none rfl rfl (by simp only [topOf]; omega) ?_
      refine o_mv (nm .i64 ((i) + (1))) rfl ?_
      refine aops_end ?_
      refine ⟨_, _, ?lt, ⟨i + 1, (by omega), (fun k hk => by rcases Nat.lt_or_ge k i with e | e; exact hb k e; rw [show k = i by omega]; assumption), rfl, rfl⟩, ?wk⟩
      case lt => omega
      case wk => exact Wk.sub (And.intro rfl (And.intro rfl (And.intro rfl (And.intro (by first | rfl | exact congrArg (nm _) (by omega) | exact nm_int (by omega) | exact nm_int (by simp [IntKind.wrap, IntKind.bits, IntKind.signed]; omega)) (trivial))))) (trivial)
  · have hx := fst_none (by omega) hb
    refine awp_exit ?_
    refine hK1 _ ?_
    refine awp_seq fun K10 hK10 => ?_
    refine awp_region rfl ?_
    refine o_as (AV.lit (.int .i64 ((-1)))) rfl ?_
    refine o_as (AV.lit (.string (({data := #[]} : ByteArray)))) rfl ?_
    refine aops_end ?_
    refine hK10 _ ?_
    refine awp_ret ?_
    refine post_ret ⟨[(AV.lit (.int .i64 ((-1)))), (AV.lit (.string (({data := #[]} : ByteArray))))], And.intro (AV.le_refl _) (And.intro (AV.le_refl _) (trivial)), rfl, ?_⟩
    rw [hx.1, hx.2]; rfl

theorem c_First (l : List Frc) (n : ByteArray) (hS : ∀ f ∈ l, f.num.size ≤ 9223372036854775807 ∧ f.den.size ≤ 9223372036854775807) (hn : n.size ≤ 9223372036854775807) : ECalls cx 25 [(AV.sl 2 (gcells cF (l))), (AV.lit (.string (n)))] (.tup [.lit (.int .i64 (firI l n)), nm .i64 (firE l n)]) := by
  refine ecalls_of_awp Tryz.func25 (c := _) rfl (Nat.le_of_ble_eq_true rfl) ?_
  show awp cx 24 _ (postF cx Tryz.f25 _) ⟨[(0, (AV.sl 2 (gcells cF (l)))), (1, (AV.lit (.string (n))))], []⟩
  refine awp_seq fun K0 hK0 => ?_
  refine awp_region rfl ?_
  refine o_as (nm .i64 (0)) rfl ?_
  refine o_as (nm .i64 (0)) rfl ?_
  refine aops_end ?_
  refine hK0 _ ?_
  refine awp_seq fun K1 hK1 => ?_
  refine awp_seq fun K2 hK2 => ?_
  refine awp_region rfl ?_
  refine o_mv (AV.sl 2 (gcells cF (l))) rfl ?_
  refine o_mv (AV.lit (.string (n))) rfl ?_
  refine o_ct (c_asks (l) (n) (by assumption) (by first | assumption | decide | omega)) Gd.none Yc_tC70 rfl ?_
  refine o_as (nm .i64 (askE (l) (n))) rfl ?_
  refine aops_end ?_
  refine hK2 _ ?_
  refine awp_seq fun K3 hK3 => ?_
  refine awp_region rfl ?_
  refine o_mv (nm .i64 (askE (l) (n))) rfl ?_
  refine n_neq (askE (l) (n)) (0) Gd.none rfl rfl ?_
  refine aops_end ?_
  refine hK3 _ ?_
  refine awp_condQ (q := (askE (l) (n)) ≠ (0)) rfl (fun h1 => ?_) (fun h1 => ?_)
  · refine awp_seq fun K4 hK4 => ?_
    refine awp_region rfl ?_
    refine o_mv (nm .i64 (askE (l) (n))) rfl ?_
    refine o_as (nm .i64 (0)) rfl ?_
    refine o_as (nm .i64 (askE (l) (n))) rfl ?_
    refine aops_end ?_
    refine hK4 _ ?_
    refine awp_ret ?_
    refine post_ret ⟨[(nm .i64 (0)), (nm .i64 (askE (l) (n)))], And.intro (AV.le_refl _) (And.intro (AV.le_refl _) (trivial)), rfl, ?_⟩
    rw [firI, firE, if_neg (fun e => h1 e.1), if_neg h1]; rfl
  · have hA := askE_0.1 (Decidable.not_not.1 h1)
    have hA1 := hA.1
    have hA2 := hA.2.1
    have hA0 := Decidable.not_not.1 h1
    refine awp_skip ?_
    refine hK1 _ ?_
    refine awp_seq fun K5 hK5 => ?_
    refine awp_region rfl ?_
    refine o_mv (AV.sl 2 (gcells cF (l))) rfl ?_
    refine o_mv (AV.lit (.string (n))) rfl ?_
    refine o_ct (c_first (l) (n) (by assumption) (by assumption) (by assumption) (by first | assumption | decide | omega)) Gd.none Yc_tC71 rfl ?_
    refine o_mv (AV.tup [(AV.lit (.int .i64 (fstI (l) (numS (n))))), (AV.lit (.string (fstS (l) (numS (n)))))]) rfl ?_
    refine o_extract (AV.lit (.int .i64 (fstI (l) (numS (n))))) Gd.none rfl rfl ?_
    refine o_extract (AV.lit (.string (fstS (l) (numS (n))))) Gd.none rfl rfl ?_
    refine o_as (AV.lit (.int .i64 (fstI (l) (numS (n))))) rfl ?_
    refine o_as (AV.lit (.string (fstS (l) (numS (n))))) rfl ?_
    refine aops_end ?_
    refine hK5 _ ?_
    refine awp_seq fun K6 hK6 => ?_
    refine awp_seq fun K7 hK7 => ?_
    refine awp_region rfl ?_
    refine o_mv (AV.lit (.int .i64 (fstI (l) (numS (n))))) rfl ?_
    refine o_lss (a := (fstI (l) (numS (n)))) (c := (((0 : Nat) : Int))) Gd.none rfl rfl ?_
    refine aops_end ?_
    refine hK7 _ ?_
    refine awp_condQ (q := (fstI (l) (numS (n))) < (((0 : Nat) : Int))) rfl (fun h2 => ?_) (fun h2 => ?_)
    · refine awp_seq fun K8 hK8 => ?_
      refine awp_region rfl ?_
      refine o_as (nm .i64 (0)) rfl ?_
      refine o_as (nm .i64 (4)) rfl ?_
      refine aops_end ?_
      refine hK8 _ ?_
      refine awp_ret ?_
      refine post_ret ⟨[(nm .i64 (0)), (nm .i64 (4))], And.intro (AV.le_refl _) (And.intro (AV.le_refl _) (trivial)), rfl, ?_⟩
      rw [firI, firE, if_neg (fun e => absurd e.2 (by omega)), if_pos hA0, if_neg (by omega)]; rfl
    · refine awp_skip ?_
      refine hK6 _ ?_
      refine awp_seq fun K9 hK9 => ?_
      refine awp_region rfl ?_
      refine o_mv (AV.lit (.int .i64 (fstI (l) (numS (n))))) rfl ?_
      refine o_as (AV.lit (.int .i64 (fstI (l) (numS (n))))) rfl ?_
      refine o_as (nm .i64 (0)) rfl ?_
      refine aops_end ?_
      refine hK9 _ ?_
      refine awp_ret ?_
      refine post_ret ⟨[(AV.lit (.int .i64 (fstI (l) (numS (n))))), (nm .i64 (0))], And.intro (AV.le_refl _) (And.intro (AV.le_refl _) (trivial)), rfl, ?_⟩
      rw [firI, firE, if_pos ⟨hA0, by omega⟩, if_pos hA0, if_pos (by omega)]; rfl

end Go.Proofs.YtnejjdcbbminaaaGreatDoor

set_option linter.unusedVariables false
set_option linter.unusedSimpArgs false
namespace Go.Proofs.YtnejjdcbbminaaaGreatDoor
open Go Go.Ab Go.Mth
theorem Yd_tC70 : callable cx.P 70 = true := by kernel_rfl
theorem Yd_tC71 : callable cx.P 71 = true := by kernel_rfl
theorem Yd_tE26 : tyElem cx.P 26 = some (52, 2, 32) := by kernel_rfl
theorem Yd_tF52_0 : tyField cx.P 52 0 = some (0, 9) := by kernel_rfl
theorem Yd_tS9 : tySc cx.P 9 = true := by kernel_rfl
theorem Yd_tC72 : callable cx.P 72 = true := by kernel_rfl
theorem Yd_tC75 : callable cx.P 75 = true := by kernel_rfl
theorem Yd_tU26 : cx.P.underlying 26 = some (.slice 52) := by kernel_rfl
theorem Yd_tA52 : tyAgg cx.P 52 = some 2 := by kernel_rfl
theorem Yd_tO52 : tyZero cx.P 52 = some [(Go.Value.string {data := #[]}), (Go.Value.string {data := #[]})] := by kernel_rfl
theorem Yd_tZ52 : tySize cx.P 52 = some 2 := by kernel_rfl
theorem Yd_tF52_1 : tyField cx.P 52 1 = some (1, 9) := by kernel_rfl
theorem Yd_tC76 : callable cx.P 76 = true := by kernel_rfl
theorem Yd_tC77 : callable cx.P 77 = true := by kernel_rfl
theorem c_Play (l : List Frc) (n : ByteArray) (k : Int) (hS : ∀ f ∈ l, f.num.size ≤ 9223372036854775807 ∧ f.den.size ≤ 9223372036854775807) (hn : n.size ≤ 9223372036854775807) : ECalls cx 26 [(AV.sl 2 (gcells cF (l))), (AV.lit (.string (n))), (AV.lit (.int .i64 (k)))] (.tup [.lit (.string (plyA l n k).1), nm .i64 (plyA l n k).2.1, nm .i64 (plyA l n k).2.2]) := by
  refine ecalls_of_awp Tryz.func26 (c := _) rfl (Nat.le_of_ble_eq_true rfl) ?_
  show awp cx 58 _ (postF cx Tryz.f26 _) ⟨[(0, (AV.sl 2 (gcells cF (l)))), (1, (AV.lit (.string (n)))), (2, (AV.lit (.int .i64 (k))))], []⟩
  refine awp_seq fun K0 hK0 => ?_
  refine awp_region rfl ?_
  refine o_as (AV.lit (.string (({data := #[]} : ByteArray)))) rfl ?_
  refine o_as (nm .i64 (0)) rfl ?_
  refine o_as (nm .i64 (0)) rfl ?_
  refine aops_end ?_
  refine hK0 _ ?_
  refine awp_seq fun K1 hK1 => ?_
  refine awp_seq fun K2 hK2 => ?_
  refine awp_region rfl ?_
  refine o_mv (AV.sl 2 (gcells cF (l))) rfl ?_
  refine o_mv (AV.lit (.string (n))) rfl ?_
  refine o_ct (c_asks (l) (n) (by assumption) (by first | assumption | decide | omega)) Gd.none Yd_tC70 rfl ?_
  refine o_as (nm .i64 (askE (l) (n))) rfl ?_
  refine aops_end ?_
  refine hK2 _ ?_
  refine awp_seq fun K3 hK3 => ?_
  refine awp_region rfl ?_
  refine o_mv (nm .i64 (askE (l) (n))) rfl ?_
  refine n_neq (askE (l) (n)) (0) Gd.none rfl rfl ?_
  refine aops_end ?_
  refine hK3 _ ?_
  refine awp_condQ (q := (askE (l) (n)) ≠ (0)) rfl (fun h1 => ?_) (fun h1 => ?_)
  · refine awp_seq fun K4 hK4 => ?_
    refine awp_region rfl ?_
    refine o_mv (nm .i64 (askE (l) (n))) rfl ?_
    refine o_as (AV.lit (.string (({data := #[]} : ByteArray)))) rfl ?_
    refine o_as (nm .i64 (0)) rfl ?_
    refine o_as (nm .i64 (askE (l) (n))) rfl ?_
    refine aops_end ?_
    refine hK4 _ ?_
    refine awp_ret ?_
    refine post_ret ⟨[(AV.lit (.string (({data := #[]} : ByteArray)))), (nm .i64 (0)), (nm .i64 (askE (l) (n)))], And.intro (AV.le_refl _) (And.intro (AV.le_refl _) (And.intro (AV.le_refl _) (trivial))), rfl, ?_⟩
    first | (rw [plyA_1 h1]; rfl) | (rw [plyA_2 hA0 (by omega)]; rfl) | (rw [hp, ply_stop (by omega) (by omega), txt_numS (okS_iff.1 ho)]; rfl) | (rw [hp, ply_big (by omega) (by omega) (tld_big h6), tld_3 (tld_big h6)]; rfl) | (rw [hp, show k.toNat - i = 0 by omega, show i = k.toNat by omega]; show AV.tup [.lit (.string (txt (numS s))), _, _] = _; rw [txt_numS (okS_iff.1 ho)]; rfl)
  · have hA0 := Decidable.not_not.1 h1
    have hA := askE_0.1 hA0
    have hA1 := hA.1
    have hA2 := hA.2.1
    refine awp_skip ?_
    refine hK1 _ ?_
    refine awp_seq fun K5 hK5 => ?_
    refine awp_seq fun K6 hK6 => ?_
    refine awp_region rfl ?_
    refine o_mv (AV.lit (.int .i64 (k))) rfl ?_
    refine o_lss (a := (k)) (c := (((0 : Nat) : Int))) Gd.none rfl rfl ?_
    refine o_mv (bp ((k) < (((0 : Nat) : Int)))) rfl ?_
    refine o_splitP (q := (k) < (((0 : Nat) : Int))) 23 rfl (fun h2 => ?_) (fun h2 => ?_)
    · refine o_skip rfl rfl (decide_eq_true h2) ?_
      refine o_skip rfl rfl (decide_eq_true h2) ?_
      refine o_pickT (AV.lit (.bool true)) Gd.none rfl (decide_eq_true h2) rfl ?_
      refine aops_end ?_
      refine hK6 _ ?_
      refine awp_condB (b := true) rfl (fun _ => ?_) (fun hh => absurd (hh.symm.trans rfl) (by decide))
      refine awp_seq fun K7 hK7 => ?_
      refine awp_region rfl ?_
      refine o_as (AV.lit (.string (({data := #[]} : ByteArray)))) rfl ?_
      refine o_as (nm .i64 (0)) rfl ?_
      refine o_as (nm .i64 (2)) rfl ?_
      refine aops_end ?_
      refine hK7 _ ?_
      refine awp_ret ?_
      refine post_ret ⟨[(AV.lit (.string (({data := #[]} : ByteArray)))), (nm .i64 (0)), (nm .i64 (2))], And.intro (AV.le_refl _) (And.intro (AV.le_refl _) (And.intro (AV.le_refl _) (trivial))), rfl, ?_⟩
      first | (rw [plyA_1 h1]; rfl) | (rw [plyA_2 hA0 (by omega)]; rfl) | (rw [hp, ply_stop (by omega) (by omega), txt_numS (okS_iff.1 ho)]; rfl) | (rw [hp, ply_big (by omega) (by omega) (tld_big h6), tld_3 (tld_big h6)]; rfl) | (rw [hp, show k.toNat - i = 0 by omega, show i = k.toNat by omega]; show AV.tup [.lit (.string (txt (numS s))), _, _] = _; rw [txt_numS (okS_iff.1 ho)]; rfl)
    · refine o_move (AV.lit (.int .i64 (k))) (Gd.yes rfl rfl (decide_eq_false h2)) rfl ?_
      refine o_gtr (a := (k)) (c := (((20000 : Nat) : Int))) (Gd.yes rfl rfl (decide_eq_false h2)) rfl rfl ?_
      refine o_pickF (bp ((((20000 : Nat) : Int)) < (k))) Gd.none rfl (decide_eq_false h2) rfl ?_
      refine aops_end ?_
      refine hK6 _ ?_
      refine awp_condQ (q := (((20000 : Nat) : Int)) < (k)) rfl (fun h3 => ?_) (fun h3 => ?_)
      · refine awp_seq fun K8 hK8 => ?_
        refine awp_region rfl ?_
        refine o_as (AV.lit (.string (({data := #[]} : ByteArray)))) rfl ?_
        refine o_as (nm .i64 (0)) rfl ?_
        refine o_as (nm .i64 (2)) rfl ?_
        refine aops_end ?_
        refine hK8 _ ?_
        refine awp_ret ?_
        refine post_ret ⟨[(AV.lit (.string (({data := #[]} : ByteArray)))), (nm .i64 (0)), (nm .i64 (2))], And.intro (AV.le_refl _) (And.intro (AV.le_refl _) (And.intro (AV.le_refl _) (trivial))), rfl, ?_⟩
        first | (rw [plyA_1 h1]; rfl) | (rw [plyA_2 hA0 (by omega)]; rfl) | (rw [hp, ply_stop (by omega) (by omega), txt_numS (okS_iff.1 ho)]; rfl) | (rw [hp, ply_big (by omega) (by omega) (tld_big h6), tld_3 (tld_big h6)]; rfl) | (rw [hp, show k.toNat - i = 0 by omega, show i = k.toNat by omega]; show AV.tup [.lit (.string (txt (numS s))), _, _] = _; rw [txt_numS (okS_iff.1 ho)]; rfl)
      · refine awp_skip ?_
        refine hK5 _ ?_
        refine awp_seq fun K9 hK9 => ?_
        refine awp_seq fun K10 hK10 => ?_
        refine awp_region rfl ?_
        refine o_mv (AV.lit (.int .i64 (k))) rfl ?_
        refine n_as (v' := (nm .i64 (k.toNat))) (nm_int (by omega)) ?_
        refine o_mv (nm .i64 (0)) rfl ?_
        refine aops_end ?_
        refine hK10 _ ?_
        refine awp_block ?_
        refine awp_loopR (fun κ σ => ∃ (i : Nat), ∃ (s : ByteArray), (i ≤ k.toNat) ∧ (plyA l n k = ply l (k.toNat - i) (numS s) i) ∧ (okS s = true) ∧ (0 < numS s) ∧ (s.size ≤ 9223372036854775807) ∧ (k.toNat - i) = κ ∧ σ = ⟨[(0, (AV.sl 2 (gcells cF (l)))), (1, (AV.lit (.string (s)))), (2, (AV.lit (.int .i64 (k)))), (27, (nm .i64 (k.toNat))), (28, (nm .i64 (i)))], []⟩) ⟨_, _, ⟨0, n, (by omega), (plyA_0 hA0 (by omega)), hA.2.1, hA.2.2, hn, rfl, rfl⟩, ?wk0⟩ ?rd0
        case wk0 =>
          exact Wk.sub (And.intro rfl (And.intro (by first | rfl | (simp)) (And.intro rfl (And.intro rfl (And.intro (by first | rfl | exact congrArg (nm _) (by omega) | exact nm_int (by omega) | exact nm_int (by simp [IntKind.wrap, IntKind.bits, IntKind.signed]; omega)) (trivial)))))) (trivial)
        rintro κ _ ⟨i, s, hi, hp, ho, hz, hs, rfl, rfl⟩
        refine awp_seq fun K11 hK11 => ?_
        refine awp_region rfl ?_
        refine n_lss (i) (k.toNat) Gd.none rfl rfl ?_
        refine aops_end ?_
        refine hK11 _ ?_
        refine awp_seq fun K12 hK12 => ?_
        refine awp_condQ (q := (i) < (k.toNat)) rfl (fun h4 => ?_) (fun h4 => ?_)
        · refine awp_skip ?_
          refine hK12 _ ?_
          refine awp_seq fun K13 hK13 => ?_
          refine awp_block ?_
          refine awp_seq fun K14 hK14 => ?_
          refine awp_region rfl ?_
          refine o_mv (nm .i64 (i)) rfl ?_
          refine o_as (nm .i64 (i)) rfl ?_
          refine aops_end ?_
          refine hK14 _ ?_
          refine awp_seq fun K15 hK15 => ?_
          refine awp_region rfl ?_
          refine o_mv (AV.sl 2 (gcells cF (l))) rfl ?_
          refine o_mv (AV.lit (.string (s))) rfl ?_
          refine o_ct (c_first (l) (s) (by assumption) (by assumption) (by assumption) (by first | assumption | decide | omega)) Gd.none Yd_tC71 rfl ?_
          refine o_mv (AV.tup [(AV.lit (.int .i64 (fstI (l) (numS (s))))), (AV.lit (.string (fstS (l) (numS (s)))))]) rfl ?_
          refine o_extract (AV.lit (.int .i64 (fstI (l) (numS (s))))) Gd.none rfl rfl ?_
          refine o_extract (AV.lit (.string (fstS (l) (numS (s))))) Gd.none rfl rfl ?_
          refine o_as (AV.lit (.int .i64 (fstI (l) (numS (s))))) rfl ?_
          refine o_as (AV.lit (.string (fstS (l) (numS (s))))) rfl ?_
          refine aops_end ?_
          refine hK15 _ ?_
          refine awp_seq fun K16 hK16 => ?_
          refine awp_seq fun K17 hK17 => ?_
          refine awp_region rfl ?_
          refine o_mv (AV.lit (.int .i64 (fstI (l) (numS (s))))) rfl ?_
          refine o_lss (a := (fstI (l) (numS (s)))) (c := (((0 : Nat) : Int))) Gd.none rfl rfl ?_
          refine aops_end ?_
          refine hK17 _ ?_
          refine awp_condQ (q := (fstI (l) (numS (s))) < (((0 : Nat) : Int))) rfl (fun h5 => ?_) (fun h5 => ?_)
          · refine awp_seq fun K18 hK18 => ?_
            refine awp_region rfl ?_
            refine o_mv (AV.lit (.string (s))) rfl ?_
            refine o_mv (nm .i64 (i)) rfl ?_
            refine o_as (AV.lit (.string (s))) rfl ?_
            refine o_as (nm .i64 (i)) rfl ?_
            refine o_as (nm .i64 (0)) rfl ?_
            refine aops_end ?_
            refine hK18 _ ?_
            refine awp_ret ?_
            refine post_ret ⟨[(AV.lit (.string (s))), (nm .i64 (i)), (nm .i64 (0))], And.intro (AV.le_refl _) (And.intro (AV.le_refl _) (And.intro (AV.le_refl _) (trivial))), rfl, ?_⟩
            first | (rw [plyA_1 h1]; rfl) | (rw [plyA_2 hA0 (by omega)]; rfl) | (rw [hp, ply_stop (by omega) (by omega), txt_numS (okS_iff.1 ho)]; rfl) | (rw [hp, ply_big (by omega) (by omega) (tld_big h6), tld_3 (tld_big h6)]; rfl) | (rw [hp, show k.toNat - i = 0 by omega, show i = k.toNat by omega]; show AV.tup [.lit (.string (txt (numS s))), _, _] = _; rw [txt_numS (okS_iff.1 ho)]; rfl)
          · have hf := fst_str hA1 (show 0 ≤ (fstI l (numS s)) by omega) hz (fit_numS (okS_iff.1 ho))
            have hd := fstI_bd (l := l) (z := numS s) (by omega)
            have hd1 := hd.1
            have hSi := (hS _ (gdm (d := default) hd1)).1
            have hr := (hA1.2 _ (gdm (d := default) hd1)).1
            have qs := txt_sz2 hf.2.1
            have hm := mul_str (a := txt (numS s / numS (l.getD (fstI l (numS s)).toNat default).den)) (b := (l.getD (fstI l (numS s)).toNat default).num) ⟨okS_iff.2 (okS_txt hf.2.1), hr.1⟩
            refine awp_skip ?_
            refine hK16 _ ?_
            refine awp_seq fun K19 hK19 => ?_
            refine awp_region rfl ?_
            refine o_mv (AV.lit (.string (fstS (l) (numS (s))))) rfl ?_
            refine n_as (v' := (AV.lit (.string (txt (numS s / numS (l.getD (fstI l (numS s)).toNat default).den))))) (by exact str_as2 hf.1) ?_
            refine o_mv (AV.sl 2 (gcells cF (l))) rfl ?_
            refine o_mv (AV.lit (.int .i64 (fstI (l) (numS (s))))) rfl ?_
            refine n_as (v' := (nm .i64 ((fstI l (numS s)).toNat))) (nm_int (by omega)) ?_
            refine g_index cF (l) ((fstI l (numS s)).toNat) cF_len rfl Gd.none Yd_tE26 rfl rfl (by omega) ?_
            refine g_field cF (l) ((fstI l (numS s)).toNat) cF_len Gd.none Yd_tF52_0 rfl (by omega) rfl ?_
            refine g_loadS cF (l) ((fstI l (numS s)).toNat) default (AV.lit (.string ((((l).getD ((fstI l (numS s)).toNat) default)).num))) cF_len Gd.none Yd_tS9 rfl (by omega) rfl ?_
            refine o_ct (c_nMul (txt (numS s / numS (l.getD (fstI l (numS s)).toNat default).den)) ((((l).getD ((fstI l (numS s)).toNat) default)).num) (by first | assumption | decide | omega) (by first | assumption | decide | omega)) Gd.none Yd_tC72 rfl ?_
            refine o_mv (AV.tup [(AV.lit (.string ((if okS (txt (numS s / numS (l.getD (fstI l (numS s)).toNat default).den)) && okS ((((l).getD ((fstI l (numS s)).toNat) default)).num) then (toldS (numS (txt (numS s / numS (l.getD (fstI l (numS s)).toNat default).den)) * numS ((((l).getD ((fstI l (numS s)).toNat) default)).num))) else (({ data := #[] } : ByteArray)))))), (nm .i64 ((if okS (txt (numS s / numS (l.getD (fstI l (numS s)).toNat default).den)) && okS ((((l).getD ((fstI l (numS s)).toNat) default)).num) then (toldE (numS (txt (numS s / numS (l.getD (fstI l (numS s)).toNat default).den)) * numS ((((l).getD ((fstI l (numS s)).toNat) default)).num))) else (1))))]) rfl ?_
            refine o_extract (AV.lit (.string ((if okS (txt (numS s / numS (l.getD (fstI l (numS s)).toNat default).den)) && okS ((((l).getD ((fstI l (numS s)).toNat) default)).num) then (toldS (numS (txt (numS s / numS (l.getD (fstI l (numS s)).toNat default).den)) * numS ((((l).getD ((fstI l (numS s)).toNat) default)).num))) else (({ data := #[] } : ByteArray)))))) Gd.none rfl rfl ?_
            refine n_as (v' := (AV.lit (.string (toldS (nxF l (numS s)))))) (by exact str_as2 (hm.1.trans (by rw [numS_txt]; rfl))) ?_
            refine o_extract (nm .i64 ((if okS (txt (numS s / numS (l.getD (fstI l (numS s)).toNat default).den)) && okS ((((l).getD ((fstI l (numS s)).toNat) default)).num) then (toldE (numS (txt (numS s / numS (l.getD (fstI l (numS s)).toNat default).den)) * numS ((((l).getD ((fstI l (numS s)).toNat) default)).num))) else (1)))) Gd.none rfl rfl ?_
            refine n_as (v' := (nm .i64 (toldE (nxF l (numS s))))) (by exact congrArg (nm _) (hm.2.trans (by rw [numS_txt]; rfl))) ?_
            refine o_as (AV.lit (.string (toldS (nxF l (numS s))))) rfl ?_
            refine o_as (nm .i64 (toldE (nxF l (numS s)))) rfl ?_
            refine aops_end ?_
            refine hK19 _ ?_
            refine awp_seq fun K20 hK20 => ?_
            refine awp_seq fun K21 hK21 => ?_
            refine awp_region rfl ?_
            refine o_mv (nm .i64 (toldE (nxF l (numS s)))) rfl ?_
            refine n_neq (toldE (nxF l (numS s))) (0) Gd.none rfl rfl ?_
            refine aops_end ?_
            refine hK21 _ ?_
            refine awp_condQ (q := (toldE (nxF l (numS s))) ≠ (0)) rfl (fun h6 => ?_) (fun h6 => ?_)
            · refine awp_seq fun K22 hK22 => ?_
              refine awp_region rfl ?_
              refine o_mv (nm .i64 (toldE (nxF l (numS s)))) rfl ?_
              refine o_as (AV.lit (.string (({data := #[]} : ByteArray)))) rfl ?_
              refine o_as (nm .i64 (0)) rfl ?_
              refine o_as (nm .i64 (toldE (nxF l (numS s)))) rfl ?_
              refine aops_end ?_
              refine hK22 _ ?_
              refine awp_ret ?_
              refine post_ret ⟨[(AV.lit (.string (({data := #[]} : ByteArray)))), (nm .i64 (0)), (nm .i64 (toldE (nxF l (numS s))))], And.intro (AV.le_refl _) (And.intro (AV.le_refl _) (And.intro (AV.le_refl _) (trivial))), rfl, ?_⟩
              first | (rw [plyA_1 h1]; rfl) | (rw [plyA_2 hA0 (by omega)]; rfl) | (rw [hp, ply_stop (by omega) (by omega), txt_numS (okS_iff.1 ho)]; rfl) | (rw [hp, ply_big (by omega) (by omega) (tld_big h6), tld_3 (tld_big h6)]; rfl) | (rw [hp, show k.toNat - i = 0 by omega, show i = k.toNat by omega]; show AV.tup [.lit (.string (txt (numS s))), _, _] = _; rw [txt_numS (okS_iff.1 ho)]; rfl)
            · have hF := tld_ok h6
              obtain ⟨w1, w2⟩ := told_fit hF
              refine awp_skip ?_
              refine hK20 _ ?_
              refine awp_region rfl ?_
              refine o_mv (AV.lit (.string (toldS (nxF l (numS s))))) rfl ?_
              refine o_as (AV.lit (.string (toldS (nxF l (numS s))))) rfl ?_
              refine aops_end ?_
              refine hK13 _ ?_
              refine awp_region rfl ?_
              refine n_add (i) (1) Gd.none rfl rfl (by simp only [topOf]; omega) ?_
              refine o_mv (nm .i64 ((i) + (1))) rfl ?_
              refine aops_end ?_
              refine ⟨_, _, ?lt, ⟨i + 1, toldS (nxF l (numS s)), (by omega), (by rw [hp, ply_next (by omega) (by omega) hF, w1, numS_txt]), (by rw [w1]; exact okS_iff.2 (okS_txt hF)), (by rw [w1, numS_txt]; exact Int.mul_pos hf.2.2 hr.2), (by rw [w1]; exact txt_sz2 hF), rfl, rfl⟩, ?wk⟩
              case lt => omega
              case wk => exact Wk.sub (And.intro rfl (And.intro (by first | rfl | (simp)) (And.intro rfl (And.intro rfl (And.intro (by first | rfl | exact congrArg (nm _) (by omega) | exact nm_int (by omega) | exact nm_int (by simp [IntKind.wrap, IntKind.bits, IntKind.signed]; omega)) (trivial)))))) (trivial)
        · refine awp_exit ?_
          refine hK9 _ ?_
          refine awp_seq fun K23 hK23 => ?_
          refine awp_region rfl ?_
          refine o_mv (AV.lit (.string (s))) rfl ?_
          refine o_mv (AV.lit (.int .i64 (k))) rfl ?_
          refine n_as (v' := (nm .i64 (k.toNat))) (nm_int (by omega)) ?_
          refine o_as (AV.lit (.string (s))) rfl ?_
          refine o_as (nm .i64 (k.toNat)) rfl ?_
          refine o_as (nm .i64 (0)) rfl ?_
          refine aops_end ?_
          refine hK23 _ ?_
          refine awp_ret ?_
          refine post_ret ⟨[(AV.lit (.string (s))), (nm .i64 (k.toNat)), (nm .i64 (0))], And.intro (AV.le_refl _) (And.intro (AV.le_refl _) (And.intro (AV.le_refl _) (trivial))), rfl, ?_⟩
          first | (rw [plyA_1 h1]; rfl) | (rw [plyA_2 hA0 (by omega)]; rfl) | (rw [hp, ply_stop (by omega) (by omega), txt_numS (okS_iff.1 ho)]; rfl) | (rw [hp, ply_big (by omega) (by omega) (tld_big h6), tld_3 (tld_big h6)]; rfl) | (rw [hp, show k.toNat - i = 0 by omega, show i = k.toNat by omega]; show AV.tup [.lit (.string (txt (numS s))), _, _] = _; rw [txt_numS (okS_iff.1 ho)]; rfl)

theorem c_Common (l : List Frc) (hS : ∀ f ∈ l, f.num.size ≤ 9223372036854775807 ∧ f.den.size ≤ 9223372036854775807) : ECalls cx 31 [(AV.sl 2 (gcells cF (l)))] (.tup [.lit (.string (comA l).1), nm .i64 (comA l).2]) := by
  refine ecalls_of_awp Tryz.func31 (c := _) rfl (Nat.le_of_ble_eq_true rfl) ?_
  show awp cx 50 _ (postF cx Tryz.f31 _) ⟨[(0, (AV.sl 2 (gcells cF (l))))], []⟩
  refine awp_seq fun K0 hK0 => ?_
  refine awp_region rfl ?_
  refine o_as (AV.lit (.string (({data := #[]} : ByteArray)))) rfl ?_
  refine o_as (nm .i64 (0)) rfl ?_
  refine aops_end ?_
  refine hK0 _ ?_
  refine awp_seq fun K1 hK1 => ?_
  refine awp_seq fun K2 hK2 => ?_
  refine awp_region rfl ?_
  refine o_mv (AV.sl 2 (gcells cF (l))) rfl ?_
  refine o_ct (c_list (l) (by assumption)) Gd.none Yd_tC75 rfl ?_
  refine o_notP (q := lstP (l)) Gd.none rfl ?_
  refine aops_end ?_
  refine hK2 _ ?_
  refine awp_condQ (q := ¬ (lstP (l))) rfl (fun h1 => ?_) (fun h1 => ?_)
  · refine awp_seq fun K3 hK3 => ?_
    refine awp_region rfl ?_
    refine o_as (AV.lit (.string (({data := #[]} : ByteArray)))) rfl ?_
    refine o_as (nm .i64 (1)) rfl ?_
    refine aops_end ?_
    refine hK3 _ ?_
    refine awp_ret ?_
    refine post_ret ⟨[(AV.lit (.string (({data := #[]} : ByteArray)))), (nm .i64 (1))], And.intro (AV.le_refl _) (And.intro (AV.le_refl _) (trivial)), rfl, ?_⟩
    rw [show comA l = ({ data := #[] }, 1) from if_neg (by assumption)]; rfl
  · have hA1 : lstP l := Decidable.not_not.1 h1
    have hl1 := hA1.1
    refine awp_skip ?_
    refine hK1 _ ?_
    refine awp_seq fun K4 hK4 => ?_
    refine awp_region rfl ?_
    refine o_as (AV.lit (.string (({data := #[49]} : ByteArray)))) rfl ?_
    refine aops_end ?_
    refine hK4 _ ?_
    refine awp_seq fun K5 hK5 => ?_
    refine awp_seq fun K6 hK6 => ?_
    refine awp_region rfl ?_
    refine o_mv (AV.sl 2 (gcells cF (l))) rfl ?_
    refine g_len cF (l) cF_len Gd.none Yd_tU26 rfl ?_
    refine o_mv (nm .i64 (0)) rfl ?_
    refine aops_end ?_
    refine hK6 _ ?_
    refine awp_block ?_
    refine awp_loopR (fun κ σ => ∃ (i : Nat), ∃ (s : ByteArray), (i ≤ l.length) ∧ (comA l = com (l.drop i) (numS s)) ∧ (okS s = true) ∧ (0 < numS s) ∧ (s.size ≤ 9223372036854775807) ∧ (l.length - i) = κ ∧ σ = ⟨[(4, (AV.lit (.string (s)))), (17, (AV.sl 2 (gcells cF (l)))), (18, (nm .i64 (l.length))), (19, (nm .i64 (i)))], []⟩) ⟨_, _, ⟨0, ⟨#[49]⟩, (by omega), (by rw [List.drop_zero, ← txt_one, numS_txt]; exact if_pos hA1), (ok_of_txt txt_one (by decide)).1, (by rw [(ok_of_txt txt_one (by decide)).2]; decide), (by decide), rfl, rfl⟩, ?wk0⟩ ?rd0
    case wk0 =>
      exact Wk.sub (And.intro (by first | rfl | (simp)) (And.intro rfl (And.intro (by first | rfl | exact congrArg (nm _) (by omega) | exact nm_int (by omega) | exact nm_int (by simp [IntKind.wrap, IntKind.bits, IntKind.signed]; omega)) (And.intro (by first | rfl | exact congrArg (nm _) (by omega) | exact nm_int (by omega) | exact nm_int (by simp [IntKind.wrap, IntKind.bits, IntKind.signed]; omega)) (trivial))))) (trivial)
    rintro κ _ ⟨i, s, hi, hp, ho, hz, hs, rfl, rfl⟩
    refine awp_seq fun K7 hK7 => ?_
    refine awp_region rfl ?_
    refine n_lss (i) (l.length) Gd.none rfl rfl ?_
    refine aops_end ?_
    refine hK7 _ ?_
    refine awp_seq fun K8 hK8 => ?_
    refine awp_condQ (q := (i) < (l.length)) rfl (fun h2 => ?_) (fun h2 => ?_)
    · have hSi := (hS _ (gdm (d := default) h2)).2
      have hr := (hA1.2 _ (gdm (d := default) h2)).2.1
      obtain ⟨g1, g2, g3, g4, g5⟩ := cm_gcd (a := s) (b := ((l).getD (i) default).den) ⟨ho, hr.1⟩ hz
      have gs := txt_sz2 g1
      have qs := txt_sz2 g4
      have hm := mul_str (a := txt (numS s / ((Int.gcd (numS s) (numS ((l).getD (i) default).den) : Nat) : Int))) (b := ((l).getD (i) default).den) ⟨okS_iff.2 (okS_txt g4), hr.1⟩
      refine awp_skip ?_
      refine hK8 _ ?_
      refine awp_seq fun K9 hK9 => ?_
      refine awp_block ?_
      refine awp_seq fun K10 hK10 => ?_
      refine awp_region rfl ?_
      refine g_index cF (l) (i) cF_len rfl Gd.none Yd_tE26 rfl rfl (by omega) ?_
      refine g_loadA cF (l) (i) default cF_len Gd.none Yd_tA52 rfl (by omega) ?_
      refine o_alloc 101 [(AV.lit (.string (({data := #[]} : ByteArray)))), (AV.lit (.string (({data := #[]} : ByteArray))))] Gd.none Yd_tO52 rfl rfl rfl ?_
      refine o_store [(101, (AO.var 52 [(AV.lit (.string ((((l).getD (i) default)).num))), (AV.lit (.string ((((l).getD (i) default)).den)))]))] Gd.none Yd_tZ52 rfl rfl rfl rfl rfl rfl ?_
      refine aops_end ?_
      refine hK10 _ ?_
      refine awp_seq fun K11 hK11 => ?_
      refine awp_region rfl ?_
      refine o_mv (AV.lit (.string (s))) rfl ?_
      refine o_fieldRef 1 Gd.none Yd_tF52_1 rfl rfl ?_
      refine o_loadS (AV.lit (.string ((((l).getD (i) default)).den))) Gd.none Yd_tS9 rfl rfl rfl ?_
      refine o_ct (c_nGcd (s) ((((l).getD (i) default)).den) (by first | assumption | decide | omega) (by first | assumption | decide | omega)) Gd.none Yd_tC76 rfl ?_
      refine o_mv (AV.tup [(AV.lit (.string ((if okS (s) && okS ((((l).getD (i) default)).den) then (toldS ((Int.gcd (numS (s)) (numS ((((l).getD (i) default)).den)) : Nat) : Int)) else (({ data := #[] } : ByteArray)))))), (nm .i64 ((if okS (s) && okS ((((l).getD (i) default)).den) then (toldE ((Int.gcd (numS (s)) (numS ((((l).getD (i) default)).den)) : Nat) : Int)) else (1))))]) rfl ?_
      refine o_extract (AV.lit (.string ((if okS (s) && okS ((((l).getD (i) default)).den) then (toldS ((Int.gcd (numS (s)) (numS ((((l).getD (i) default)).den)) : Nat) : Int)) else (({ data := #[] } : ByteArray)))))) Gd.none rfl rfl ?_
      refine n_as (v' := (AV.lit (.string (txt ((Int.gcd (numS s) (numS ((l).getD (i) default).den) : Nat) : Int))))) (by exact str_as2 (gcd_str ⟨ho, hr.1⟩)) ?_
      refine o_extract (nm .i64 ((if okS (s) && okS ((((l).getD (i) default)).den) then (toldE ((Int.gcd (numS (s)) (numS ((((l).getD (i) default)).den)) : Nat) : Int)) else (1)))) Gd.none rfl rfl ?_
      refine o_as (AV.lit (.string (txt ((Int.gcd (numS s) (numS ((l).getD (i) default).den) : Nat) : Int)))) rfl ?_
      refine o_as (nm .i64 ((if okS (s) && okS ((((l).getD (i) default)).den) then (toldE ((Int.gcd (numS (s)) (numS ((((l).getD (i) default)).den)) : Nat) : Int)) else (1)))) rfl ?_
      refine aops_end ?_
      refine hK11 _ ?_
      refine awp_seq fun K12 hK12 => ?_
      refine awp_region rfl ?_
      refine o_mv (AV.lit (.string (s))) rfl ?_
      refine o_mv (AV.lit (.string (txt ((Int.gcd (numS s) (numS ((l).getD (i) default).den) : Nat) : Int)))) rfl ?_
      refine o_ct (c_nDivide (s) (txt ((Int.gcd (numS s) (numS ((l).getD (i) default).den) : Nat) : Int)) (by first | assumption | decide | omega) (by first | assumption | decide | omega)) Gd.none Yd_tC77 rfl ?_
      refine o_mv (AV.tup [(AV.lit (.string (divQ (s) (txt ((Int.gcd (numS s) (numS ((l).getD (i) default).den) : Nat) : Int))))), (AV.lit (.string (divR (s) (txt ((Int.gcd (numS s) (numS ((l).getD (i) default).den) : Nat) : Int))))), (nm .i64 (divE (s) (txt ((Int.gcd (numS s) (numS ((l).getD (i) default).den) : Nat) : Int))))]) rfl ?_
      refine o_extract (AV.lit (.string (divQ (s) (txt ((Int.gcd (numS s) (numS ((l).getD (i) default).den) : Nat) : Int))))) Gd.none rfl rfl ?_
      refine n_as (v' := (AV.lit (.string (txt (numS s / ((Int.gcd (numS s) (numS ((l).getD (i) default).den) : Nat) : Int)))))) (by exact str_as2 g3) ?_
      refine o_extract (AV.lit (.string (divR (s) (txt ((Int.gcd (numS s) (numS ((l).getD (i) default).den) : Nat) : Int))))) Gd.none rfl rfl ?_
      refine o_extract (nm .i64 (divE (s) (txt ((Int.gcd (numS s) (numS ((l).getD (i) default).den) : Nat) : Int)))) Gd.none rfl rfl ?_
      refine o_as (AV.lit (.string (txt (numS s / ((Int.gcd (numS s) (numS ((l).getD (i) default).den) : Nat) : Int))))) rfl ?_
      refine o_as (AV.lit (.string (divR (s) (txt ((Int.gcd (numS s) (numS ((l).getD (i) default).den) : Nat) : Int))))) rfl ?_
      refine o_as (nm .i64 (divE (s) (txt ((Int.gcd (numS s) (numS ((l).getD (i) default).den) : Nat) : Int)))) rfl ?_
      refine aops_end ?_
      refine hK12 _ ?_
      refine awp_seq fun K13 hK13 => ?_
      refine awp_region rfl ?_
      refine o_mv (AV.lit (.string (txt (numS s / ((Int.gcd (numS s) (numS ((l).getD (i) default).den) : Nat) : Int))))) rfl ?_
      refine o_fieldRef 1 Gd.none Yd_tF52_1 rfl rfl ?_
      refine o_loadS (AV.lit (.string ((((l).getD (i) default)).den))) Gd.none Yd_tS9 rfl rfl rfl ?_
      refine o_ct (c_nMul (txt (numS s / ((Int.gcd (numS s) (numS ((l).getD (i) default).den) : Nat) : Int))) ((((l).getD (i) default)).den) (by first | assumption | decide | omega) (by first | assumption | decide | omega)) Gd.none Yd_tC72 rfl ?_
      refine o_mv (AV.tup [(AV.lit (.string ((if okS (txt (numS s / ((Int.gcd (numS s) (numS ((l).getD (i) default).den) : Nat) : Int))) && okS ((((l).getD (i) default)).den) then (toldS (numS (txt (numS s / ((Int.gcd (numS s) (numS ((l).getD (i) default).den) : Nat) : Int))) * numS ((((l).getD (i) default)).den))) else (({ data := #[] } : ByteArray)))))), (nm .i64 ((if okS (txt (numS s / ((Int.gcd (numS s) (numS ((l).getD (i) default).den) : Nat) : Int))) && okS ((((l).getD (i) default)).den) then (toldE (numS (txt (numS s / ((Int.gcd (numS s) (numS ((l).getD (i) default).den) : Nat) : Int))) * numS ((((l).getD (i) default)).den))) else (1))))]) rfl ?_
      refine o_extract (AV.lit (.string ((if okS (txt (numS s / ((Int.gcd (numS s) (numS ((l).getD (i) default).den) : Nat) : Int))) && okS ((((l).getD (i) default)).den) then (toldS (numS (txt (numS s / ((Int.gcd (numS s) (numS ((l).getD (i) default).den) : Nat) : Int))) * numS ((((l).getD (i) default)).den))) else (({ data := #[] } : ByteArray)))))) Gd.none rfl rfl ?_
      refine n_as (v' := (AV.lit (.string (toldS (cmX (numS s) (numS ((l).getD (i) default).den)))))) (by exact str_as2 (hm.1.trans (by rw [numS_txt]; rfl))) ?_
      refine o_extract (nm .i64 ((if okS (txt (numS s / ((Int.gcd (numS s) (numS ((l).getD (i) default).den) : Nat) : Int))) && okS ((((l).getD (i) default)).den) then (toldE (numS (txt (numS s / ((Int.gcd (numS s) (numS ((l).getD (i) default).den) : Nat) : Int))) * numS ((((l).getD (i) default)).den))) else (1)))) Gd.none rfl rfl ?_
      refine n_as (v' := (nm .i64 (toldE (cmX (numS s) (numS ((l).getD (i) default).den))))) (by exact congrArg (nm _) (hm.2.trans (by rw [numS_txt]; rfl))) ?_
      refine o_as (AV.lit (.string (toldS (cmX (numS s) (numS ((l).getD (i) default).den))))) rfl ?_
      refine o_as (nm .i64 (toldE (cmX (numS s) (numS ((l).getD (i) default).den)))) rfl ?_
      refine aops_end ?_
      refine hK13 _ ?_
      refine awp_seq fun K14 hK14 => ?_
      refine awp_seq fun K15 hK15 => ?_
      refine awp_region rfl ?_
      refine o_mv (nm .i64 (toldE (cmX (numS s) (numS ((l).getD (i) default).den)))) rfl ?_
      refine n_neq (toldE (cmX (numS s) (numS ((l).getD (i) default).den))) (0) Gd.none rfl rfl ?_
      refine aops_end ?_
      refine hK15 _ ?_
      refine awp_condQ (q := (toldE (cmX (numS s) (numS ((l).getD (i) default).den))) ≠ (0)) rfl (fun h3 => ?_) (fun h3 => ?_)
      · refine awp_seq fun K16 hK16 => ?_
        refine awp_region rfl ?_
        refine o_mv (nm .i64 (toldE (cmX (numS s) (numS ((l).getD (i) default).den)))) rfl ?_
        refine o_as (AV.lit (.string (({data := #[]} : ByteArray)))) rfl ?_
        refine o_as (nm .i64 (toldE (cmX (numS s) (numS ((l).getD (i) default).den)))) rfl ?_
        refine aops_end ?_
        refine hK16 _ ?_
        refine awp_ret ?_
        refine post_ret ⟨[(AV.lit (.string (({data := #[]} : ByteArray)))), (nm .i64 (toldE (cmX (numS s) (numS ((l).getD (i) default).den))))], And.intro (AV.le_refl _) (And.intro (AV.le_refl _) (trivial)), rfl, ?_⟩
        rw [hp, com_drop h2, if_neg (tld_big h3), tld_3 (tld_big h3)]; rfl
      · have hF := tld_ok h3
        obtain ⟨w1, w2⟩ := told_fit hF
        refine awp_skip ?_
        refine hK14 _ ?_
        refine awp_region rfl ?_
        refine o_mv (AV.lit (.string (toldS (cmX (numS s) (numS ((l).getD (i) default).den))))) rfl ?_
        refine o_as (AV.lit (.string (toldS (cmX (numS s) (numS ((l).getD (i) default).den))))) rfl ?_
        refine aops_end ?_
        refine hK9 _ ?_
        refine awp_region rfl ?_
        refine n_add (i) (1) Gd.none rfl rfl (by simp only [topOf]; omega) ?_
        refine o_mv (nm .i64 ((i) + (1))) rfl ?_
        refine aops_end ?_
        refine ⟨_, _, ?lt, ⟨i + 1, toldS (cmX (numS s) (numS ((l).getD (i) default).den)), (by omega), (by rw [hp, com_drop h2, if_pos hF, w1, numS_txt]), (by rw [w1]; exact okS_iff.2 (okS_txt hF)), (by rw [w1, numS_txt]; exact Int.mul_pos g5 hr.2), (by rw [w1]; exact txt_sz2 hF), rfl, rfl⟩, ?wk⟩
        case lt => omega
        case wk => exact Wk.sub (And.intro (by first | rfl | (simp)) (And.intro rfl (And.intro rfl (And.intro (by first | rfl | exact congrArg (nm _) (by omega) | exact nm_int (by omega) | exact nm_int (by simp [IntKind.wrap, IntKind.bits, IntKind.signed]; omega)) (trivial))))) (trivial)
    · refine awp_exit ?_
      refine hK5 _ ?_
      refine awp_seq fun K17 hK17 => ?_
      refine awp_region rfl ?_
      refine o_mv (AV.lit (.string (s))) rfl ?_
      refine o_as (AV.lit (.string (s))) rfl ?_
      refine o_as (nm .i64 (0)) rfl ?_
      refine aops_end ?_
      refine hK17 _ ?_
      refine awp_ret ?_
      refine post_ret ⟨[(AV.lit (.string (s))), (nm .i64 (0))], And.intro (AV.le_refl _) (And.intro (AV.le_refl _) (trivial)), rfl, ?_⟩
      rw [hp, com_end (by omega), txt_numS (okS_iff.1 ho)]; rfl

end Go.Proofs.YtnejjdcbbminaaaGreatDoor

set_option linter.unusedVariables false
set_option linter.unusedSimpArgs false
namespace Go.Mth
open Go.Ab
theorem row_gs {α : Type} {e : TypeId} {n : Nat} {c : α → List AV} {xs ys : List α} (h : xs = ys) : (some (AO.row e n (gcells c xs)) : Option AO) = some (AO.row e n (gcells c ys)) := by rw [h]
theorem ownP_bd (m : Mac) (z : Int) : ownP m z ≤ 113 := p30_bd _
theorem twnP_bd (m : Mac) (z : Int) : twnP m z ≤ 113 := p30_bd _
def frc (a b : Nat) : Frc := ⟨txt ((a : Nat) : Int), txt ((b : Nat) : Int)⟩
def rgP (x : Ins) : Nat := P30.getD x.reg.toNat 0
def insF (m : Mac) (s : Nat) (x : Ins) : List Frc := if x.kind = 0 then [frc (twnP m x.next * rgP x) (ownP m s)] else [frc (twnP m x.next) (ownP m s * rgP x), frc (twnP m x.els) (ownP m s)]
def cmp1 (m : Mac) : Nat → List Frc
  | 0 => []
  | i + 1 => cmp1 m i ++ insF m i (m.code.getD i default)
def cmp2 (m : Mac) : Nat → List Frc
  | 0 => cmp1 m m.code.length
  | i + 1 => cmp2 m i ++ [frc (ownP m i) (twnP m i)]
def cmpR (m : Mac) : List Frc := if okMac m then cmp2 m (m.code.length + 1) else []
def cmpE (m : Mac) : Nat := if okMac m then 0 else 1
theorem cmp1_len (m : Mac) : ∀ i, (cmp1 m i).length ≤ 2 * i
  | 0 => Nat.le_refl _
  | i + 1 => by
    have := cmp1_len m i
    rw [cmp1, List.length_append]
    unfold insF
    split <;> simp <;> omega
theorem cmp2_len (m : Mac) : ∀ i, (cmp2 m i).length ≤ 2 * m.code.length + i
  | 0 => cmp1_len m _
  | i + 1 => by
    have := cmp2_len m i
    rw [cmp2, List.length_append, List.length_singleton]
    omega
theorem cmp1_a {m : Mac} {i : Nat} {x : Ins} (hx : m.code.getD i default = x) (h : x.kind = 0) : cmp1 m i ++ [frc (twnP m x.next * rgP x) (ownP m i)] = cmp1 m (i + 1) := by
  subst hx
  rw [cmp1, insF, if_pos h]
theorem cmp1_b {m : Mac} {i : Nat} {x : Ins} (hx : m.code.getD i default = x) (h : ¬ x.kind = 0) : cmp1 m i ++ [frc (twnP m x.next) (ownP m i * rgP x), frc (twnP m x.els) (ownP m i)] = cmp1 m (i + 1) := by
  subst hx
  rw [cmp1, insF, if_neg h]
def prdZ : Nat → List Int → Int
  | _, [] => 1
  | i, n :: r => ((P30.getD i 0 : Nat) : Int) ^ n.toNat * prdZ (i + 1) r
def numC (m : Mac) (c : Cfg) : Int := ((ownP m c.at' : Nat) : Int) * prdZ 0 c.regs
noncomputable def encS (m : Mac) (c : Cfg) : ByteArray := if okCfg m c then toldS (numC m c) else { data := #[] }
noncomputable def encE (m : Mac) (c : Cfg) : Nat := if okCfg m c then toldE (numC m c) else 1
theorem prd_pos : ∀ (l : List Int) (i : Nat), i + l.length ≤ 30 → 0 < prdZ i l
  | [], _, _ => by simp [prdZ]
  | n :: r, i, h => by
    have h' : i + 1 + r.length ≤ 30 := by simp at h; omega
    have h2 := p30_ge i (by simp at h; omega)
    exact Int.mul_pos (Int.pow_pos (by omega)) (prd_pos r (i + 1) h')
theorem prd_drop {l : List Int} {i j : Nat} (h : i < l.length) : prdZ j (l.drop i) = ((P30.getD j 0 : Nat) : Int) ^ (l.getD i 0).toNat * prdZ (j + 1) (l.drop (i + 1)) := by
  rw [List.drop_eq_getElem_cons h, show l.getD i 0 = l[i] by rw [List.getD_eq_getElem?_getD, List.getElem?_eq_getElem h]; rfl]
  rfl
theorem fit_113 {n : Nat} (h : n ≤ 113) : Fit ((n : Nat) : Int) := fit_of_pow (k := 3) (by rw [Int.natAbs_natCast]; omega) (by decide) (by decide)
theorem fit_mul_le {x y : Int} (hx : 0 < x) (hy : 0 < y) (h : Fit (x * y)) : Fit x ∧ Fit y := by
  have e : (x * y).natAbs = x.natAbs * y.natAbs := Int.natAbs_mul x y
  constructor
  · exact fit_le (by rw [e]; exact Nat.le_mul_of_pos_right _ (by omega)) h
  · exact fit_le (by rw [e]; exact Nat.le_mul_of_pos_left _ (by omega)) h
theorem pow_str {p : Nat} {n : Int} (hp : p ≤ 113) (h : 0 ≤ n ∧ n ≤ 1000) : powS (txt ((p : Nat) : Int)) n = toldS (((p : Nat) : Int) ^ n.toNat) ∧ powE (txt ((p : Nat) : Int)) n = toldE (((p : Nat) : Int) ^ n.toNat) := by
  have o := okS_iff.2 (okS_txt (fit_113 hp))
  have q : powIn n := by unfold powIn; omega
  unfold powS powE
  rw [if_pos ⟨o, q⟩, if_pos o, if_pos q, numS_txt]
  exact ⟨rfl, rfl⟩
end Go.Mth

set_option linter.unusedVariables false
set_option linter.unusedSimpArgs false
namespace Go.Proofs.YtnejjdcbbminaaaGreatDoor
open Go Go.Ab Go.Mth
theorem Ye_tA24 : tyAgg cx.P 24 = some 2 := by kernel_rfl
theorem Ye_tC46 : callable cx.P 46 = true := by kernel_rfl
theorem Ye_tF24_1 : tyField cx.P 24 1 = some (1, 22) := by kernel_rfl
theorem Ye_tS22 : tySc cx.P 22 = true := by kernel_rfl
theorem Ye_tU22 : cx.P.underlying 22 = some (.slice 88) := by kernel_rfl
theorem Ye_tE22 : tyElem cx.P 22 = some (88, 4, 32) := by kernel_rfl
theorem Ye_tA88 : tyAgg cx.P 88 = some 4 := by kernel_rfl
theorem Ye_tO88 : tyZero cx.P 88 = some [(Go.Value.int IntKind.i64 0), (Go.Value.int IntKind.i64 0), (Go.Value.int IntKind.i64 0), (Go.Value.int IntKind.i64 0)] := by kernel_rfl
theorem Ye_tZ88 : tySize cx.P 88 = some 4 := by kernel_rfl
theorem Ye_tC56 : callable cx.P 56 = true := by kernel_rfl
theorem Ye_tF88_1 : tyField cx.P 88 1 = some (1, 3) := by kernel_rfl
theorem Ye_tS3 : tySc cx.P 3 = true := by kernel_rfl
theorem Ye_tR89 : tyArr cx.P 89 = some (30, 3, 1) := by kernel_rfl
theorem Ye_tF88_0 : tyField cx.P 88 0 = some (0, 3) := by kernel_rfl
theorem Ye_tF88_2 : tyField cx.P 88 2 = some (2, 3) := by kernel_rfl
theorem Ye_tC58 : callable cx.P 58 = true := by kernel_rfl
theorem Ye_tC59 : callable cx.P 59 = true := by kernel_rfl
theorem Ye_tC57 : callable cx.P 57 = true := by kernel_rfl
theorem Ye_tE26 : tyElem cx.P 26 = some (52, 2, 32) := by kernel_rfl
theorem Ye_tO52 : tyZero cx.P 52 = some [(Go.Value.string {data := #[]}), (Go.Value.string {data := #[]})] := by kernel_rfl
theorem Ye_tF88_3 : tyField cx.P 88 3 = some (3, 3) := by kernel_rfl
theorem Ye_tA65 : tyAgg cx.P 65 = some 2 := by kernel_rfl
theorem Ye_tC47 : callable cx.P 47 = true := by kernel_rfl
theorem Ye_tF65_0 : tyField cx.P 65 0 = some (0, 3) := by kernel_rfl
theorem Ye_tC82 : callable cx.P 82 = true := by kernel_rfl
theorem Ye_tF65_1 : tyField cx.P 65 1 = some (1, 37) := by kernel_rfl
theorem Ye_tS37 : tySc cx.P 37 = true := by kernel_rfl
theorem Ye_tU37 : cx.P.underlying 37 = some (.slice 3) := by kernel_rfl
theorem Ye_tE37 : tyElem cx.P 37 = some (3, 1, 8) := by kernel_rfl
theorem Ye_tC83 : callable cx.P 83 = true := by kernel_rfl
theorem Ye_tC72 : callable cx.P 72 = true := by kernel_rfl
theorem c_Compile (m : Mac) : ECalls cx 13 [(macV m)] (.tup [.sl 2 (gcells cF (cmpR m)), nm .i64 (cmpE m)]) := by
  refine ecalls_of_awp Tryz.func13 (c := _) rfl (Nat.le_of_ble_eq_true rfl) ?_
  show awp cx 81 _ (postF cx Tryz.f13 _) ⟨[(0, (macV m))], []⟩
  refine awp_seq fun K0 hK0 => ?_
  refine awp_region rfl ?_
  refine o_box 2 [(AV.lit (.int .i64 (m.regs))), (AV.sl 4 (gcells cI (m.code)))] Gd.none rfl rfl ?_
  refine o_as (AV.lit (.slice none 0 0)) rfl ?_
  refine o_as (nm .i64 (0)) rfl ?_
  refine aops_end ?_
  refine hK0 _ ?_
  refine awp_seq fun K1 hK1 => ?_
  refine awp_seq fun K2 hK2 => ?_
  refine awp_region rfl ?_
  refine o_loadA [(AV.lit (.int .i64 (m.regs))), (AV.sl 4 (gcells cI (m.code)))] Gd.none Ye_tA24 rfl rfl rfl rfl rfl ?_
  refine o_ct (c_fValid m) Gd.none Ye_tC46 rfl ?_
  refine o_notP (q := okMac m) Gd.none rfl ?_
  refine aops_end ?_
  refine hK2 _ ?_
  refine awp_condQ (q := ¬ (okMac m)) rfl (fun h1 => ?_) (fun h1 => ?_)
  · refine awp_seq fun K3 hK3 => ?_
    refine awp_region rfl ?_
    refine o_as (AV.lit (.slice none 0 0)) rfl ?_
    refine o_as (nm .i64 (1)) rfl ?_
    refine aops_end ?_
    refine hK3 _ ?_
    refine awp_ret ?_
    refine post_ret ⟨[(AV.sl 2 (gcells cF ([]))), (nm .i64 (1))], And.intro (AV.le_nil' (by decide) (by first | rfl | simp [digs_zero, ns, is])) (And.intro (AV.le_refl _) (trivial)), rfl, ?_⟩
    rw [cmpR, cmpE, if_neg (by assumption), if_neg (by assumption)]; rfl
  · have hM := Decidable.not_not.1 h1
    have hM2 := hM
    obtain ⟨o1, o2, o3, o4, o5⟩ := hM2
    refine awp_skip ?_
    refine hK1 _ ?_
    refine awp_seq fun K4 hK4 => ?_
    refine awp_region rfl ?_
    refine o_as (AV.lit (.slice none 0 0)) rfl ?_
    refine aops_end ?_
    refine hK4 _ ?_
    refine awp_seq fun K5 hK5 => ?_
    refine awp_seq fun K6 hK6 => ?_
    refine awp_region rfl ?_
    refine o_fieldRef 1 Gd.none Ye_tF24_1 rfl rfl ?_
    refine o_loadS (AV.sl 4 (gcells cI (m.code))) Gd.none Ye_tS22 rfl rfl rfl ?_
    refine g_len cI (m.code) cI_len Gd.none Ye_tU22 rfl ?_
    refine o_mv (nm .i64 (0)) rfl ?_
    refine aops_end ?_
    refine hK6 _ ?_
    refine awp_block ?_
    refine awp_loopR (fun κ σ => ∃ (i : Nat), (i ≤ m.code.length) ∧ (m.code.length - i) = κ ∧ σ = ⟨[(1, (AV.ref 2 (0))), (4, (AV.row 50)), (13, (AV.sl 4 (gcells cI (m.code)))), (14, (nm .i64 (m.code.length))), (15, (nm .i64 (i)))], [(2, (AO.var 24 [(AV.lit (.int .i64 (m.regs))), (AV.sl 4 (gcells cI (m.code)))])), (50, (AO.row 52 2 (gcells cF (cmp1 m i))))]⟩) ⟨_, _, ⟨0, (by omega), rfl, rfl⟩, ?wk0⟩ ?rd0
    case wk0 =>
      exact Wk.trans (Wk.newNil (i := 4) (id := 503) (e := 52) (sz := 2) rfl rfl (by decide)) (Wk.trans (Wk.sub (σ' := ⟨[(1, (AV.ref 2 (0))), (4, (AV.row 503)), (13, (AV.sl 4 (gcells cI (m.code)))), (14, (nm .i64 ((m.code).length))), (15, (nm .i64 (0)))], [(2, (AO.var 24 [(AV.lit (.int .i64 (m.regs))), (AV.sl 4 (gcells cI (m.code)))])), (503, (AO.row 52 2 (gcells cF ([]))))]⟩) (And.intro rfl (And.intro rfl (And.intro rfl (And.intro rfl (And.intro rfl (trivial)))))) (And.intro rfl (And.intro rfl (trivial)))) (Wk.trans (Wk.ren (id := 503) (id' := 50) rfl) (Wk.sub (And.intro rfl (And.intro (by first | rfl | (simp)) (And.intro rfl (And.intro (by first | rfl | exact congrArg (nm _) (by omega) | exact nm_int (by omega) | exact nm_int (by simp [IntKind.wrap, IntKind.bits, IntKind.signed]; omega)) (And.intro (by first | rfl | exact congrArg (nm _) (by omega) | exact nm_int (by omega) | exact nm_int (by simp [IntKind.wrap, IntKind.bits, IntKind.signed]; omega)) (trivial)))))) (And.intro (by first | rfl | (exact row_gs (by first | exact cmp1_a rfl (by omega) | exact cmp1_b rfl (by omega) | rfl | (rw [show i = m.code.length by omega]; rfl)))) (And.intro (by first | rfl | exact row_ns (by simp) | (exact row_gs (by first | exact cmp1_a rfl (by omega) | exact cmp1_b rfl (by omega) | rfl | (rw [show i = m.code.length by omega]; rfl)))) (trivial))))))
    rintro κ _ ⟨i, hi, rfl, rfl⟩
    have hle := cmp1_len m i
    refine awp_seq fun K7 hK7 => ?_
    refine awp_region rfl ?_
    refine n_lss (i) (m.code.length) Gd.none rfl rfl ?_
    refine aops_end ?_
    refine hK7 _ ?_
    refine awp_seq fun K8 hK8 => ?_
    refine awp_condQ (q := (i) < (m.code.length)) rfl (fun h2 => ?_) (fun h2 => ?_)
    · have hx := o5 _ (gdm (d := default) h2)
      obtain ⟨⟨x1, x2, x3⟩, x4⟩ := hx
      unfold plc at x3 x4
      have b1 := p30_bd ((m.code).getD (i) default).reg.toNat
      have b2 := twnP_bd m ((m.code).getD (i) default).next
      have b3 := ownP_bd m ((i : Nat) : Int)
      have b4 := Nat.mul_le_mul b2 b1
      have b5 := Nat.mul_le_mul b3 b1
      have b6 := twnP_bd m ((m.code).getD (i) default).els
      refine awp_skip ?_
      refine hK8 _ ?_
      refine awp_seq fun K9 hK9 => ?_
      refine awp_block ?_
      refine awp_seq fun K10 hK10 => ?_
      refine awp_region rfl ?_
      refine o_mv (nm .i64 (i)) rfl ?_
      refine g_index cI (m.code) (i) cI_len rfl Gd.none Ye_tE22 rfl rfl (by omega) ?_
      refine g_loadA cI (m.code) (i) default cI_len Gd.none Ye_tA88 rfl (by omega) ?_
      refine o_alloc 101 [(nm .i64 (0)), (nm .i64 (0)), (nm .i64 (0)), (nm .i64 (0))] Gd.none Ye_tO88 rfl rfl rfl ?_
      refine o_as (nm .i64 (i)) rfl ?_
      refine o_store [(101, (AO.var 88 [(AV.lit (.int .i64 ((((m.code).getD (i) default)).kind))), (AV.lit (.int .i64 ((((m.code).getD (i) default)).reg))), (AV.lit (.int .i64 ((((m.code).getD (i) default)).next))), (AV.lit (.int .i64 ((((m.code).getD (i) default)).els)))])), (2, (AO.var 24 [(AV.lit (.int .i64 (m.regs))), (AV.sl 4 (gcells cI (m.code)))])), (50, (AO.row 52 2 (gcells cF (cmp1 m i))))] Gd.none Ye_tZ88 rfl rfl rfl rfl rfl rfl ?_
      refine aops_end ?_
      refine hK10 _ ?_
      refine awp_seq fun K11 hK11 => ?_
      refine awp_regionD rfl ?_
      refine o_ct c_primes Gd.none Ye_tC56 rfl ?_
      refine o_fieldRef 1 Gd.none Ye_tF88_1 rfl rfl ?_
      refine o_loadS (AV.lit (.int .i64 ((((m.code).getD (i) default)).reg))) Gd.none Ye_tS3 rfl rfl rfl ?_
      refine n_as (v' := (nm .i64 (((m.code).getD (i) default).reg.toNat))) (nm_int (by omega)) ?_
      refine n_indexAgg (P30) (((m.code).getD (i) default).reg.toNat) Gd.none Ye_tR89 Ye_tS3 rfl rfl (by rfl) (by omega) ?_
      refine o_as (nm .i64 ((P30).getD (((m.code).getD (i) default).reg.toNat) 0)) rfl ?_
      refine aops_end ⟨by kernel_rfl, ?_⟩
      refine hK11 _ ?_
      refine awp_seq fun K12 hK12 => ?_
      refine awp_seq fun K13 hK13 => ?_
      refine awp_region rfl ?_
      refine o_fieldRef 0 Gd.none Ye_tF88_0 rfl rfl ?_
      refine o_loadS (AV.lit (.int .i64 ((((m.code).getD (i) default)).kind))) Gd.none Ye_tS3 rfl rfl rfl ?_
      refine o_eql (a := ((((m.code).getD (i) default)).kind)) (c := (((0 : Nat) : Int))) Gd.none rfl rfl ?_
      refine aops_end ?_
      refine hK13 _ ?_
      refine awp_condQ (q := ((((m.code).getD (i) default)).kind) = (((0 : Nat) : Int))) rfl (fun h3 => ?_) (fun h3 => ?_)
      · refine awp_seq fun K14 hK14 => ?_
        refine awp_regionD rfl ?_
        refine o_mv (AV.row 50) rfl ?_
        refine o_loadA [(AV.lit (.int .i64 (m.regs))), (AV.sl 4 (gcells cI (m.code)))] Gd.none Ye_tA24 rfl rfl rfl rfl rfl ?_
        refine o_fieldRef 2 Gd.none Ye_tF88_2 rfl rfl ?_
        refine o_loadS (AV.lit (.int .i64 ((((m.code).getD (i) default)).next))) Gd.none Ye_tS3 rfl rfl rfl ?_
        refine o_ct (c_twin m ((((m.code).getD (i) default)).next) (by omega) (by omega) (by omega) (by omega)) Gd.none Ye_tC58 rfl ?_
        refine o_mv (nm .i64 ((P30).getD (((m.code).getD (i) default).reg.toNat) 0)) rfl ?_
        refine n_mul (twnP m ((((m.code).getD (i) default)).next)) ((P30).getD (((m.code).getD (i) default).reg.toNat) 0) Gd.none rfl rfl (by simp only [topOf]; omega) ?_
        refine o_loadA [(AV.lit (.int .i64 (m.regs))), (AV.sl 4 (gcells cI (m.code)))] Gd.none Ye_tA24 rfl rfl rfl rfl rfl ?_
        refine o_mv (nm .i64 (i)) rfl ?_
        refine o_ct (c_own m (((i : Nat) : Int)) (by omega) (by omega) (by omega) (by omega)) Gd.none Ye_tC59 rfl ?_
        refine o_ct (c_frac ((twnP m ((((m.code).getD (i) default)).next)) * ((P30).getD (((m.code).getD (i) default).reg.toNat) 0)) (ownP m (((i : Nat) : Int))) (by omega) (by omega)) Gd.none Ye_tC57 rfl ?_
        refine o_buildSlice 102 (gcells cF ([(Frc.mk (txt (((twnP m ((((m.code).getD (i) default)).next)) * ((P30).getD (((m.code).getD (i) default).reg.toNat) 0) : Nat) : Int)) (txt ((ownP m (((i : Nat) : Int)) : Nat) : Int)))])) [(0, [(AV.lit (.string (txt (((twnP m ((((m.code).getD (i) default)).next)) * ((P30).getD (((m.code).getD (i) default).reg.toNat) 0) : Nat) : Int)))), (AV.lit (.string (txt ((ownP m (((i : Nat) : Int)) : Nat) : Int))))])] Gd.none Ye_tE26 rfl Ye_tO52 rfl rfl rfl rfl rfl rfl rfl ?_
        refine g_append cF 103 (cmp1 m i) ([(Frc.mk (txt (((twnP m ((((m.code).getD (i) default)).next)) * ((P30).getD (((m.code).getD (i) default).reg.toNat) 0) : Nat) : Int)) (txt ((ownP m (((i : Nat) : Int)) : Nat) : Int)))]) [(102, (AO.row 52 2 (gcells cF ([(Frc.mk (txt (((twnP m ((((m.code).getD (i) default)).next)) * ((P30).getD (((m.code).getD (i) default).reg.toNat) 0) : Nat) : Int)) (txt ((ownP m (((i : Nat) : Int)) : Nat) : Int)))])))), (101, (AO.var 88 [(AV.lit (.int .i64 ((((m.code).getD (i) default)).kind))), (AV.lit (.int .i64 ((((m.code).getD (i) default)).reg))), (AV.lit (.int .i64 ((((m.code).getD (i) default)).next))), (AV.lit (.int .i64 ((((m.code).getD (i) default)).els)))])), (2, (AO.var 24 [(AV.lit (.int .i64 (m.regs))), (AV.sl 4 (gcells cI (m.code)))]))] cF_len rfl Gd.none Ye_tE26 Ye_tO52 rfl rfl rfl rfl rfl (by simp only [List.length_append, List.length_cons, List.length_nil]; omega) (by simp only [List.length_append, List.length_cons, List.length_nil]; omega) rfl rfl ?_
        refine o_as (AV.row 103) rfl ?_
        refine aops_end ⟨by kernel_rfl, ?_⟩
        refine hK14 _ ?_
        refine awp_exit ?_
        refine hK9 _ ?_
        refine awp_region rfl ?_
        refine n_add (i) (1) Gd.none rfl rfl (by simp only [topOf]; omega) ?_
        refine o_mv (nm .i64 ((i) + (1))) rfl ?_
        refine aops_end ?_
        refine ⟨_, _, ?lt, ⟨i + 1, (by omega), rfl, rfl⟩, ?wk⟩
        case lt => omega
        case wk => exact Wk.trans (Wk.sub (σ' := ⟨[(1, (AV.ref 2 (0))), (4, (AV.row 103)), (13, (AV.sl 4 (gcells cI (m.code)))), (14, (nm .i64 (m.code.length))), (15, (nm .i64 ((i) + (1))))], [(2, (AO.var 24 [(AV.lit (.int .i64 (m.regs))), (AV.sl 4 (gcells cI (m.code)))])), (103, (AO.row 52 2 (gcells cF ((cmp1 m i) ++ ([(Frc.mk (txt (((twnP m ((((m.code).getD (i) default)).next)) * ((P30).getD (((m.code).getD (i) default).reg.toNat) 0) : Nat) : Int)) (txt ((ownP m (((i : Nat) : Int)) : Nat) : Int)))])))))]⟩) (And.intro rfl (And.intro rfl (And.intro rfl (And.intro rfl (And.intro rfl (trivial)))))) (And.intro rfl (And.intro rfl (trivial)))) (Wk.trans (Wk.ren (id := 103) (id' := 50) rfl) (Wk.sub (And.intro rfl (And.intro (by first | rfl | (simp)) (And.intro rfl (And.intro rfl (And.intro (by first | rfl | exact congrArg (nm _) (by omega) | exact nm_int (by omega) | exact nm_int (by simp [IntKind.wrap, IntKind.bits, IntKind.signed]; omega)) (trivial)))))) (And.intro rfl (And.intro (by first | rfl | exact row_ns (by simp) | (exact row_gs (by first | exact cmp1_a rfl (by omega) | exact cmp1_b rfl (by omega) | rfl | (rw [show i = m.code.length by omega]; rfl)))) (trivial)))))
      · refine awp_skip ?_
        refine hK12 _ ?_
        refine awp_regionD rfl ?_
        refine o_mv (AV.row 50) rfl ?_
        refine o_loadA [(AV.lit (.int .i64 (m.regs))), (AV.sl 4 (gcells cI (m.code)))] Gd.none Ye_tA24 rfl rfl rfl rfl rfl ?_
        refine o_fieldRef 2 Gd.none Ye_tF88_2 rfl rfl ?_
        refine o_loadS (AV.lit (.int .i64 ((((m.code).getD (i) default)).next))) Gd.none Ye_tS3 rfl rfl rfl ?_
        refine o_ct (c_twin m ((((m.code).getD (i) default)).next) (by omega) (by omega) (by omega) (by omega)) Gd.none Ye_tC58 rfl ?_
        refine o_loadA [(AV.lit (.int .i64 (m.regs))), (AV.sl 4 (gcells cI (m.code)))] Gd.none Ye_tA24 rfl rfl rfl rfl rfl ?_
        refine o_mv (nm .i64 (i)) rfl ?_
        refine o_ct (c_own m (((i : Nat) : Int)) (by omega) (by omega) (by omega) (by omega)) Gd.none Ye_tC59 rfl ?_
        refine o_mv (nm .i64 ((P30).getD (((m.code).getD (i) default).reg.toNat) 0)) rfl ?_
        refine n_mul (ownP m (((i : Nat) : Int))) ((P30).getD (((m.code).getD (i) default).reg.toNat) 0) Gd.none rfl rfl (by simp only [topOf]; omega) ?_
        refine o_ct (c_frac (twnP m ((((m.code).getD (i) default)).next)) ((ownP m (((i : Nat) : Int))) * ((P30).getD (((m.code).getD (i) default).reg.toNat) 0)) (by omega) (by omega)) Gd.none Ye_tC57 rfl ?_
        refine o_loadA [(AV.lit (.int .i64 (m.regs))), (AV.sl 4 (gcells cI (m.code)))] Gd.none Ye_tA24 rfl rfl rfl rfl rfl ?_
        refine o_fieldRef 3 Gd.none Ye_tF88_3 rfl rfl ?_
        refine o_loadS (AV.lit (.int .i64 ((((m.code).getD (i) default)).els))) Gd.none Ye_tS3 rfl rfl rfl ?_
        refine o_ct (c_twin m ((((m.code).getD (i) default)).els) (by omega) (by omega) (by omega) (by omega)) Gd.none Ye_tC58 rfl ?_
        refine o_loadA [(AV.lit (.int .i64 (m.regs))), (AV.sl 4 (gcells cI (m.code)))] Gd.none Ye_tA24 rfl rfl rfl rfl rfl ?_
        refine o_mv (nm .i64 (i)) rfl ?_
        refine o_ct (c_own m (((i : Nat) : Int)) (by omega) (by omega) (by omega) (by omega)) Gd.none Ye_tC59 rfl ?_
        refine o_ct (c_frac (twnP m ((((m.code).getD (i) default)).els)) (ownP m (((i : Nat) : Int))) (by omega) (by omega)) Gd.none Ye_tC57 rfl ?_
        refine o_buildSlice 102 (gcells cF ([(Frc.mk (txt ((twnP m ((((m.code).getD (i) default)).next) : Nat) : Int)) (txt (((ownP m (((i : Nat) : Int))) * ((P30).getD (((m.code).getD (i) default).reg.toNat) 0) : Nat) : Int))), (Frc.mk (txt ((twnP m ((((m.code).getD (i) default)).els) : Nat) : Int)) (txt ((ownP m (((i : Nat) : Int)) : Nat) : Int)))])) [(0, [(AV.lit (.string (txt ((twnP m ((((m.code).getD (i) default)).next) : Nat) : Int)))), (AV.lit (.string (txt (((ownP m (((i : Nat) : Int))) * ((P30).getD (((m.code).getD (i) default).reg.toNat) 0) : Nat) : Int))))]), (1, [(AV.lit (.string (txt ((twnP m ((((m.code).getD (i) default)).els) : Nat) : Int)))), (AV.lit (.string (txt ((ownP m (((i : Nat) : Int)) : Nat) : Int))))])] Gd.none Ye_tE26 rfl Ye_tO52 rfl rfl rfl rfl rfl rfl rfl ?_
        refine g_append cF 103 (cmp1 m i) ([(Frc.mk (txt ((twnP m ((((m.code).getD (i) default)).next) : Nat) : Int)) (txt (((ownP m (((i : Nat) : Int))) * ((P30).getD (((m.code).getD (i) default).reg.toNat) 0) : Nat) : Int))), (Frc.mk (txt ((twnP m ((((m.code).getD (i) default)).els) : Nat) : Int)) (txt ((ownP m (((i : Nat) : Int)) : Nat) : Int)))]) [(102, (AO.row 52 2 (gcells cF ([(Frc.mk (txt ((twnP m ((((m.code).getD (i) default)).next) : Nat) : Int)) (txt (((ownP m (((i : Nat) : Int))) * ((P30).getD (((m.code).getD (i) default).reg.toNat) 0) : Nat) : Int))), (Frc.mk (txt ((twnP m ((((m.code).getD (i) default)).els) : Nat) : Int)) (txt ((ownP m (((i : Nat) : Int)) : Nat) : Int)))])))), (101, (AO.var 88 [(AV.lit (.int .i64 ((((m.code).getD (i) default)).kind))), (AV.lit (.int .i64 ((((m.code).getD (i) default)).reg))), (AV.lit (.int .i64 ((((m.code).getD (i) default)).next))), (AV.lit (.int .i64 ((((m.code).getD (i) default)).els)))])), (2, (AO.var 24 [(AV.lit (.int .i64 (m.regs))), (AV.sl 4 (gcells cI (m.code)))]))] cF_len rfl Gd.none Ye_tE26 Ye_tO52 rfl rfl rfl rfl rfl (by simp only [List.length_append, List.length_cons, List.length_nil]; omega) (by simp only [List.length_append, List.length_cons, List.length_nil]; omega) rfl rfl ?_
        refine o_as (AV.row 103) rfl ?_
        refine aops_end ⟨by kernel_rfl, ?_⟩
        refine hK9 _ ?_
        refine awp_region rfl ?_
        refine n_add (i) (1) Gd.none rfl rfl (by simp only [topOf]; omega) ?_
        refine o_mv (nm .i64 ((i) + (1))) rfl ?_
        refine aops_end ?_
        refine ⟨_, _, ?lt, ⟨i + 1, (by omega), rfl, rfl⟩, ?wk⟩
        case lt => omega
        case wk => exact Wk.trans (Wk.sub (σ' := ⟨[(1, (AV.ref 2 (0))), (4, (AV.row 103)), (13, (AV.sl 4 (gcells cI (m.code)))), (14, (nm .i64 (m.code.length))), (15, (nm .i64 ((i) + (1))))], [(2, (AO.var 24 [(AV.lit (.int .i64 (m.regs))), (AV.sl 4 (gcells cI (m.code)))])), (103, (AO.row 52 2 (gcells cF ((cmp1 m i) ++ ([(Frc.mk (txt ((twnP m ((((m.code).getD (i) default)).next) : Nat) : Int)) (txt (((ownP m (((i : Nat) : Int))) * ((P30).getD (((m.code).getD (i) default).reg.toNat) 0) : Nat) : Int))), (Frc.mk (txt ((twnP m ((((m.code).getD (i) default)).els) : Nat) : Int)) (txt ((ownP m (((i : Nat) : Int)) : Nat) : Int)))])))))]⟩) (And.intro rfl (And.intro rfl (And.intro rfl (And.intro rfl (And.intro rfl (trivial)))))) (And.intro rfl (And.intro rfl (trivial)))) (Wk.trans (Wk.ren (id := 103) (id' := 50) rfl) (Wk.sub (And.intro rfl (And.intro (by first | rfl | (simp)) (And.intro rfl (And.intro rfl (And.intro (by first | rfl | exact congrArg (nm _) (by omega) | exact nm_int (by omega) | exact nm_int (by simp [IntKind.wrap, IntKind.bits, IntKind.signed]; omega)) (trivial)))))) (And.intro rfl (And.intro (by first | rfl | exact row_ns (by simp) | (exact row_gs (by first | exact cmp1_a rfl (by omega) | exact cmp1_b rfl (by omega) | rfl | (rw [show i = m.code.length by omega]; rfl)))) (trivial)))))
    · refine awp_exit ?_
      refine hK5 _ ?_
      refine awp_seq fun K15 hK15 => ?_
      refine awp_seq fun K16 hK16 => ?_
      refine awp_region rfl ?_
      refine o_fieldRef 1 Gd.none Ye_tF24_1 rfl rfl ?_
      refine o_loadS (AV.sl 4 (gcells cI (m.code))) Gd.none Ye_tS22 rfl rfl rfl ?_
      refine g_len cI (m.code) cI_len Gd.none Ye_tU22 rfl ?_
      refine n_add ((m.code).length) (1) Gd.none rfl rfl (by simp only [topOf]; omega) ?_
      refine o_mv (nm .i64 (0)) rfl ?_
      refine aops_end ?_
      refine hK16 _ ?_
      refine awp_block ?_
      refine awp_loopR (fun κ σ => ∃ (j : Nat), (j ≤ m.code.length + 1) ∧ (m.code.length + 1 - j) = κ ∧ σ = ⟨[(1, (AV.ref 2 (0))), (4, (AV.row 50)), (65, (nm .i64 (m.code.length + 1))), (66, (nm .i64 (j)))], [(2, (AO.var 24 [(AV.lit (.int .i64 (m.regs))), (AV.sl 4 (gcells cI (m.code)))])), (50, (AO.row 52 2 (gcells cF (cmp2 m j))))]⟩) ⟨_, _, ⟨0, (by omega), rfl, rfl⟩, ?wk1⟩ ?rd1
      case wk1 =>
        exact Wk.sub (And.intro rfl (And.intro rfl (And.intro (by first | rfl | exact congrArg (nm _) (by omega) | exact nm_int (by omega) | exact nm_int (by simp [IntKind.wrap, IntKind.bits, IntKind.signed]; omega)) (And.intro (by first | rfl | exact congrArg (nm _) (by omega) | exact nm_int (by omega) | exact nm_int (by simp [IntKind.wrap, IntKind.bits, IntKind.signed]; omega)) (trivial))))) (And.intro rfl (And.intro (by first | rfl | exact row_ns (by simp) | (exact row_gs (by first | exact cmp1_a rfl (by omega) | exact cmp1_b rfl (by omega) | rfl | (rw [show i = m.code.length by omega]; rfl)))) (trivial)))
      rintro κ _ ⟨j, hj, rfl, rfl⟩
      have hle := cmp2_len m j
      refine awp_seq fun K17 hK17 => ?_
      refine awp_region rfl ?_
      refine n_lss (j) (m.code.length + 1) Gd.none rfl rfl ?_
      refine aops_end ?_
      refine hK17 _ ?_
      refine awp_seq fun K18 hK18 => ?_
      refine awp_condQ (q := (j) < (m.code.length + 1)) rfl (fun h4 => ?_) (fun h4 => ?_)
      · have b7 := ownP_bd m ((j : Nat) : Int)
        have b8 := twnP_bd m ((j : Nat) : Int)
        refine awp_skip ?_
        refine hK18 _ ?_
        refine awp_seq fun K19 hK19 => ?_
        refine awp_block ?_
        refine awp_seq fun K20 hK20 => ?_
        refine awp_region rfl ?_
        refine o_mv (nm .i64 (j)) rfl ?_
        refine o_as (nm .i64 (j)) rfl ?_
        refine aops_end ?_
        refine hK20 _ ?_
        refine awp_regionD rfl ?_
        refine o_mv (AV.row 50) rfl ?_
        refine o_loadA [(AV.lit (.int .i64 (m.regs))), (AV.sl 4 (gcells cI (m.code)))] Gd.none Ye_tA24 rfl rfl rfl rfl rfl ?_
        refine o_mv (nm .i64 (j)) rfl ?_
        refine o_ct (c_own m (((j : Nat) : Int)) (by omega) (by omega) (by omega) (by omega)) Gd.none Ye_tC59 rfl ?_
        refine o_loadA [(AV.lit (.int .i64 (m.regs))), (AV.sl 4 (gcells cI (m.code)))] Gd.none Ye_tA24 rfl rfl rfl rfl rfl ?_
        refine o_mv (nm .i64 (j)) rfl ?_
        refine o_ct (c_twin m (((j : Nat) : Int)) (by omega) (by omega) (by omega) (by omega)) Gd.none Ye_tC58 rfl ?_
        refine o_ct (c_frac (ownP m (((j : Nat) : Int))) (twnP m (((j : Nat) : Int))) (by omega) (by omega)) Gd.none Ye_tC57 rfl ?_
        refine o_buildSlice 201 (gcells cF ([(Frc.mk (txt ((ownP m (((j : Nat) : Int)) : Nat) : Int)) (txt ((twnP m (((j : Nat) : Int)) : Nat) : Int)))])) [(0, [(AV.lit (.string (txt ((ownP m (((j : Nat) : Int)) : Nat) : Int)))), (AV.lit (.string (txt ((twnP m (((j : Nat) : Int)) : Nat) : Int))))])] Gd.none Ye_tE26 rfl Ye_tO52 rfl rfl rfl rfl rfl rfl rfl ?_
        refine g_append cF 202 (cmp2 m j) ([(Frc.mk (txt ((ownP m (((j : Nat) : Int)) : Nat) : Int)) (txt ((twnP m (((j : Nat) : Int)) : Nat) : Int)))]) [(201, (AO.row 52 2 (gcells cF ([(Frc.mk (txt ((ownP m (((j : Nat) : Int)) : Nat) : Int)) (txt ((twnP m (((j : Nat) : Int)) : Nat) : Int)))])))), (2, (AO.var 24 [(AV.lit (.int .i64 (m.regs))), (AV.sl 4 (gcells cI (m.code)))]))] cF_len rfl Gd.none Ye_tE26 Ye_tO52 rfl rfl rfl rfl rfl (by simp only [List.length_append, List.length_cons, List.length_nil]; omega) (by simp only [List.length_append, List.length_cons, List.length_nil]; omega) rfl rfl ?_
        refine o_as (AV.row 202) rfl ?_
        refine aops_end ⟨by kernel_rfl, ?_⟩
        refine hK19 _ ?_
        refine awp_region rfl ?_
        refine n_add (j) (1) Gd.none rfl rfl (by simp only [topOf]; omega) ?_
        refine o_mv (nm .i64 ((j) + (1))) rfl ?_
        refine aops_end ?_
        refine ⟨_, _, ?lt, ⟨j + 1, (by omega), rfl, rfl⟩, ?wk⟩
        case lt => omega
        case wk => exact Wk.trans (Wk.sub (σ' := ⟨[(1, (AV.ref 2 (0))), (4, (AV.row 202)), (65, (nm .i64 (m.code.length + 1))), (66, (nm .i64 ((j) + (1))))], [(2, (AO.var 24 [(AV.lit (.int .i64 (m.regs))), (AV.sl 4 (gcells cI (m.code)))])), (202, (AO.row 52 2 (gcells cF ((cmp2 m j) ++ ([(Frc.mk (txt ((ownP m (((j : Nat) : Int)) : Nat) : Int)) (txt ((twnP m (((j : Nat) : Int)) : Nat) : Int)))])))))]⟩) (And.intro rfl (And.intro rfl (And.intro rfl (And.intro rfl (trivial))))) (And.intro rfl (And.intro rfl (trivial)))) (Wk.trans (Wk.ren (id := 202) (id' := 50) rfl) (Wk.sub (And.intro rfl (And.intro (by first | rfl | (simp)) (And.intro rfl (And.intro (by first | rfl | exact congrArg (nm _) (by omega) | exact nm_int (by omega) | exact nm_int (by simp [IntKind.wrap, IntKind.bits, IntKind.signed]; omega)) (trivial))))) (And.intro rfl (And.intro (by first | rfl | exact row_ns (by simp) | (exact row_gs (by first | exact cmp1_a rfl (by omega) | exact cmp1_b rfl (by omega) | rfl | (rw [show i = m.code.length by omega]; rfl)))) (trivial)))))
      · refine awp_exit ?_
        refine hK15 _ ?_
        refine awp_seq fun K21 hK21 => ?_
        refine awp_region rfl ?_
        refine o_mv (AV.row 50) rfl ?_
        refine o_as (AV.row 50) rfl ?_
        refine o_as (nm .i64 (0)) rfl ?_
        refine aops_end ?_
        refine hK21 _ ?_
        refine awp_wk (σ' := ⟨[(2, (AV.row 50)), (3, (nm .i64 (0)))], [(50, (AO.row 52 2 (gcells cF (cmp2 m j))))]⟩) (Wk.sub (And.intro rfl (And.intro rfl (trivial))) (And.intro rfl (trivial))) ?_
        refine awp_wk (σ' := ⟨[(2, (AV.sl 2 (gcells cF (cmp2 m j)))), (3, (nm .i64 (0)))], []⟩) (Wk.freeze (id := 50) (e := 52) (sz := 2) (cs := (gcells cF (cmp2 m j))) rfl) ?_
        refine awp_ret ?_
        refine post_ret ⟨[(AV.sl 2 (gcells cF (cmp2 m j))), (nm .i64 (0))], And.intro (AV.le_refl _) (And.intro (AV.le_refl _) (trivial)), rfl, ?_⟩
        rw [cmpR, cmpE, if_pos hM, if_pos hM, show m.code.length + 1 = j by omega]; rfl

theorem c_Encode (m : Mac) (c : Cfg) : ECalls cx 37 [(macV m), (cfgV c)] (.tup [.lit (.string (encS m c)), nm .i64 (encE m c)]) := by
  refine ecalls_of_awp Tryz.func37 (c := _) rfl (Nat.le_of_ble_eq_true rfl) ?_
  show awp cx 50 _ (postF cx Tryz.f37 _) ⟨[(0, (macV m)), (1, (cfgV c))], []⟩
  refine awp_seq fun K0 hK0 => ?_
  refine awp_region rfl ?_
  refine o_box 2 [(AV.lit (.int .i64 (m.regs))), (AV.sl 4 (gcells cI (m.code)))] Gd.none rfl rfl ?_
  refine o_box 3 [(AV.lit (.int .i64 (c.at'))), (AV.sl 1 (is .i64 (c.regs)))] Gd.none rfl rfl ?_
  refine o_as (AV.lit (.string (({data := #[]} : ByteArray)))) rfl ?_
  refine o_as (nm .i64 (0)) rfl ?_
  refine aops_end ?_
  refine hK0 _ ?_
  refine awp_seq fun K1 hK1 => ?_
  refine awp_seq fun K2 hK2 => ?_
  refine awp_region rfl ?_
  refine o_loadA [(AV.lit (.int .i64 (m.regs))), (AV.sl 4 (gcells cI (m.code)))] Gd.none Ye_tA24 rfl rfl rfl rfl rfl ?_
  refine o_loadA [(AV.lit (.int .i64 (c.at'))), (AV.sl 1 (is .i64 (c.regs)))] Gd.none Ye_tA65 rfl rfl rfl rfl rfl ?_
  refine o_ct (c_fFits m c) Gd.none Ye_tC47 rfl ?_
  refine o_notP (q := okCfg m c) Gd.none rfl ?_
  refine aops_end ?_
  refine hK2 _ ?_
  refine awp_condQ (q := ¬ (okCfg m c)) rfl (fun h1 => ?_) (fun h1 => ?_)
  · refine awp_seq fun K3 hK3 => ?_
    refine awp_region rfl ?_
    refine o_as (AV.lit (.string (({data := #[]} : ByteArray)))) rfl ?_
    refine o_as (nm .i64 (1)) rfl ?_
    refine aops_end ?_
    refine hK3 _ ?_
    refine awp_ret ?_
    refine post_ret ⟨[(AV.lit (.string (({data := #[]} : ByteArray)))), (nm .i64 (1))], And.intro (AV.le_refl _) (And.intro (AV.le_refl _) (trivial)), rfl, ?_⟩
    first | (rw [encS, encE, if_neg (by assumption), if_neg (by assumption)]; rfl) | (have hN : ¬ Fit (numC m c) := (by rw [hp, hdr]; intro hf; first | exact tld_big (by assumption) (fit_mul_le pp pr (fit_mul_le hz (Int.mul_pos pp pr) hf).2).1 | exact tld_big (by assumption) (fit_mul_le (Int.mul_pos hz pp) pr (by rw [Int.mul_assoc]; exact hf)).1); rw [encS, encE, if_pos hC, if_pos hC, tld_3 hN, show toldS (numC m c) = { data := #[] } from if_neg hN]; rw [tld_3 (tld_big (by assumption))]; rfl) | (have hE : numC m c = numS s := (by rw [hp, List.drop_of_length_le (by omega)]; exact Int.mul_one _); have hf := fit_numS (okS_iff.1 ho); rw [encS, encE, if_pos hC, if_pos hC, hE, (told_fit hf).1, (told_fit hf).2, txt_numS (okS_iff.1 ho)]; rfl)
  · have hC := Decidable.not_not.1 h1
    have hC2 := hC
    obtain ⟨⟨o1, o2, o3, o4, o5⟩, q1, q2, q3⟩ := hC2
    unfold plc at q1
    have b0 := ownP_bd m c.at'
    have os := txt_sz2 (fit_113 b0)
    have ow : 2 ≤ ownP m c.at' := p30_ge _ (by omega)
    refine awp_skip ?_
    refine hK1 _ ?_
    refine awp_seq fun K4 hK4 => ?_
    refine awp_region rfl ?_
    refine o_loadA [(AV.lit (.int .i64 (m.regs))), (AV.sl 4 (gcells cI (m.code)))] Gd.none Ye_tA24 rfl rfl rfl rfl rfl ?_
    refine o_fieldRef 0 Gd.none Ye_tF65_0 rfl rfl ?_
    refine o_loadS (AV.lit (.int .i64 (c.at'))) Gd.none Ye_tS3 rfl rfl rfl ?_
    refine o_ct (c_own m (c.at') (by omega) (by omega) (by omega) (by omega)) Gd.none Ye_tC59 rfl ?_
    refine o_ct (c_itoa (ownP m (c.at')) (by omega)) Gd.none Ye_tC82 rfl ?_
    refine o_as (AV.lit (.string (txt ((ownP m (c.at') : Nat) : Int)))) rfl ?_
    refine aops_end ?_
    refine hK4 _ ?_
    refine awp_seq fun K5 hK5 => ?_
    refine awp_seq fun K6 hK6 => ?_
    refine awp_region rfl ?_
    refine o_fieldRef 1 Gd.none Ye_tF65_1 rfl rfl ?_
    refine o_loadS (AV.sl 1 (is .i64 (c.regs))) Gd.none Ye_tS37 rfl rfl rfl ?_
    refine i_len (c.regs) Gd.none Ye_tU37 rfl ?_
    refine o_mv (nm .i64 (0)) rfl ?_
    refine aops_end ?_
    refine hK6 _ ?_
    refine awp_block ?_
    refine awp_loopR (fun κ σ => ∃ (i : Nat), ∃ (s : ByteArray), (i ≤ c.regs.length) ∧ (numC m c = numS s * prdZ i (c.regs.drop i)) ∧ (okS s = true) ∧ (0 < numS s) ∧ (s.size ≤ 9223372036854775807) ∧ (c.regs.length - i) = κ ∧ σ = ⟨[(6, (AV.lit (.string (s)))), (21, (AV.sl 1 (is .i64 (c.regs)))), (22, (nm .i64 (c.regs.length))), (23, (nm .i64 (i)))], []⟩) ⟨_, _, ⟨0, txt ((ownP m c.at' : Nat) : Int), (by omega), (by rw [numS_txt]; rfl), (okS_iff.2 (okS_txt (fit_113 b0))), (by rw [numS_txt]; omega), os, rfl, rfl⟩, ?wk0⟩ ?rd0
    case wk0 =>
      exact Wk.sub (And.intro (by first | rfl | (simp)) (And.intro rfl (And.intro (by first | rfl | exact congrArg (nm _) (by omega) | exact nm_int (by omega) | exact nm_int (by simp [IntKind.wrap, IntKind.bits, IntKind.signed]; omega)) (And.intro (by first | rfl | exact congrArg (nm _) (by omega) | exact nm_int (by omega) | exact nm_int (by simp [IntKind.wrap, IntKind.bits, IntKind.signed]; omega)) (trivial))))) (trivial)
    rintro κ _ ⟨i, s, hi, hp, ho, hz, hs, rfl, rfl⟩
    refine awp_seq fun K7 hK7 => ?_
    refine awp_region rfl ?_
    refine n_lss (i) (c.regs.length) Gd.none rfl rfl ?_
    refine aops_end ?_
    refine hK7 _ ?_
    refine awp_seq fun K8 hK8 => ?_
    refine awp_condQ (q := (i) < (c.regs.length)) rfl (fun h2 => ?_) (fun h2 => ?_)
    · have hr := q3 _ (gdm (d := 0) h2)
      unfold regP at hr
      have b1 := p30_bd i
      have ps := txt_sz2 (fit_113 b1)
      have hw := pow_str b1 hr
      have p2 := p30_ge i (by omega)
      have pp : 0 < (((P30.getD (i) 0 : Nat) : Int) ^ ((c.regs).getD (i) 0).toNat) := Int.pow_pos (by omega)
      have tz := told_sz (((P30.getD (i) 0 : Nat) : Int) ^ ((c.regs).getD (i) 0).toNat)
      have hdr := prd_drop (j := i) h2
      have pr := prd_pos (c.regs.drop (i + 1)) (i + 1) (by rw [List.length_drop]; omega)
      refine awp_skip ?_
      refine hK8 _ ?_
      refine awp_seq fun K9 hK9 => ?_
      refine awp_block ?_
      refine awp_seq fun K10 hK10 => ?_
      refine awp_region rfl ?_
      refine o_mv (nm .i64 (i)) rfl ?_
      refine i_index (c.regs) (i) Gd.none Ye_tE37 rfl rfl (by omega) ?_
      refine i_loadI (c.regs) (i) Gd.none Ye_tS3 rfl (by omega) ?_
      refine o_as (nm .i64 (i)) rfl ?_
      refine o_as (AV.lit (.int .i64 ((c.regs).getD (i) 0))) rfl ?_
      refine aops_end ?_
      refine hK10 _ ?_
      refine awp_seq fun K11 hK11 => ?_
      refine awp_region rfl ?_
      refine o_ct c_primes Gd.none Ye_tC56 rfl ?_
      refine o_mv (nm .i64 (i)) rfl ?_
      refine n_indexAgg (P30) (i) Gd.none Ye_tR89 Ye_tS3 rfl rfl (by rfl) (by omega) ?_
      refine o_ct (c_itoa ((P30).getD (i) 0) (by omega)) Gd.none Ye_tC82 rfl ?_
      refine o_mv (AV.lit (.int .i64 ((c.regs).getD (i) 0))) rfl ?_
      refine o_ct (c_nPower (txt (((P30).getD (i) 0 : Nat) : Int)) ((c.regs).getD (i) 0) (by first | assumption | decide | omega)) Gd.none Ye_tC83 rfl ?_
      refine o_mv (AV.tup [(AV.lit (.string (powS (txt (((P30).getD (i) 0 : Nat) : Int)) ((c.regs).getD (i) 0)))), (nm .i64 (powE (txt (((P30).getD (i) 0 : Nat) : Int)) ((c.regs).getD (i) 0)))]) rfl ?_
      refine o_extract (AV.lit (.string (powS (txt (((P30).getD (i) 0 : Nat) : Int)) ((c.regs).getD (i) 0)))) Gd.none rfl rfl ?_
      refine n_as (v' := (AV.lit (.string (toldS (((P30.getD (i) 0 : Nat) : Int) ^ ((c.regs).getD (i) 0).toNat))))) (by exact str_as2 hw.1) ?_
      refine o_extract (nm .i64 (powE (txt (((P30).getD (i) 0 : Nat) : Int)) ((c.regs).getD (i) 0))) Gd.none rfl rfl ?_
      refine n_as (v' := (nm .i64 (toldE (((P30.getD (i) 0 : Nat) : Int) ^ ((c.regs).getD (i) 0).toNat)))) (by exact congrArg (nm _) hw.2) ?_
      refine o_as (AV.lit (.string (toldS (((P30.getD (i) 0 : Nat) : Int) ^ ((c.regs).getD (i) 0).toNat)))) rfl ?_
      refine o_as (nm .i64 (toldE (((P30.getD (i) 0 : Nat) : Int) ^ ((c.regs).getD (i) 0).toNat))) rfl ?_
      refine aops_end ?_
      refine hK11 _ ?_
      refine awp_seq fun K12 hK12 => ?_
      refine awp_seq fun K13 hK13 => ?_
      refine awp_region rfl ?_
      refine o_mv (nm .i64 (toldE (((P30.getD (i) 0 : Nat) : Int) ^ ((c.regs).getD (i) 0).toNat))) rfl ?_
      refine n_eql (toldE (((P30.getD (i) 0 : Nat) : Int) ^ ((c.regs).getD (i) 0).toNat)) (0) Gd.none rfl rfl ?_
      refine aops_end ?_
      refine hK13 _ ?_
      refine awp_condQ (q := (toldE (((P30.getD (i) 0 : Nat) : Int) ^ ((c.regs).getD (i) 0).toNat)) = (0)) rfl (fun h3 => ?_) (fun h3 => ?_)
      · have hF : Fit (((P30.getD (i) 0 : Nat) : Int) ^ ((c.regs).getD (i) 0).toNat) := tld_ok (fun e => e (by assumption))
        obtain ⟨w1, w2⟩ := told_fit hF
        have hm := mul_str (a := s) (b := toldS (((P30.getD (i) 0 : Nat) : Int) ^ ((c.regs).getD (i) 0).toNat)) ⟨ho, by rw [w1]; exact okS_iff.2 (okS_txt hF)⟩
        have hn1 : numS (toldS (((P30.getD (i) 0 : Nat) : Int) ^ ((c.regs).getD (i) 0).toNat)) = (((P30.getD (i) 0 : Nat) : Int) ^ ((c.regs).getD (i) 0).toNat) := by rw [w1, numS_txt]
        refine awp_region rfl ?_
        refine o_mv (AV.lit (.string (s))) rfl ?_
        refine o_mv (AV.lit (.string (toldS (((P30.getD (i) 0 : Nat) : Int) ^ ((c.regs).getD (i) 0).toNat)))) rfl ?_
        refine o_ct (c_nMul (s) (toldS (((P30.getD (i) 0 : Nat) : Int) ^ ((c.regs).getD (i) 0).toNat)) (by first | assumption | decide | omega) (by first | assumption | decide | omega)) Gd.none Ye_tC72 rfl ?_
        refine o_mv (AV.tup [(AV.lit (.string ((if okS (s) && okS (toldS (((P30.getD (i) 0 : Nat) : Int) ^ ((c.regs).getD (i) 0).toNat)) then (toldS (numS (s) * numS (toldS (((P30.getD (i) 0 : Nat) : Int) ^ ((c.regs).getD (i) 0).toNat)))) else (({ data := #[] } : ByteArray)))))), (nm .i64 ((if okS (s) && okS (toldS (((P30.getD (i) 0 : Nat) : Int) ^ ((c.regs).getD (i) 0).toNat)) then (toldE (numS (s) * numS (toldS (((P30.getD (i) 0 : Nat) : Int) ^ ((c.regs).getD (i) 0).toNat)))) else (1))))]) rfl ?_
        refine o_extract (AV.lit (.string ((if okS (s) && okS (toldS (((P30.getD (i) 0 : Nat) : Int) ^ ((c.regs).getD (i) 0).toNat)) then (toldS (numS (s) * numS (toldS (((P30.getD (i) 0 : Nat) : Int) ^ ((c.regs).getD (i) 0).toNat)))) else (({ data := #[] } : ByteArray)))))) Gd.none rfl rfl ?_
        refine n_as (v' := (AV.lit (.string (toldS (numS s * (((P30.getD (i) 0 : Nat) : Int) ^ ((c.regs).getD (i) 0).toNat)))))) (by exact str_as2 (hm.1.trans (by rw [hn1]))) ?_
        refine o_extract (nm .i64 ((if okS (s) && okS (toldS (((P30.getD (i) 0 : Nat) : Int) ^ ((c.regs).getD (i) 0).toNat)) then (toldE (numS (s) * numS (toldS (((P30.getD (i) 0 : Nat) : Int) ^ ((c.regs).getD (i) 0).toNat)))) else (1)))) Gd.none rfl rfl ?_
        refine n_as (v' := (nm .i64 (toldE (numS s * (((P30.getD (i) 0 : Nat) : Int) ^ ((c.regs).getD (i) 0).toNat))))) (by exact congrArg (nm _) (hm.2.trans (by rw [hn1]))) ?_
        refine o_as (AV.lit (.string (toldS (numS s * (((P30.getD (i) 0 : Nat) : Int) ^ ((c.regs).getD (i) 0).toNat))))) rfl ?_
        refine o_as (nm .i64 (toldE (numS s * (((P30.getD (i) 0 : Nat) : Int) ^ ((c.regs).getD (i) 0).toNat)))) rfl ?_
        refine aops_end ?_
        refine hK12 _ ?_
        refine awp_seq fun K14 hK14 => ?_
        refine awp_region rfl ?_
        refine o_mv (nm .i64 (toldE (numS s * (((P30.getD (i) 0 : Nat) : Int) ^ ((c.regs).getD (i) 0).toNat)))) rfl ?_
        refine n_neq (toldE (numS s * (((P30.getD (i) 0 : Nat) : Int) ^ ((c.regs).getD (i) 0).toNat))) (0) Gd.none rfl rfl ?_
        refine aops_end ?_
        refine hK14 _ ?_
        refine awp_condQ (q := (toldE (numS s * (((P30.getD (i) 0 : Nat) : Int) ^ ((c.regs).getD (i) 0).toNat))) ≠ (0)) rfl (fun h4 => ?_) (fun h4 => ?_)
        · refine awp_seq fun K15 hK15 => ?_
          refine awp_region rfl ?_
          refine o_mv (nm .i64 (toldE (numS s * (((P30.getD (i) 0 : Nat) : Int) ^ ((c.regs).getD (i) 0).toNat)))) rfl ?_
          refine o_as (AV.lit (.string (({data := #[]} : ByteArray)))) rfl ?_
          refine o_as (nm .i64 (toldE (numS s * (((P30.getD (i) 0 : Nat) : Int) ^ ((c.regs).getD (i) 0).toNat)))) rfl ?_
          refine aops_end ?_
          refine hK15 _ ?_
          refine awp_ret ?_
          refine post_ret ⟨[(AV.lit (.string (({data := #[]} : ByteArray)))), (nm .i64 (toldE (numS s * (((P30.getD (i) 0 : Nat) : Int) ^ ((c.regs).getD (i) 0).toNat))))], And.intro (AV.le_refl _) (And.intro (AV.le_refl _) (trivial)), rfl, ?_⟩
          first | (rw [encS, encE, if_neg (by assumption), if_neg (by assumption)]; rfl) | (have hN : ¬ Fit (numC m c) := (by rw [hp, hdr]; intro hf; first | exact tld_big (by assumption) (fit_mul_le pp pr (fit_mul_le hz (Int.mul_pos pp pr) hf).2).1 | exact tld_big (by assumption) (fit_mul_le (Int.mul_pos hz pp) pr (by rw [Int.mul_assoc]; exact hf)).1); rw [encS, encE, if_pos hC, if_pos hC, tld_3 hN, show toldS (numC m c) = { data := #[] } from if_neg hN]; rw [tld_3 (tld_big (by assumption))]; rfl) | (have hE : numC m c = numS s := (by rw [hp, List.drop_of_length_le (by omega)]; exact Int.mul_one _); have hf := fit_numS (okS_iff.1 ho); rw [encS, encE, if_pos hC, if_pos hC, hE, (told_fit hf).1, (told_fit hf).2, txt_numS (okS_iff.1 ho)]; rfl)
        · refine awp_skip ?_
          refine hK9 _ ?_
          refine awp_region rfl ?_
          refine n_add (i) (1) Gd.none rfl rfl (by simp only [topOf]; omega) ?_
          refine o_mv (nm .i64 ((i) + (1))) rfl ?_
          refine aops_end ?_
          have hG := tld_ok (by assumption)
          obtain ⟨v1, v2⟩ := told_fit hG
          refine ⟨_, _, ?lt, ⟨i + 1, toldS (numS s * (((P30.getD (i) 0 : Nat) : Int) ^ ((c.regs).getD (i) 0).toNat)), (by omega), (by rw [hp, hdr, v1, numS_txt, Int.mul_assoc]), (by rw [v1]; exact okS_iff.2 (okS_txt hG)), (by rw [v1, numS_txt]; exact Int.mul_pos hz pp), (told_sz _), rfl, rfl⟩, ?wk⟩
          case lt => omega
          case wk => exact Wk.sub (And.intro (by first | rfl | (simp)) (And.intro rfl (And.intro rfl (And.intro (by first | rfl | exact congrArg (nm _) (by omega) | exact nm_int (by omega) | exact nm_int (by simp [IntKind.wrap, IntKind.bits, IntKind.signed]; omega)) (trivial))))) (trivial)
      · refine awp_skip ?_
        refine hK12 _ ?_
        refine awp_seq fun K16 hK16 => ?_
        refine awp_region rfl ?_
        refine o_mv (nm .i64 (toldE (((P30.getD (i) 0 : Nat) : Int) ^ ((c.regs).getD (i) 0).toNat))) rfl ?_
        refine n_neq (toldE (((P30.getD (i) 0 : Nat) : Int) ^ ((c.regs).getD (i) 0).toNat)) (0) Gd.none rfl rfl ?_
        refine aops_end ?_
        refine hK16 _ ?_
        refine awp_condB (b := decide ((toldE (((P30.getD (i) 0 : Nat) : Int) ^ ((c.regs).getD (i) 0).toNat)) ≠ (0))) rfl (fun _ => ?_) (fun hh => absurd (hh.symm.trans (decide_eq_true h3)) (by decide))
        refine awp_seq fun K17 hK17 => ?_
        refine awp_region rfl ?_
        refine o_mv (nm .i64 (toldE (((P30.getD (i) 0 : Nat) : Int) ^ ((c.regs).getD (i) 0).toNat))) rfl ?_
        refine o_as (AV.lit (.string (({data := #[]} : ByteArray)))) rfl ?_
        refine o_as (nm .i64 (toldE (((P30.getD (i) 0 : Nat) : Int) ^ ((c.regs).getD (i) 0).toNat))) rfl ?_
        refine aops_end ?_
        refine hK17 _ ?_
        refine awp_ret ?_
        refine post_ret ⟨[(AV.lit (.string (({data := #[]} : ByteArray)))), (nm .i64 (toldE (((P30.getD (i) 0 : Nat) : Int) ^ ((c.regs).getD (i) 0).toNat)))], And.intro (AV.le_refl _) (And.intro (AV.le_refl _) (trivial)), rfl, ?_⟩
        first | (rw [encS, encE, if_neg (by assumption), if_neg (by assumption)]; rfl) | (have hN : ¬ Fit (numC m c) := (by rw [hp, hdr]; intro hf; first | exact tld_big (by assumption) (fit_mul_le pp pr (fit_mul_le hz (Int.mul_pos pp pr) hf).2).1 | exact tld_big (by assumption) (fit_mul_le (Int.mul_pos hz pp) pr (by rw [Int.mul_assoc]; exact hf)).1); rw [encS, encE, if_pos hC, if_pos hC, tld_3 hN, show toldS (numC m c) = { data := #[] } from if_neg hN]; rw [tld_3 (tld_big (by assumption))]; rfl) | (have hE : numC m c = numS s := (by rw [hp, List.drop_of_length_le (by omega)]; exact Int.mul_one _); have hf := fit_numS (okS_iff.1 ho); rw [encS, encE, if_pos hC, if_pos hC, hE, (told_fit hf).1, (told_fit hf).2, txt_numS (okS_iff.1 ho)]; rfl)
    · refine awp_exit ?_
      refine hK5 _ ?_
      refine awp_seq fun K18 hK18 => ?_
      refine awp_region rfl ?_
      refine o_mv (AV.lit (.string (s))) rfl ?_
      refine o_as (AV.lit (.string (s))) rfl ?_
      refine o_as (nm .i64 (0)) rfl ?_
      refine aops_end ?_
      refine hK18 _ ?_
      refine awp_ret ?_
      refine post_ret ⟨[(AV.lit (.string (s))), (nm .i64 (0))], And.intro (AV.le_refl _) (And.intro (AV.le_refl _) (trivial)), rfl, ?_⟩
      first | (rw [encS, encE, if_neg (by assumption), if_neg (by assumption)]; rfl) | (have hN : ¬ Fit (numC m c) := (by rw [hp, hdr]; intro hf; first | exact tld_big (by assumption) (fit_mul_le pp pr (fit_mul_le hz (Int.mul_pos pp pr) hf).2).1 | exact tld_big (by assumption) (fit_mul_le (Int.mul_pos hz pp) pr (by rw [Int.mul_assoc]; exact hf)).1); rw [encS, encE, if_pos hC, if_pos hC, tld_3 hN, show toldS (numC m c) = { data := #[] } from if_neg hN]; rw [tld_3 (tld_big (by assumption))]; rfl) | (have hE : numC m c = numS s := (by rw [hp, List.drop_of_length_le (by omega)]; exact Int.mul_one _); have hf := fit_numS (okS_iff.1 ho); rw [encS, encE, if_pos hC, if_pos hC, hE, (told_fit hf).1, (told_fit hf).2, txt_numS (okS_iff.1 ho)]; rfl)

end Go.Proofs.YtnejjdcbbminaaaGreatDoor

set_option linter.unusedVariables false
set_option linter.unusedSimpArgs false
namespace Go.Mth
open Go Go.Ab
def digW (l : List Frc) : Nat → Int
  | 0 => 0
  | i + 1 => IntKind.wrap .i64 (IntKind.wrap .i64 (digW l i + (((l.getD i default).num.size : Nat) : Int)) + (((l.getD i default).den.size : Nat) : Int))
def lightP (l : List Frc) : Prop := l.length ≤ 2000 ∧ (100 < l.length ∨ digW l l.length ≤ 8000)
instance (l : List Frc) : Decidable (lightP l) := by unfold lightP; infer_instance
def adM : Mac := ⟨2, [⟨1, 0, 1, 2⟩, ⟨0, 1, 0, 0⟩]⟩
def exC : Cfg := ⟨0, [2, 1]⟩
def exP : List (Nat × Nat) := [(13, 10), (19, 5), (21, 11), (5, 7), (11, 13), (17, 19)]
def exF : List Frc := exP.map fun p => frc p.1 p.2
def exL : List Frc := [⟨⟨#[49, 51]⟩, ⟨#[49, 48]⟩⟩, ⟨⟨#[49, 57]⟩, ⟨#[53]⟩⟩, ⟨⟨#[50, 49]⟩, ⟨#[49, 49]⟩⟩, ⟨⟨#[53]⟩, ⟨#[55]⟩⟩, ⟨⟨#[49, 49]⟩, ⟨#[49, 51]⟩⟩, ⟨⟨#[49, 55]⟩, ⟨#[49, 57]⟩⟩]
theorem tx5 : txt 5 = ⟨#[53]⟩ := by simp [txt, txtL, decs, strN]; rfl
theorem tx7 : txt 7 = ⟨#[55]⟩ := by simp [txt, txtL, decs, strN]; rfl
theorem tx10 : txt 10 = ⟨#[49, 48]⟩ := by simp [txt, txtL, decs, strN]; rfl
theorem tx11 : txt 11 = ⟨#[49, 49]⟩ := by simp [txt, txtL, decs, strN]; rfl
theorem tx13 : txt 13 = ⟨#[49, 51]⟩ := by simp [txt, txtL, decs, strN]; rfl
theorem tx17 : txt 17 = ⟨#[49, 55]⟩ := by simp [txt, txtL, decs, strN]; rfl
theorem tx19 : txt 19 = ⟨#[49, 57]⟩ := by simp [txt, txtL, decs, strN]; rfl
theorem tx21 : txt 21 = ⟨#[50, 49]⟩ := by simp [txt, txtL, decs, strN]; rfl
theorem tx60 : txt 60 = ⟨#[54, 48]⟩ := by simp [txt, txtL, decs, strN]; rfl
theorem tx90 : txt 90 = ⟨#[57, 48]⟩ := by simp [txt, txtL, decs, strN]; rfl
theorem exF_L : exF = exL := by
  show [(⟨txt 13, txt 10⟩ : Frc), ⟨txt 19, txt 5⟩, ⟨txt 21, txt 11⟩, ⟨txt 5, txt 7⟩, ⟨txt 11, txt 13⟩, ⟨txt 17, txt 19⟩] = exL
  rw [tx13, tx10, tx19, tx5, tx21, tx11, tx7, tx17]
  rfl
theorem ad_ok : okMac adM := by decide
theorem ex_cmp : cmpR adM = exL ∧ cmpE adM = 0 := by
  refine ⟨?_, if_pos ad_ok⟩
  rw [← exF_L]
  exact (if_pos ad_ok).trans rfl
theorem ex_enc : encS adM exC = ⟨#[54, 48]⟩ ∧ encE adM exC = 0 := by
  have h : okCfg adM exC := by decide
  have e : numC adM exC = 60 := by decide
  have f : Fit 60 := fit_113 (n := 60) (by decide)
  refine ⟨?_, ?_⟩
  · rw [encS, if_pos h, e, (told_fit f).1, tx60]
  · rw [encE, if_pos h, e, (told_fit f).2]
theorem red_frc {a b : Nat} (ha : 0 < a ∧ a ≤ 113) (hb : 0 < b ∧ b ≤ 113) (hg : Nat.gcd a b = 1) : redP (frc a b) := by
  unfold redP frc
  simp only [numS_txt]
  exact ⟨⟨okS_iff.2 (okS_txt (fit_113 ha.2)), by omega⟩, ⟨okS_iff.2 (okS_txt (fit_113 hb.2)), by omega⟩, by rw [Int.gcd_natCast_natCast]; exact hg⟩
theorem ex_lst : lstP exL := by
  rw [← exF_L]
  refine ⟨by decide, fun f hf => ?_⟩
  obtain ⟨p, hp, rfl⟩ := List.mem_map.1 hf
  have : ∀ p ∈ exP, (0 < p.1 ∧ p.1 ≤ 113) ∧ (0 < p.2 ∧ p.2 ≤ 113) ∧ Nat.gcd p.1 p.2 = 1 := by decide
  exact red_frc (this p hp).1 (this p hp).2.1 (this p hp).2.2
theorem ex_sz : ∀ f ∈ exL, f.num.size ≤ 9223372036854775807 ∧ f.den.size ≤ 9223372036854775807 := by decide
theorem hit_frc (z : Int) (a b : Nat) : hitP z (frc a b) ↔ z % ((b : Nat) : Int) = 0 := by unfold hitP frc; simp only [numS_txt]
theorem ply_s {l : List Frc} {k c : Nat} {z w : Int} (h : 0 ≤ fstI l z) (e : nxF l z = w) (hF : Fit w) : ply l (k + 1) z c = ply l k w (c + 1) := by
  subst e
  exact (if_pos h).trans (if_pos hF)
theorem ex_hit {z w : Int} {i : Nat} (hi : i < 6) (h : z % (((exP.getD i (0, 0)).2 : Nat) : Int) = 0) (hb : ∀ k, k < i → ¬ z % (((exP.getD k (0, 0)).2 : Nat) : Int) = 0) (hw : z / (((exP.getD i (0, 0)).2 : Nat) : Int) * (((exP.getD i (0, 0)).1 : Nat) : Int) = w) : 0 ≤ fstI exF z ∧ nxF exF z = w := by
  have e : ∀ k, k < 6 → exF.getD k default = frc (exP.getD k (0, 0)).1 (exP.getD k (0, 0)).2 := by
    intro k hk
    match k, hk with
    | 0, _ => rfl
    | 1, _ => rfl
    | 2, _ => rfl
    | 3, _ => rfl
    | 4, _ => rfl
    | 5, _ => rfl
  obtain ⟨h1, h2⟩ := fst_hit (l := exF) (z := z) (i := i) (by rw [show exF.length = 6 from rfl]; exact hi) (by rw [e i hi, hit_frc]; exact h) (fun k hk => by rw [e k (by omega), hit_frc]; exact hb k hk)
  refine ⟨by rw [h1]; omega, ?_⟩
  unfold nxF
  rw [h1, Int.toNat_natCast, e i hi]
  show z / numS (txt _) * numS (txt _) = w
  rw [numS_txt, numS_txt]
  exact hw
theorem ex_ply : ply exF 4 60 0 = (txt 90, 4, 0) := by
  obtain ⟨a1, a2⟩ := ex_hit (z := 60) (w := 78) (i := 0) (by decide) (by decide) (by decide) (by decide)
  obtain ⟨b1, b2⟩ := ex_hit (z := 78) (w := 66) (i := 4) (by decide) (by decide) (by decide) (by decide)
  obtain ⟨c1, c2⟩ := ex_hit (z := 66) (w := 126) (i := 2) (by decide) (by decide) (by decide) (by decide)
  obtain ⟨d1, d2⟩ := ex_hit (z := 126) (w := 90) (i := 3) (by decide) (by decide) (by decide) (by decide)
  rw [ply_s a1 a2 (fit_113 (n := 78) (by decide)), ply_s b1 b2 (fit_113 (n := 66) (by decide)), ply_s c1 c2 (fit_of_pow (k := 3) (by decide) (by decide) (by decide)), ply_s d1 d2 (fit_113 (n := 90) (by decide))]
  rfl
theorem ex_play : plyA exL ⟨#[54, 48]⟩ 4 = (⟨#[57, 48]⟩, 4, 0) := by
  have h := ok_of_txt tx60 (by decide)
  rw [plyA_0 (askE_0.2 ⟨ex_lst, h.1, by rw [h.2]; decide⟩) (by decide), h.2, ← exF_L, ← tx90]
  exact ex_ply
end Go.Mth

set_option linter.unusedVariables false
set_option linter.unusedSimpArgs false
namespace Go.Proofs.YtnejjdcbbminaaaGreatDoor
open Go Go.Ab Go.Mth
theorem fieldsFrac : Tryz.prog.fieldsOf 52 = #[{ name := "Num", type := 9, offset := 0, embedded := false, tag := "", pkgPath := "", byteOffset := 0 }, { name := "Den", type := 9, offset := 1, embedded := false, tag := "", pkgPath := "", byteOffset := 16 }] := by kernel_rfl
theorem eq_api_Frac (a1 a2 b1 b2 : ByteArray) : AggEq cx.P 52 [.string a1, .string a2] [.string b1, .string b2] (decide (a1 = b1 ∧ a2 = b2)) := by
  refine ⟨by kernel_rfl, fun w => ?_⟩
  have hS : Tryz.prog.underlying 52 = some (.struct (Tryz.prog.fieldsOf 52)) := by kernel_rfl
  show (Op.equalIn 10000 52 _ _).run Tryz.prog w = _
  rw [show (10000 : Nat) = 9998 + 1 + 1 from rfl, run_equalIn_agg w (9998 + 1) _ _ _ hS (by kernel_rfl), fieldsFrac]
  have uS : Tryz.prog.underlying 9 = some .string := by kernel_rfl
  simp only [Op.eqFields, part_str uS, Sem.run_bind, Sem.run_ite, run_equalIn_string _ _ _ _ _ uS]
  by_cases h1 : a1 = b1 <;> by_cases h2 : a2 = b2 <;> simp [ba_eq, run_equalIn_string _ _ _ _ _ uS, h1, h2]
end Go.Proofs.YtnejjdcbbminaaaGreatDoor

set_option linter.unusedVariables false
set_option linter.unusedSimpArgs false
namespace Go.Proofs.YtnejjdcbbminaaaGreatDoor
open Go Go.Ab Go.Mth
theorem Yf_tO24 : tyZero cx.P 24 = some [(Go.Value.int IntKind.i64 0), (Go.Value.slice none 0 0)] := by kernel_rfl
theorem Yf_tP88 : tyPlaces cx.P 88 = some (fun i => (#[(0, 1), (1, 1), (2, 1), (3, 1)] : Array (Nat × Nat))[i]?) := by kernel_rfl
theorem Yf_tO88 : tyZero cx.P 88 = some [(Go.Value.int IntKind.i64 0), (Go.Value.int IntKind.i64 0), (Go.Value.int IntKind.i64 0), (Go.Value.int IntKind.i64 0)] := by kernel_rfl
theorem Yf_tE22 : tyElem cx.P 22 = some (88, 4, 32) := by kernel_rfl
theorem Yf_tP24 : tyPlaces cx.P 24 = some (fun i => (#[(0, 1), (1, 1)] : Array (Nat × Nat))[i]?) := by kernel_rfl
theorem Yf_tZ24 : tySize cx.P 24 = some 2 := by kernel_rfl
theorem Yf_tA24 : tyAgg cx.P 24 = some 2 := by kernel_rfl
theorem Yf_tU26 : cx.P.underlying 26 = some (.slice 52) := by kernel_rfl
theorem Yf_tE26 : tyElem cx.P 26 = some (52, 2, 32) := by kernel_rfl
theorem Yf_tA52 : tyAgg cx.P 52 = some 2 := by kernel_rfl
theorem Yf_tF52_0 : tyField cx.P 52 0 = some (0, 9) := by kernel_rfl
theorem Yf_tS9 : tySc cx.P 9 = true := by kernel_rfl
theorem Yf_tT9 : cx.P.underlying 9 = some .string := by kernel_rfl
theorem Yf_tF52_1 : tyField cx.P 52 1 = some (1, 9) := by kernel_rfl
theorem Yf_tC66 : callable cx.P 66 = true := by kernel_rfl
theorem Yf_tC60 : callable cx.P 60 = true := by kernel_rfl
theorem Yf_tC13 : callable cx.P 13 = true := by kernel_rfl
theorem Yf_tE37 : tyElem cx.P 37 = some (3, 1, 8) := by kernel_rfl
theorem Yf_tO3 : tyZero cx.P 3 = some [(Go.Value.int IntKind.i64 0)] := by kernel_rfl
theorem Yf_tP65 : tyPlaces cx.P 65 = some (fun i => (#[(0, 1), (1, 1)] : Array (Nat × Nat))[i]?) := by kernel_rfl
theorem Yf_tO65 : tyZero cx.P 65 = some [(Go.Value.int IntKind.i64 0), (Go.Value.slice none 0 0)] := by kernel_rfl
theorem Yf_tC37 : callable cx.P 37 = true := by kernel_rfl
theorem Yf_tC26 : callable cx.P 26 = true := by kernel_rfl
theorem Yf_tP52 : tyPlaces cx.P 52 = some (fun i => (#[(0, 1), (1, 1)] : Array (Nat × Nat))[i]?) := by kernel_rfl
theorem Yf_tO52 : tyZero cx.P 52 = some [(Go.Value.string {data := #[]}), (Go.Value.string {data := #[]})] := by kernel_rfl
theorem Yf_tC17 : callable cx.P 17 = true := by kernel_rfl
theorem c_adder  : ECalls cx 60 [] (macV adM) := by
  refine ecalls_of_awp Tryz.func60 (c := _) rfl (Nat.le_of_ble_eq_true rfl) ?_
  show awp cx 5 _ (postF cx Tryz.f60 _) ⟨[], []⟩
  refine awp_seq fun K0 hK0 => ?_
  refine awp_region rfl ?_
  refine o_alloc 2 [(nm .i64 (0)), (AV.lit (.slice none 0 0))] Gd.none Yf_tO24 rfl rfl rfl ?_
  refine aops_end ?_
  refine hK0 _ ?_
  refine awp_seq fun K1 hK1 => ?_
  refine awp_region rfl ?_
  refine o_build [(nm .i64 (1)), (nm .i64 (0)), (nm .i64 (1)), (nm .i64 (2))] [(0, [(nm .i64 (1))]), (2, [(nm .i64 (1))]), (3, [(nm .i64 (2))])] Gd.none Yf_tP88 Yf_tO88 rfl rfl rfl ?_
  refine o_build [(nm .i64 (0)), (nm .i64 (1)), (nm .i64 (0)), (nm .i64 (0))] [(0, [(nm .i64 (0))]), (1, [(nm .i64 (1))])] Gd.none Yf_tP88 Yf_tO88 rfl rfl rfl ?_
  refine o_buildSlice 3 (gcells cI ([(Ins.mk (((1 : Nat) : Int)) (((0 : Nat) : Int)) (((1 : Nat) : Int)) (((2 : Nat) : Int))), (Ins.mk (((0 : Nat) : Int)) (((1 : Nat) : Int)) (((0 : Nat) : Int)) (((0 : Nat) : Int)))])) [(0, [(nm .i64 (1)), (nm .i64 (0)), (nm .i64 (1)), (nm .i64 (2))]), (1, [(nm .i64 (0)), (nm .i64 (1)), (nm .i64 (0)), (nm .i64 (0))])] Gd.none Yf_tE22 rfl Yf_tO88 rfl rfl rfl rfl rfl rfl rfl ?_
  refine o_build [(nm .i64 (2)), (AV.row 3)] [(0, [(nm .i64 (2))]), (1, [(AV.row 3)])] Gd.none Yf_tP24 Yf_tO24 rfl rfl rfl ?_
  refine o_store [(3, (AO.row 88 4 (gcells cI ([(Ins.mk (((1 : Nat) : Int)) (((0 : Nat) : Int)) (((1 : Nat) : Int)) (((2 : Nat) : Int))), (Ins.mk (((0 : Nat) : Int)) (((1 : Nat) : Int)) (((0 : Nat) : Int)) (((0 : Nat) : Int)))])))), (2, (AO.var 24 [(nm .i64 (2)), (AV.row 3)]))] Gd.none Yf_tZ24 rfl rfl rfl rfl rfl rfl ?_
  refine aops_end ?_
  refine hK1 _ ?_
  refine awp_wk (σ' := ⟨[(0, (AV.ref 2 (0)))], [(2, (AO.var 24 [(nm .i64 (2)), (AV.row 3)])), (3, (AO.row 88 4 (gcells cI ([(Ins.mk (((1 : Nat) : Int)) (((0 : Nat) : Int)) (((1 : Nat) : Int)) (((2 : Nat) : Int))), (Ins.mk (((0 : Nat) : Int)) (((1 : Nat) : Int)) (((0 : Nat) : Int)) (((0 : Nat) : Int)))]))))]⟩) (Wk.sub (And.intro rfl (trivial)) (And.intro rfl (And.intro rfl (trivial)))) ?_
  refine awp_wk (σ' := ⟨[(0, (AV.ref 2 (0)))], [(2, (AO.var 24 [(nm .i64 (2)), (AV.sl 4 (gcells cI ([(Ins.mk (((1 : Nat) : Int)) (((0 : Nat) : Int)) (((1 : Nat) : Int)) (((2 : Nat) : Int))), (Ins.mk (((0 : Nat) : Int)) (((1 : Nat) : Int)) (((0 : Nat) : Int)) (((0 : Nat) : Int)))])))]))]⟩) (Wk.freeze (id := 3) (e := 88) (sz := 4) (cs := (gcells cI ([(Ins.mk (((1 : Nat) : Int)) (((0 : Nat) : Int)) (((1 : Nat) : Int)) (((2 : Nat) : Int))), (Ins.mk (((0 : Nat) : Int)) (((1 : Nat) : Int)) (((0 : Nat) : Int)) (((0 : Nat) : Int)))]))) rfl) ?_
  refine awp_ret ?_
  refine post_ret ⟨[(AV.agg [(nm .i64 (2)), (AV.sl 4 (gcells cI ([(Ins.mk (((1 : Nat) : Int)) (((0 : Nat) : Int)) (((1 : Nat) : Int)) (((2 : Nat) : Int))), (Ins.mk (((0 : Nat) : Int)) (((1 : Nat) : Int)) (((0 : Nat) : Int)) (((0 : Nat) : Int)))])))])], And.intro ⟨2, (AO.var 24 [(nm .i64 (2)), (AV.sl 4 (gcells cI ([(Ins.mk (((1 : Nat) : Int)) (((0 : Nat) : Int)) (((1 : Nat) : Int)) (((2 : Nat) : Int))), (Ins.mk (((0 : Nat) : Int)) (((1 : Nat) : Int)) (((0 : Nat) : Int)) (((0 : Nat) : Int)))])))]), rfl, rfl, rfl, Or.inl ⟨Yf_tA24, AV.le_refl _⟩⟩ (trivial), rfl, ?_⟩
  rfl

theorem c_vSameList (l : List Frc) (hb : l.length ≤ 4398046511104) : ECalls cx 17 [(AV.sl 2 (gcells cF (l))), (AV.sl 2 (gcells cF (l)))] (.lit (.bool true)) := by
  refine ecalls_of_awp Tryz.func17 (c := _) rfl (Nat.le_of_ble_eq_true rfl) ?_
  show awp cx 26 _ (postF cx Tryz.f17 _) ⟨[(0, (AV.sl 2 (gcells cF (l)))), (1, (AV.sl 2 (gcells cF (l))))], []⟩
  refine awp_seq fun K0 hK0 => ?_
  refine awp_region rfl ?_
  refine o_as (AV.lit (.bool false)) rfl ?_
  refine aops_end ?_
  refine hK0 _ ?_
  refine awp_seq fun K1 hK1 => ?_
  refine awp_seq fun K2 hK2 => ?_
  refine awp_region rfl ?_
  refine o_mv (AV.sl 2 (gcells cF (l))) rfl ?_
  refine g_len cF (l) cF_len Gd.none Yf_tU26 rfl ?_
  refine o_mv (AV.sl 2 (gcells cF (l))) rfl ?_
  refine g_len cF (l) cF_len Gd.none Yf_tU26 rfl ?_
  refine n_neq ((l).length) ((l).length) Gd.none rfl rfl ?_
  refine aops_end ?_
  refine hK2 _ ?_
  refine awp_condB (b := decide (((l).length) ≠ ((l).length))) rfl (fun hh => absurd (hh.symm.trans (decide_eq_false (fun h => h rfl))) (by decide)) (fun _ => ?_)
  refine awp_skip ?_
  refine hK1 _ ?_
  refine awp_seq fun K3 hK3 => ?_
  refine awp_seq fun K4 hK4 => ?_
  refine awp_region rfl ?_
  refine o_as (nm .i64 (0)) rfl ?_
  refine aops_end ?_
  refine hK4 _ ?_
  refine awp_block ?_
  refine awp_loopR (fun κ σ => ∃ (i : Nat), (i ≤ l.length) ∧ (l.length - i) = κ ∧ σ = ⟨[(0, (AV.sl 2 (gcells cF (l)))), (1, (AV.sl 2 (gcells cF (l)))), (5, (nm .i64 (i)))], []⟩) ⟨_, _, ⟨0, (by omega), rfl, rfl⟩, ?wk0⟩ ?rd0
  case wk0 =>
    exact Wk.sub (And.intro rfl (And.intro rfl (And.intro (by first | rfl | exact congrArg (nm _) (by omega) | exact nm_int (by omega) | exact nm_int (by simp [IntKind.wrap, IntKind.bits, IntKind.signed]; omega)) (trivial)))) (trivial)
  rintro κ _ ⟨i, hi, rfl, rfl⟩
  refine awp_seq fun K5 hK5 => ?_
  refine awp_seq fun K6 hK6 => ?_
  refine awp_region rfl ?_
  refine o_mv (nm .i64 (i)) rfl ?_
  refine o_mv (AV.sl 2 (gcells cF (l))) rfl ?_
  refine g_len cF (l) cF_len Gd.none Yf_tU26 rfl ?_
  refine n_lss (i) ((l).length) Gd.none rfl rfl ?_
  refine aops_end ?_
  refine hK6 _ ?_
  refine awp_condQ (q := (i) < ((l).length)) rfl (fun h1 => ?_) (fun h1 => ?_)
  · refine awp_skip ?_
    refine hK5 _ ?_
    refine awp_seq fun K7 hK7 => ?_
    refine awp_block ?_
    refine awp_seq fun K8 hK8 => ?_
    refine awp_regionD rfl ?_
    refine o_mv (AV.sl 2 (gcells cF (l))) rfl ?_
    refine o_mv (nm .i64 (i)) rfl ?_
    refine g_index cF (l) (i) cF_len rfl Gd.none Yf_tE26 rfl rfl (by omega) ?_
    refine g_loadA cF (l) (i) default cF_len Gd.none Yf_tA52 rfl (by omega) ?_
    refine o_mv (AV.sl 2 (gcells cF (l))) rfl ?_
    refine o_mv (nm .i64 (i)) rfl ?_
    refine g_index cF (l) (i) cF_len rfl Gd.none Yf_tE26 rfl rfl (by omega) ?_
    refine g_loadA cF (l) (i) default cF_len Gd.none Yf_tA52 rfl (by omega) ?_
    refine o_neqA [.string ((((l).getD (i) default)).num), .string ((((l).getD (i) default)).den)] [.string ((((l).getD (i) default)).num), .string ((((l).getD (i) default)).den)] (((((l).getD (i) default)).num) = ((((l).getD (i) default)).num) ∧ ((((l).getD (i) default)).den) = ((((l).getD (i) default)).den)) Gd.none rfl rfl (eq_api_Frac _ _ _ _) ?_
    refine aops_end ⟨by kernel_rfl, ?_⟩
    refine hK8 _ ?_
    refine awp_condB (b := decide (¬ (((((l).getD (i) default)).num) = ((((l).getD (i) default)).num) ∧ ((((l).getD (i) default)).den) = ((((l).getD (i) default)).den)))) rfl (fun hh => absurd (hh.symm.trans (decide_eq_false (fun h => h ⟨rfl, rfl⟩))) (by decide)) (fun _ => ?_)
    refine awp_skip ?_
    refine hK7 _ ?_
    refine awp_region rfl ?_
    refine o_mv (nm .i64 (i)) rfl ?_
    refine n_add (i) (1) Gd.none rfl rfl (by simp only [topOf]; omega) ?_
    refine o_as (nm .i64 ((i) + (1))) rfl ?_
    refine aops_end ?_
    refine ⟨_, _, ?lt, ⟨i + 1, (by omega), rfl, rfl⟩, ?wk⟩
    case lt => omega
    case wk => exact Wk.sub (And.intro rfl (And.intro rfl (And.intro (by first | rfl | exact congrArg (nm _) (by omega) | exact nm_int (by omega) | exact nm_int (by simp [IntKind.wrap, IntKind.bits, IntKind.signed]; omega)) (trivial)))) (trivial)
  · refine awp_exit ?_
    refine hK3 _ ?_
    refine awp_seq fun K9 hK9 => ?_
    refine awp_region rfl ?_
    refine o_as (AV.lit (.bool true)) rfl ?_
    refine aops_end ?_
    refine hK9 _ ?_
    refine awp_ret ?_
    refine post_ret ⟨[(AV.lit (.bool true))], And.intro (AV.le_refl _) (trivial), rfl, ?_⟩
    rfl

theorem c_vDigits (l : List Frc) (hb : l.length ≤ 4398046511104) : ECalls cx 66 [(AV.sl 2 (gcells cF (l)))] (.lit (.int .i64 (digW l l.length))) := by
  refine ecalls_of_awp Tryz.func66 (c := _) rfl (Nat.le_of_ble_eq_true rfl) ?_
  show awp cx 27 _ (postF cx Tryz.f66 _) ⟨[(0, (AV.sl 2 (gcells cF (l))))], []⟩
  refine awp_seq fun K0 hK0 => ?_
  refine awp_region rfl ?_
  refine o_as (nm .i64 (0)) rfl ?_
  refine aops_end ?_
  refine hK0 _ ?_
  refine awp_seq fun K1 hK1 => ?_
  refine awp_region rfl ?_
  refine o_as (nm .i64 (0)) rfl ?_
  refine aops_end ?_
  refine hK1 _ ?_
  refine awp_seq fun K2 hK2 => ?_
  refine awp_seq fun K3 hK3 => ?_
  refine awp_region rfl ?_
  refine o_as (nm .i64 (0)) rfl ?_
  refine aops_end ?_
  refine hK3 _ ?_
  refine awp_block ?_
  refine awp_loopR (fun κ σ => ∃ (i : Nat), (i ≤ l.length) ∧ (l.length - i) = κ ∧ σ = ⟨[(0, (AV.sl 2 (gcells cF (l)))), (3, (AV.lit (.int .i64 (digW l i)))), (4, (nm .i64 (i)))], []⟩) ⟨_, _, ⟨0, (by omega), rfl, rfl⟩, ?wk0⟩ ?rd0
  case wk0 =>
    exact Wk.sub (And.intro rfl (And.intro (by first | rfl | exact int_eq (by omega) | exact int_nm (by omega)) (And.intro (by first | rfl | exact congrArg (nm _) (by omega) | exact nm_int (by omega) | exact nm_int (by simp [IntKind.wrap, IntKind.bits, IntKind.signed]; omega)) (trivial)))) (trivial)
  rintro κ _ ⟨i, hi, rfl, rfl⟩
  refine awp_seq fun K4 hK4 => ?_
  refine awp_seq fun K5 hK5 => ?_
  refine awp_region rfl ?_
  refine o_mv (nm .i64 (i)) rfl ?_
  refine o_mv (AV.sl 2 (gcells cF (l))) rfl ?_
  refine g_len cF (l) cF_len Gd.none Yf_tU26 rfl ?_
  refine n_lss (i) ((l).length) Gd.none rfl rfl ?_
  refine aops_end ?_
  refine hK5 _ ?_
  refine awp_condQ (q := (i) < ((l).length)) rfl (fun h1 => ?_) (fun h1 => ?_)
  · refine awp_skip ?_
    refine hK4 _ ?_
    refine awp_seq fun K6 hK6 => ?_
    refine awp_block ?_
    refine awp_regionD rfl ?_
    refine o_mv (AV.lit (.int .i64 (digW l i))) rfl ?_
    refine o_mv (AV.sl 2 (gcells cF (l))) rfl ?_
    refine o_mv (nm .i64 (i)) rfl ?_
    refine g_index cF (l) (i) cF_len rfl Gd.none Yf_tE26 rfl rfl (by omega) ?_
    refine g_field cF (l) (i) cF_len Gd.none Yf_tF52_0 rfl (by omega) rfl ?_
    refine g_loadS cF (l) (i) default (AV.lit (.string ((((l).getD (i) default)).num))) cF_len Gd.none Yf_tS9 rfl (by omega) rfl ?_
    refine n_lenS ((((l).getD (i) default)).num) Gd.none rfl Yf_tT9 ?_
    refine o_addW (a := (digW l i)) (c := (((((((l).getD (i) default)).num).size : Nat) : Int))) Gd.none rfl rfl ?_
    refine o_mv (AV.sl 2 (gcells cF (l))) rfl ?_
    refine o_mv (nm .i64 (i)) rfl ?_
    refine g_index cF (l) (i) cF_len rfl Gd.none Yf_tE26 rfl rfl (by omega) ?_
    refine g_field cF (l) (i) cF_len Gd.none Yf_tF52_1 rfl (by omega) rfl ?_
    refine g_loadS cF (l) (i) default (AV.lit (.string ((((l).getD (i) default)).den))) cF_len Gd.none Yf_tS9 rfl (by omega) rfl ?_
    refine n_lenS ((((l).getD (i) default)).den) Gd.none rfl Yf_tT9 ?_
    refine o_addW (a := (IntKind.wrap .i64 ((digW l i) + (((((((l).getD (i) default)).num).size : Nat) : Int))))) (c := (((((((l).getD (i) default)).den).size : Nat) : Int))) Gd.none rfl rfl ?_
    refine o_as (AV.lit (.int .i64 (IntKind.wrap .i64 ((IntKind.wrap .i64 ((digW l i) + (((((((l).getD (i) default)).num).size : Nat) : Int)))) + (((((((l).getD (i) default)).den).size : Nat) : Int)))))) rfl ?_
    refine aops_end ⟨by kernel_rfl, ?_⟩
    refine hK6 _ ?_
    refine awp_region rfl ?_
    refine o_mv (nm .i64 (i)) rfl ?_
    refine n_add (i) (1) Gd.none rfl rfl (by simp only [topOf]; omega) ?_
    refine o_as (nm .i64 ((i) + (1))) rfl ?_
    refine aops_end ?_
    refine ⟨_, _, ?lt, ⟨i + 1, (by omega), rfl, rfl⟩, ?wk⟩
    case lt => omega
    case wk => exact Wk.sub (And.intro rfl (And.intro (by first | rfl | exact int_eq (by omega) | exact int_nm (by omega)) (And.intro (by first | rfl | exact congrArg (nm _) (by omega) | exact nm_int (by omega) | exact nm_int (by simp [IntKind.wrap, IntKind.bits, IntKind.signed]; omega)) (trivial)))) (trivial)
  · refine awp_exit ?_
    refine hK2 _ ?_
    refine awp_seq fun K7 hK7 => ?_
    refine awp_region rfl ?_
    refine o_mv (AV.lit (.int .i64 (digW l i))) rfl ?_
    refine o_as (AV.lit (.int .i64 (digW l i))) rfl ?_
    refine aops_end ?_
    refine hK7 _ ?_
    refine awp_ret ?_
    refine post_ret ⟨[(AV.lit (.int .i64 (digW l i)))], And.intro (AV.le_refl _) (trivial), rfl, ?_⟩
    rw [show l.length = i by omega]; rfl

theorem c_light (l : List Frc) : ECalls cx 20 [(AV.sl 2 (gcells cF (l)))] (bp (lightP l)) := by
  refine ecalls_of_awp Tryz.func20 (c := _) rfl (Nat.le_of_ble_eq_true rfl) ?_
  show awp cx 16 _ (postF cx Tryz.f20 _) ⟨[(0, (AV.sl 2 (gcells cF (l))))], []⟩
  refine awp_seq fun K0 hK0 => ?_
  refine awp_region rfl ?_
  refine o_as (AV.lit (.bool false)) rfl ?_
  refine aops_end ?_
  refine hK0 _ ?_
  refine awp_seq fun K1 hK1 => ?_
  refine awp_region rfl ?_
  refine o_mv (AV.sl 2 (gcells cF (l))) rfl ?_
  refine g_len cF (l) cF_len Gd.none Yf_tU26 rfl ?_
  refine n_leq ((l).length) (2000) Gd.none rfl rfl ?_
  refine o_mv (bp (((l).length) ≤ (2000))) rfl ?_
  refine o_splitP (q := ((l).length) ≤ (2000)) 6 rfl (fun h1 => ?_) (fun h1 => ?_)
  · refine o_move (AV.sl 2 (gcells cF (l))) (Gd.yes rfl rfl (decide_eq_true h1)) rfl ?_
    refine g_len cF (l) cF_len (Gd.yes rfl rfl (decide_eq_true h1)) Yf_tU26 rfl ?_
    refine n_gtr ((l).length) (100) (Gd.yes rfl rfl (decide_eq_true h1)) rfl rfl ?_
    refine o_move (bp ((100) < ((l).length))) (Gd.yes rfl rfl (decide_eq_true h1)) rfl ?_
    refine o_splitP (q := (100) < ((l).length)) 10 rfl (fun h2 => ?_) (fun h2 => ?_)
    · refine o_skip rfl rfl (decide_eq_true h2) ?_
      refine o_skip rfl rfl (decide_eq_true h2) ?_
      refine o_skip rfl rfl (decide_eq_true h2) ?_
      refine o_pickT (AV.lit (.bool true)) (Gd.yes rfl rfl (decide_eq_true h1)) rfl (decide_eq_true h2) rfl ?_
      refine o_pickT (AV.lit (.bool true)) Gd.none rfl (decide_eq_true h1) rfl ?_
      refine o_as (AV.lit (.bool true)) rfl ?_
      refine aops_end ?_
      refine hK1 _ ?_
      refine awp_ret ?_
      refine post_ret ⟨[(AV.lit (.bool true))], And.intro (AV.le_refl _) (trivial), rfl, ?_⟩
      first | exact bpn (fun o => absurd o.1 (by omega)) | exact bpy ⟨by omega, .inl (by omega)⟩ | exact bpc ⟨fun o => o.2.resolve_left (by omega), fun o => ⟨by omega, .inr o⟩⟩
    · refine o_move (AV.sl 2 (gcells cF (l))) (Gd.yes rfl rfl (decide_eq_false h2)) rfl ?_
      refine o_ct (c_vDigits (l) (by first | assumption | omega | decide)) (Gd.yes rfl rfl (decide_eq_false h2)) Yf_tC66 rfl ?_
      refine o_leq (a := (digW (l) (l).length)) (c := (((8000 : Nat) : Int))) (Gd.yes rfl rfl (decide_eq_false h2)) rfl rfl ?_
      refine o_pickF (bp ((digW (l) (l).length) ≤ (((8000 : Nat) : Int)))) (Gd.yes rfl rfl (decide_eq_true h1)) rfl (decide_eq_false h2) rfl ?_
      refine o_pickT (bp ((digW (l) (l).length) ≤ (((8000 : Nat) : Int)))) Gd.none rfl (decide_eq_true h1) rfl ?_
      refine o_as (bp ((digW (l) (l).length) ≤ (((8000 : Nat) : Int)))) rfl ?_
      refine aops_end ?_
      refine hK1 _ ?_
      refine awp_ret ?_
      refine post_ret ⟨[(bp ((digW (l) (l).length) ≤ (((8000 : Nat) : Int))))], And.intro (AV.le_refl _) (trivial), rfl, ?_⟩
      first | exact bpn (fun o => absurd o.1 (by omega)) | exact bpy ⟨by omega, .inl (by omega)⟩ | exact bpc ⟨fun o => o.2.resolve_left (by omega), fun o => ⟨by omega, .inr o⟩⟩
  · refine o_skip rfl rfl (decide_eq_false h1) ?_
    refine o_skip rfl rfl (decide_eq_false h1) ?_
    refine o_skip rfl rfl (decide_eq_false h1) ?_
    refine o_skip rfl rfl (decide_eq_false h1) ?_
    refine o_skipU rfl rfl ?_
    refine o_skipU rfl rfl ?_
    refine o_skipU rfl rfl ?_
    refine o_skip rfl rfl (decide_eq_false h1) ?_
    refine o_pickF (AV.lit (.bool false)) Gd.none rfl (decide_eq_false h1) rfl ?_
    refine o_as (AV.lit (.bool false)) rfl ?_
    refine aops_end ?_
    refine hK1 _ ?_
    refine awp_ret ?_
    refine post_ret ⟨[(AV.lit (.bool false))], And.intro (AV.le_refl _) (trivial), rfl, ?_⟩
    first | exact bpn (fun o => absurd o.1 (by omega)) | exact bpy ⟨by omega, .inl (by omega)⟩ | exact bpc ⟨fun o => o.2.resolve_left (by omega), fun o => ⟨by omega, .inr o⟩⟩

theorem c_awake10  : ECalls cx 16 [] (.lit (.bool true)) := by
  refine ecalls_of_awp Tryz.func16 (c := _) rfl (Nat.le_of_ble_eq_true rfl) ?_
  show awp cx 59 _ (postF cx Tryz.f16 _) ⟨[], []⟩
  refine awp_seq fun K0 hK0 => ?_
  refine awp_region rfl ?_
  refine o_as (AV.lit (.bool false)) rfl ?_
  refine aops_end ?_
  refine hK0 _ ?_
  refine awp_seq fun K1 hK1 => ?_
  refine awp_region rfl ?_
  refine o_ct c_adder Gd.none Yf_tC60 rfl ?_
  refine o_ct (c_Compile adM) Gd.none Yf_tC13 rfl ?_
  refine o_mv (AV.tup [(AV.sl 2 (gcells cF (cmpR adM))), (nm .i64 (cmpE adM))]) rfl ?_
  refine o_extract (AV.sl 2 (gcells cF (cmpR adM))) Gd.none rfl rfl ?_
  refine n_as (v' := (AV.sl 2 (gcells cF ([(Frc.mk (({data := #[49, 51]} : ByteArray)) (({data := #[49, 48]} : ByteArray))), (Frc.mk (({data := #[49, 57]} : ByteArray)) (({data := #[53]} : ByteArray))), (Frc.mk (({data := #[50, 49]} : ByteArray)) (({data := #[49, 49]} : ByteArray))), (Frc.mk (({data := #[53]} : ByteArray)) (({data := #[55]} : ByteArray))), (Frc.mk (({data := #[49, 49]} : ByteArray)) (({data := #[49, 51]} : ByteArray))), (Frc.mk (({data := #[49, 55]} : ByteArray)) (({data := #[49, 57]} : ByteArray)))])))) (by exact congrArg (fun l => AV.sl 2 (gcells cF l)) ex_cmp.1) ?_
  refine o_extract (nm .i64 (cmpE adM)) Gd.none rfl rfl ?_
  refine n_as (v' := (nm .i64 (0))) (by exact congrArg (nm _) ex_cmp.2) ?_
  refine o_as (AV.sl 2 (gcells cF ([(Frc.mk (({data := #[49, 51]} : ByteArray)) (({data := #[49, 48]} : ByteArray))), (Frc.mk (({data := #[49, 57]} : ByteArray)) (({data := #[53]} : ByteArray))), (Frc.mk (({data := #[50, 49]} : ByteArray)) (({data := #[49, 49]} : ByteArray))), (Frc.mk (({data := #[53]} : ByteArray)) (({data := #[55]} : ByteArray))), (Frc.mk (({data := #[49, 49]} : ByteArray)) (({data := #[49, 51]} : ByteArray))), (Frc.mk (({data := #[49, 55]} : ByteArray)) (({data := #[49, 57]} : ByteArray)))]))) rfl ?_
  refine o_as (nm .i64 (0)) rfl ?_
  refine aops_end ?_
  refine hK1 _ ?_
  refine awp_seq fun K2 hK2 => ?_
  refine awp_region rfl ?_
  refine o_ct c_adder Gd.none Yf_tC60 rfl ?_
  refine o_buildSlice 2 (is .i64 ([((2 : Nat) : Int), ((1 : Nat) : Int)])) [(0, [(nm .i64 (2))]), (1, [(nm .i64 (1))])] Gd.none Yf_tE37 rfl Yf_tO3 rfl rfl rfl rfl rfl rfl rfl ?_
  refine o_build [(nm .i64 (0)), (AV.row 2)] [(1, [(AV.row 2)])] Gd.none Yf_tP65 Yf_tO65 rfl rfl rfl ?_
  refine o_callG [(2, 1, (is .i64 ([((2 : Nat) : Int), ((1 : Nat) : Int)])))] [(macV adM), (AV.agg [(nm .i64 (0)), (AV.sl 1 (is .i64 ([((2 : Nat) : Int), ((1 : Nat) : Int)])))])] _ (AV.tup [(AV.lit (.string (encS adM exC))), (nm .i64 (encE adM exC))]) [] Gd.none Yf_tC37 rfl (And.intro ⟨_, rfl⟩ (trivial)) rfl rfl (LeL.cons (AV.le_refl _) (LeL.cons (AV.le_refl _) (LeL.nil))) (c_Encode adM exC) rfl ?_
  refine o_mv (AV.tup [(AV.lit (.string (encS adM exC))), (nm .i64 (encE adM exC))]) rfl ?_
  refine o_extract (AV.lit (.string (encS adM exC))) Gd.none rfl rfl ?_
  refine n_as (v' := (AV.lit (.string (({data := #[54, 48]} : ByteArray))))) (by exact str_as2 ex_enc.1) ?_
  refine o_extract (nm .i64 (encE adM exC)) Gd.none rfl rfl ?_
  refine n_as (v' := (nm .i64 (0))) (by exact congrArg (nm _) ex_enc.2) ?_
  refine o_as (AV.lit (.string (({data := #[54, 48]} : ByteArray)))) rfl ?_
  refine o_as (nm .i64 (0)) rfl ?_
  refine aops_end ?_
  refine hK2 _ ?_
  refine awp_seq fun K3 hK3 => ?_
  refine awp_region rfl ?_
  refine o_mv (AV.sl 2 (gcells cF ([(Frc.mk (({data := #[49, 51]} : ByteArray)) (({data := #[49, 48]} : ByteArray))), (Frc.mk (({data := #[49, 57]} : ByteArray)) (({data := #[53]} : ByteArray))), (Frc.mk (({data := #[50, 49]} : ByteArray)) (({data := #[49, 49]} : ByteArray))), (Frc.mk (({data := #[53]} : ByteArray)) (({data := #[55]} : ByteArray))), (Frc.mk (({data := #[49, 49]} : ByteArray)) (({data := #[49, 51]} : ByteArray))), (Frc.mk (({data := #[49, 55]} : ByteArray)) (({data := #[49, 57]} : ByteArray)))]))) rfl ?_
  refine o_ct (c_Play ([(Frc.mk (({data := #[49, 51]} : ByteArray)) (({data := #[49, 48]} : ByteArray))), (Frc.mk (({data := #[49, 57]} : ByteArray)) (({data := #[53]} : ByteArray))), (Frc.mk (({data := #[50, 49]} : ByteArray)) (({data := #[49, 49]} : ByteArray))), (Frc.mk (({data := #[53]} : ByteArray)) (({data := #[55]} : ByteArray))), (Frc.mk (({data := #[49, 49]} : ByteArray)) (({data := #[49, 51]} : ByteArray))), (Frc.mk (({data := #[49, 55]} : ByteArray)) (({data := #[49, 57]} : ByteArray)))]) (({data := #[54, 48]} : ByteArray)) ((4 : Int)) (by first | assumption | exact ex_sz) (by first | assumption | decide | omega)) Gd.none Yf_tC26 rfl ?_
  refine o_mv (AV.tup [(AV.lit (.string ((plyA ([(Frc.mk (({data := #[49, 51]} : ByteArray)) (({data := #[49, 48]} : ByteArray))), (Frc.mk (({data := #[49, 57]} : ByteArray)) (({data := #[53]} : ByteArray))), (Frc.mk (({data := #[50, 49]} : ByteArray)) (({data := #[49, 49]} : ByteArray))), (Frc.mk (({data := #[53]} : ByteArray)) (({data := #[55]} : ByteArray))), (Frc.mk (({data := #[49, 49]} : ByteArray)) (({data := #[49, 51]} : ByteArray))), (Frc.mk (({data := #[49, 55]} : ByteArray)) (({data := #[49, 57]} : ByteArray)))]) (({data := #[54, 48]} : ByteArray)) ((4 : Int))).1))), (nm .i64 ((plyA ([(Frc.mk (({data := #[49, 51]} : ByteArray)) (({data := #[49, 48]} : ByteArray))), (Frc.mk (({data := #[49, 57]} : ByteArray)) (({data := #[53]} : ByteArray))), (Frc.mk (({data := #[50, 49]} : ByteArray)) (({data := #[49, 49]} : ByteArray))), (Frc.mk (({data := #[53]} : ByteArray)) (({data := #[55]} : ByteArray))), (Frc.mk (({data := #[49, 49]} : ByteArray)) (({data := #[49, 51]} : ByteArray))), (Frc.mk (({data := #[49, 55]} : ByteArray)) (({data := #[49, 57]} : ByteArray)))]) (({data := #[54, 48]} : ByteArray)) ((4 : Int))).2.1)), (nm .i64 ((plyA ([(Frc.mk (({data := #[49, 51]} : ByteArray)) (({data := #[49, 48]} : ByteArray))), (Frc.mk (({data := #[49, 57]} : ByteArray)) (({data := #[53]} : ByteArray))), (Frc.mk (({data := #[50, 49]} : ByteArray)) (({data := #[49, 49]} : ByteArray))), (Frc.mk (({data := #[53]} : ByteArray)) (({data := #[55]} : ByteArray))), (Frc.mk (({data := #[49, 49]} : ByteArray)) (({data := #[49, 51]} : ByteArray))), (Frc.mk (({data := #[49, 55]} : ByteArray)) (({data := #[49, 57]} : ByteArray)))]) (({data := #[54, 48]} : ByteArray)) ((4 : Int))).2.2))]) rfl ?_
  refine o_extract (AV.lit (.string ((plyA ([(Frc.mk (({data := #[49, 51]} : ByteArray)) (({data := #[49, 48]} : ByteArray))), (Frc.mk (({data := #[49, 57]} : ByteArray)) (({data := #[53]} : ByteArray))), (Frc.mk (({data := #[50, 49]} : ByteArray)) (({data := #[49, 49]} : ByteArray))), (Frc.mk (({data := #[53]} : ByteArray)) (({data := #[55]} : ByteArray))), (Frc.mk (({data := #[49, 49]} : ByteArray)) (({data := #[49, 51]} : ByteArray))), (Frc.mk (({data := #[49, 55]} : ByteArray)) (({data := #[49, 57]} : ByteArray)))]) (({data := #[54, 48]} : ByteArray)) ((4 : Int))).1))) Gd.none rfl rfl ?_
  refine n_as (v' := (AV.lit (.string (({data := #[57, 48]} : ByteArray))))) (by exact str_as2 (congrArg Prod.fst ex_play)) ?_
  refine o_extract (nm .i64 ((plyA ([(Frc.mk (({data := #[49, 51]} : ByteArray)) (({data := #[49, 48]} : ByteArray))), (Frc.mk (({data := #[49, 57]} : ByteArray)) (({data := #[53]} : ByteArray))), (Frc.mk (({data := #[50, 49]} : ByteArray)) (({data := #[49, 49]} : ByteArray))), (Frc.mk (({data := #[53]} : ByteArray)) (({data := #[55]} : ByteArray))), (Frc.mk (({data := #[49, 49]} : ByteArray)) (({data := #[49, 51]} : ByteArray))), (Frc.mk (({data := #[49, 55]} : ByteArray)) (({data := #[49, 57]} : ByteArray)))]) (({data := #[54, 48]} : ByteArray)) ((4 : Int))).2.1)) Gd.none rfl rfl ?_
  refine n_as (v' := (nm .i64 (4))) (by exact congrArg (nm _) (congrArg (fun x => x.2.1) ex_play)) ?_
  refine o_extract (nm .i64 ((plyA ([(Frc.mk (({data := #[49, 51]} : ByteArray)) (({data := #[49, 48]} : ByteArray))), (Frc.mk (({data := #[49, 57]} : ByteArray)) (({data := #[53]} : ByteArray))), (Frc.mk (({data := #[50, 49]} : ByteArray)) (({data := #[49, 49]} : ByteArray))), (Frc.mk (({data := #[53]} : ByteArray)) (({data := #[55]} : ByteArray))), (Frc.mk (({data := #[49, 49]} : ByteArray)) (({data := #[49, 51]} : ByteArray))), (Frc.mk (({data := #[49, 55]} : ByteArray)) (({data := #[49, 57]} : ByteArray)))]) (({data := #[54, 48]} : ByteArray)) ((4 : Int))).2.2)) Gd.none rfl rfl ?_
  refine n_as (v' := (nm .i64 (0))) (by exact congrArg (nm _) (congrArg (fun x => x.2.2) ex_play)) ?_
  refine o_as (AV.lit (.string (({data := #[57, 48]} : ByteArray)))) rfl ?_
  refine o_as (nm .i64 (4)) rfl ?_
  refine o_as (nm .i64 (0)) rfl ?_
  refine aops_end ?_
  refine hK3 _ ?_
  refine awp_seq fun K4 hK4 => ?_
  refine awp_region rfl ?_
  refine o_mv (nm .i64 (0)) rfl ?_
  refine n_eql (0) (0) Gd.none rfl rfl ?_
  refine o_mv (bp ((0) = (0))) rfl ?_
  refine o_move (nm .i64 (0)) (Gd.yes rfl rfl (decide_eq_true (by decide))) rfl ?_
  refine n_eql (0) (0) (Gd.yes rfl rfl (decide_eq_true (by decide))) rfl rfl ?_
  refine o_pickT (bp ((0) = (0))) Gd.none rfl (decide_eq_true (by decide)) rfl ?_
  refine o_mv (bp ((0) = (0))) rfl ?_
  refine o_move (nm .i64 (0)) (Gd.yes rfl rfl (decide_eq_true (by decide))) rfl ?_
  refine n_eql (0) (0) (Gd.yes rfl rfl (decide_eq_true (by decide))) rfl rfl ?_
  refine o_pickT (bp ((0) = (0))) Gd.none rfl (decide_eq_true (by decide)) rfl ?_
  refine o_mv (bp ((0) = (0))) rfl ?_
  refine o_move (AV.lit (.string (({data := #[54, 48]} : ByteArray)))) (Gd.yes rfl rfl (decide_eq_true (by decide))) rfl ?_
  refine o_eqlS (a := (({data := #[54, 48]} : ByteArray))) (c := (({data := #[54, 48]} : ByteArray))) (Gd.yes rfl rfl (decide_eq_true (by decide))) rfl rfl ?_
  refine o_pickT (bp ((({data := #[54, 48]} : ByteArray)).toList = (({data := #[54, 48]} : ByteArray)).toList)) Gd.none rfl (decide_eq_true (by decide)) rfl ?_
  refine o_mv (bp ((({data := #[54, 48]} : ByteArray)).toList = (({data := #[54, 48]} : ByteArray)).toList)) rfl ?_
  refine o_move (AV.lit (.string (({data := #[57, 48]} : ByteArray)))) (Gd.yes rfl rfl (decide_eq_true rfl)) rfl ?_
  refine o_eqlS (a := (({data := #[57, 48]} : ByteArray))) (c := (({data := #[57, 48]} : ByteArray))) (Gd.yes rfl rfl (decide_eq_true rfl)) rfl rfl ?_
  refine o_pickT (bp ((({data := #[57, 48]} : ByteArray)).toList = (({data := #[57, 48]} : ByteArray)).toList)) Gd.none rfl (decide_eq_true rfl) rfl ?_
  refine o_mv (bp ((({data := #[57, 48]} : ByteArray)).toList = (({data := #[57, 48]} : ByteArray)).toList)) rfl ?_
  refine o_move (nm .i64 (4)) (Gd.yes rfl rfl (decide_eq_true rfl)) rfl ?_
  refine n_eql (4) (4) (Gd.yes rfl rfl (decide_eq_true rfl)) rfl rfl ?_
  refine o_pickT (bp ((4) = (4))) Gd.none rfl (decide_eq_true rfl) rfl ?_
  refine o_mv (bp ((4) = (4))) rfl ?_
  refine o_move (AV.sl 2 (gcells cF ([(Frc.mk (({data := #[49, 51]} : ByteArray)) (({data := #[49, 48]} : ByteArray))), (Frc.mk (({data := #[49, 57]} : ByteArray)) (({data := #[53]} : ByteArray))), (Frc.mk (({data := #[50, 49]} : ByteArray)) (({data := #[49, 49]} : ByteArray))), (Frc.mk (({data := #[53]} : ByteArray)) (({data := #[55]} : ByteArray))), (Frc.mk (({data := #[49, 49]} : ByteArray)) (({data := #[49, 51]} : ByteArray))), (Frc.mk (({data := #[49, 55]} : ByteArray)) (({data := #[49, 57]} : ByteArray)))]))) (Gd.yes rfl rfl (decide_eq_true (by decide))) rfl ?_
  refine o_build [(AV.lit (.string (({data := #[49, 51]} : ByteArray)))), (AV.lit (.string (({data := #[49, 48]} : ByteArray))))] [(0, [(AV.lit (.string (({data := #[49, 51]} : ByteArray))))]), (1, [(AV.lit (.string (({data := #[49, 48]} : ByteArray))))])] (Gd.yes rfl rfl (decide_eq_true (by decide))) Yf_tP52 Yf_tO52 rfl rfl rfl ?_
  refine o_build [(AV.lit (.string (({data := #[49, 57]} : ByteArray)))), (AV.lit (.string (({data := #[53]} : ByteArray))))] [(0, [(AV.lit (.string (({data := #[49, 57]} : ByteArray))))]), (1, [(AV.lit (.string (({data := #[53]} : ByteArray))))])] (Gd.yes rfl rfl (decide_eq_true (by decide))) Yf_tP52 Yf_tO52 rfl rfl rfl ?_
  refine o_build [(AV.lit (.string (({data := #[50, 49]} : ByteArray)))), (AV.lit (.string (({data := #[49, 49]} : ByteArray))))] [(0, [(AV.lit (.string (({data := #[50, 49]} : ByteArray))))]), (1, [(AV.lit (.string (({data := #[49, 49]} : ByteArray))))])] (Gd.yes rfl rfl (decide_eq_true (by decide))) Yf_tP52 Yf_tO52 rfl rfl rfl ?_
  refine o_build [(AV.lit (.string (({data := #[53]} : ByteArray)))), (AV.lit (.string (({data := #[55]} : ByteArray))))] [(0, [(AV.lit (.string (({data := #[53]} : ByteArray))))]), (1, [(AV.lit (.string (({data := #[55]} : ByteArray))))])] (Gd.yes rfl rfl (decide_eq_true (by decide))) Yf_tP52 Yf_tO52 rfl rfl rfl ?_
  refine o_build [(AV.lit (.string (({data := #[49, 49]} : ByteArray)))), (AV.lit (.string (({data := #[49, 51]} : ByteArray))))] [(0, [(AV.lit (.string (({data := #[49, 49]} : ByteArray))))]), (1, [(AV.lit (.string (({data := #[49, 51]} : ByteArray))))])] (Gd.yes rfl rfl (decide_eq_true (by decide))) Yf_tP52 Yf_tO52 rfl rfl rfl ?_
  refine o_build [(AV.lit (.string (({data := #[49, 55]} : ByteArray)))), (AV.lit (.string (({data := #[49, 57]} : ByteArray))))] [(0, [(AV.lit (.string (({data := #[49, 55]} : ByteArray))))]), (1, [(AV.lit (.string (({data := #[49, 57]} : ByteArray))))])] (Gd.yes rfl rfl (decide_eq_true (by decide))) Yf_tP52 Yf_tO52 rfl rfl rfl ?_
  refine o_buildSlice 3 (gcells cF ([(Frc.mk (({data := #[49, 51]} : ByteArray)) (({data := #[49, 48]} : ByteArray))), (Frc.mk (({data := #[49, 57]} : ByteArray)) (({data := #[53]} : ByteArray))), (Frc.mk (({data := #[50, 49]} : ByteArray)) (({data := #[49, 49]} : ByteArray))), (Frc.mk (({data := #[53]} : ByteArray)) (({data := #[55]} : ByteArray))), (Frc.mk (({data := #[49, 49]} : ByteArray)) (({data := #[49, 51]} : ByteArray))), (Frc.mk (({data := #[49, 55]} : ByteArray)) (({data := #[49, 57]} : ByteArray)))])) [(0, [(AV.lit (.string (({data := #[49, 51]} : ByteArray)))), (AV.lit (.string (({data := #[49, 48]} : ByteArray))))]), (1, [(AV.lit (.string (({data := #[49, 57]} : ByteArray)))), (AV.lit (.string (({data := #[53]} : ByteArray))))]), (2, [(AV.lit (.string (({data := #[50, 49]} : ByteArray)))), (AV.lit (.string (({data := #[49, 49]} : ByteArray))))]), (3, [(AV.lit (.string (({data := #[53]} : ByteArray)))), (AV.lit (.string (({data := #[55]} : ByteArray))))]), (4, [(AV.lit (.string (({data := #[49, 49]} : ByteArray)))), (AV.lit (.string (({data := #[49, 51]} : ByteArray))))]), (5, [(AV.lit (.string (({data := #[49, 55]} : ByteArray)))), (AV.lit (.string (({data := #[49, 57]} : ByteArray))))])] (Gd.yes rfl rfl (decide_eq_true (by decide))) Yf_tE26 rfl Yf_tO52 rfl rfl rfl rfl rfl rfl rfl ?_
  refine o_callG [(3, 2, (gcells cF ([(Frc.mk (({data := #[49, 51]} : ByteArray)) (({data := #[49, 48]} : ByteArray))), (Frc.mk (({data := #[49, 57]} : ByteArray)) (({data := #[53]} : ByteArray))), (Frc.mk (({data := #[50, 49]} : ByteArray)) (({data := #[49, 49]} : ByteArray))), (Frc.mk (({data := #[53]} : ByteArray)) (({data := #[55]} : ByteArray))), (Frc.mk (({data := #[49, 49]} : ByteArray)) (({data := #[49, 51]} : ByteArray))), (Frc.mk (({data := #[49, 55]} : ByteArray)) (({data := #[49, 57]} : ByteArray)))])))] [(AV.sl 2 (gcells cF ([(Frc.mk (({data := #[49, 51]} : ByteArray)) (({data := #[49, 48]} : ByteArray))), (Frc.mk (({data := #[49, 57]} : ByteArray)) (({data := #[53]} : ByteArray))), (Frc.mk (({data := #[50, 49]} : ByteArray)) (({data := #[49, 49]} : ByteArray))), (Frc.mk (({data := #[53]} : ByteArray)) (({data := #[55]} : ByteArray))), (Frc.mk (({data := #[49, 49]} : ByteArray)) (({data := #[49, 51]} : ByteArray))), (Frc.mk (({data := #[49, 55]} : ByteArray)) (({data := #[49, 57]} : ByteArray)))]))), (AV.sl 2 (gcells cF ([(Frc.mk (({data := #[49, 51]} : ByteArray)) (({data := #[49, 48]} : ByteArray))), (Frc.mk (({data := #[49, 57]} : ByteArray)) (({data := #[53]} : ByteArray))), (Frc.mk (({data := #[50, 49]} : ByteArray)) (({data := #[49, 49]} : ByteArray))), (Frc.mk (({data := #[53]} : ByteArray)) (({data := #[55]} : ByteArray))), (Frc.mk (({data := #[49, 49]} : ByteArray)) (({data := #[49, 51]} : ByteArray))), (Frc.mk (({data := #[49, 55]} : ByteArray)) (({data := #[49, 57]} : ByteArray)))])))] _ (AV.lit (.bool true)) [] (Gd.yes rfl rfl (decide_eq_true (by decide))) Yf_tC17 rfl (And.intro ⟨_, rfl⟩ (trivial)) rfl rfl (LeL.cons (AV.le_refl _) (LeL.cons (AV.le_refl _) (LeL.nil))) (c_vSameList ([(Frc.mk (({data := #[49, 51]} : ByteArray)) (({data := #[49, 48]} : ByteArray))), (Frc.mk (({data := #[49, 57]} : ByteArray)) (({data := #[53]} : ByteArray))), (Frc.mk (({data := #[50, 49]} : ByteArray)) (({data := #[49, 49]} : ByteArray))), (Frc.mk (({data := #[53]} : ByteArray)) (({data := #[55]} : ByteArray))), (Frc.mk (({data := #[49, 49]} : ByteArray)) (({data := #[49, 51]} : ByteArray))), (Frc.mk (({data := #[49, 55]} : ByteArray)) (({data := #[49, 57]} : ByteArray)))]) (by first | assumption | omega | decide)) rfl ?_
  refine o_pickT (AV.lit (.bool true)) Gd.none rfl (decide_eq_true (by decide)) rfl ?_
  refine o_as (AV.lit (.bool true)) rfl ?_
  refine aops_end ?_
  refine hK4 _ ?_
  refine awp_ret ?_
  refine post_ret ⟨[(AV.lit (.bool true))], And.intro (AV.le_refl _) (trivial), rfl, ?_⟩
  rfl

end Go.Proofs.YtnejjdcbbminaaaGreatDoor

set_option linter.unusedVariables false
set_option linter.unusedSimpArgs false
namespace Go.Mth
open Go Go.Ab
def redV (f : Frc) : Prop := (okS f.num = true ∧ okS f.den = true) ∧ 0 < numS f.den ∧ Int.gcd (numS f.num) (numS f.den) = 1
noncomputable instance (f : Frc) : Decidable (redV f) := by unfold redV; infer_instance
theorem redV_red {f : Frc} : redP f ↔ redV f ∧ 0 < numS f.num := by
  unfold redP redV
  exact ⟨fun ⟨⟨a, b⟩, ⟨c, d⟩, e⟩ => ⟨⟨⟨a, c⟩, d, e⟩, b⟩, fun ⟨⟨⟨a, c⟩, d, e⟩, b⟩ => ⟨⟨a, b⟩, ⟨c, d⟩, e⟩⟩
theorem cmp_one {g : Nat} : cmpZ ((g : Nat) : Int) 1 = 0 ↔ g = 1 := by rw [cmpZ_zero]; omega
def nxV (l : List Frc) (z : Int) : Int := if 0 ≤ fstI l z then nxF l z else 0
def plyV (l : List Frc) : Nat → Int → Nat → Int → Int × Nat × Nat × Bool
  | 0, z, c, _ => (z, c, 0, true)
  | k + 1, z, c, w => if w - ((l.length : Int) + 1) * ((ndig z.natAbs : Int) + 20) < 0 then (0, 0, 0, false) else if 0 ≤ fstI l z then (if Fit (nxF l z) then plyV l k (nxF l z) (c + 1) (w - ((l.length : Int) + 1) * ((ndig z.natAbs : Int) + 20)) else (0, 0, 3, true)) else (z, c, 0, true)
def comR : List Frc → Int → Int
  | [], o => o
  | f :: r, o => if Fit o then comR r (cmX o (numS f.den)) else o
theorem comR_big : ∀ (l : List Frc) {o : Int}, ¬ Fit o → comR l o = o
  | [], _, _ => rfl
  | f :: r, o, h => if_neg h
theorem comR_com : ∀ (l : List Frc) (o : Int), Fit o → com l o = if Fit (comR l o) then (txt (comR l o), 0) else ({ data := #[] }, 3)
  | [], o, h => by rw [com, comR, if_pos h]
  | f :: r, o, h => by
    rw [com, comR, if_pos h]
    by_cases h2 : Fit (cmX o (numS f.den))
    · rw [if_pos h2]; exact comR_com r _ h2
    · rw [if_neg h2, comR_big r h2, if_neg h2]
theorem comA_R {l : List Frc} (hl : lstP l) : comA l = if Fit (comR l 1) then (txt (comR l 1), 0) else ({ data := #[] }, 3) := by
  rw [comA, if_pos hl]
  exact comR_com l 1 (fit_of_pow (k := 1) (by decide) (by decide) (by decide))
theorem cmX_eq {o d : Int} (ho : 0 < o) (hd : 0 < d) : o * (d / ((Int.gcd o d : Nat) : Int)) = cmX o d := by
  unfold cmX
  have a : ((Int.gcd o d : Nat) : Int) ∣ o := Int.gcd_dvd_left ..
  have b : ((Int.gcd o d : Nat) : Int) ∣ d := Int.gcd_dvd_right ..
  rw [← Int.mul_ediv_assoc _ b, Int.mul_comm (o / _), ← Int.mul_ediv_assoc _ a, Int.mul_comm]
theorem cmX_pos {o d : Int} (ho : 0 < o) (hd : 0 < d) : 0 < cmX o d := by
  have p : 0 < ((Int.gcd o d : Nat) : Int) := by
    have : 0 < Int.gcd o d := Int.gcd_pos_of_ne_zero_left _ (by omega)
    omega
  exact Int.mul_pos (Int.ediv_pos_of_pos_of_dvd ho (by omega) (Int.gcd_dvd_left ..)) hd
end Go.Mth

set_option linter.unusedVariables false
set_option linter.unusedSimpArgs false
namespace Go.Ab
theorem Wk.cells {C : Ctx} {n : Nat} {σ : St} {i ty : Nat} {cs cs' : List AV} (hs : lookO σ.objs i = some (.var ty cs)) (hl : LeL cs cs') : Wk C n σ ⟨σ.slots, (i, .var ty cs') :: σ.objs⟩ := fun w0 H L a w hr => by
  have conv : ∀ j o, lookO ((i, .var ty cs') :: σ.objs) j = some o → (j = i ∧ o = .var ty cs') ∨ (j ≠ i ∧ σ.sem.μ j = some o) := fun j o ho => by
    simp only [lookO] at ho
    by_cases h2 : j = i
    · subst h2
      simp at ho
      exact .inl ⟨rfl, ho.symm⟩
    · rw [beq_ne (fun e => h2 e.symm)] at ho
      exact .inr ⟨h2, ho⟩
  have hi0 := hr.objs i (.var ty cs) hs
  refine ⟨H, L, Ext.refl _ _, ⟨hr.glob, hr.heap, hr.size, hr.slot, fun j o ho => ?_, fun j k o o' g x x' hjk hj hk => ?_, hr.below, hr.defers⟩⟩
  · rcases conv j o ho with ⟨rfl, rfl⟩ | ⟨h1, h2⟩
    · obtain ⟨g, vs, a1, a2, a3, a4, a5, a6⟩ := hi0
      exact ⟨g, vs, a1, a2, hl.rep a3, a4, a5, a6⟩
    · exact hr.objs j o h2
  · have conv' : ∀ j o, lookO ((i, .var ty cs') :: σ.objs) j = some o → ∃ o', σ.sem.μ j = some o' := fun j o ho => by
      rcases conv j o ho with ⟨rfl, rfl⟩ | ⟨h1, h2⟩
      · exact ⟨_, hs⟩
      · exact ⟨_, h2⟩
    obtain ⟨o1, h1⟩ := conv' j o hj
    obtain ⟨o2, h2⟩ := conv' k o' hk
    exact hr.apart j k o1 o2 g x x' hjk h1 h2
end Go.Ab
namespace Go.Mth
open Go.Ab
def gC (a b : Nat) : Prop := ((digs a).getD ((digs a).length - 1) 0) ≤ ((digs b).getD ((digs b).length - 1) 0) ∧ 0 < (digs a).length - (digs b).length
instance (a b : Nat) : Decidable (gC a b) := inferInstanceAs (Decidable ((digs a).getD ((digs a).length - 1) 0 ≤ ((digs b).getD ((digs b).length - 1) 0) ∧ 0 < (digs a).length - (digs b).length))
def gSh (a b : Nat) : Nat := if gC a b then (digs a).length - (digs b).length - 1 else (digs a).length - (digs b).length
def gTop (a b : Nat) : Nat := if gC a b then ((digs a).getD ((digs a).length - 1) 0) * 1000000000 + (digs a).getD ((digs a).length - 2) 0 else ((digs a).getD ((digs a).length - 1) 0)
def gQ (a b : Nat) : Nat := max (gTop a b / ((digs b).getD ((digs b).length - 1) 0 + 1)) 1
def guessN (a b : Nat) : Nat := 1000000000 ^ gSh a b * gQ a b
theorem top_lo {a : Nat} (h : 0 < (digs a).length) : ((digs a).getD ((digs a).length - 1) 0) * 1000000000 ^ ((digs a).length - 1) ≤ a := by
  have h1 := val_split (digs a) (j := (digs a).length - 1) (by omega)
  have h2 := val_drop_succ (xs := digs a) (j := (digs a).length - 1) (by omega)
  rw [val_drop_all (xs := digs a) (j := (digs a).length - 1 + 1) (by omega), Nat.mul_zero, Nat.add_zero] at h2
  rw [val_digs, h2] at h1
  rw [Nat.mul_comm]
  omega
theorem top_hi {a : Nat} (h : 0 < (digs a).length) : a < ((digs a).getD ((digs a).length - 1) 0 + 1) * 1000000000 ^ ((digs a).length - 1) := by
  have h1 := val_split (digs a) (j := (digs a).length - 1) (by omega)
  have h2 := val_drop_succ (xs := digs a) (j := (digs a).length - 1) (by omega)
  rw [val_drop_all (xs := digs a) (j := (digs a).length - 1 + 1) (by omega), Nat.mul_zero, Nat.add_zero] at h2
  rw [val_digs, h2] at h1
  have h3 := val_lt ((digs_dig a).take ((digs a).length - 1))
  rw [List.length_take, Nat.min_eq_left (by omega)] at h3
  rw [Nat.add_mul, Nat.one_mul, Nat.mul_comm]
  omega
theorem top2_lo {a : Nat} (h : 2 ≤ (digs a).length) : ((digs a).getD ((digs a).length - 1) 0 * 1000000000 + (digs a).getD ((digs a).length - 2) 0) * 1000000000 ^ ((digs a).length - 2) ≤ a := by
  have h1 := val_split (digs a) (j := (digs a).length - 2) (by omega)
  have h2 := val_drop_succ (xs := digs a) (j := (digs a).length - 1) (by omega)
  rw [val_drop_all (xs := digs a) (j := (digs a).length - 1 + 1) (by omega), Nat.mul_zero, Nat.add_zero] at h2
  have h3 := val_drop_succ (xs := digs a) (j := (digs a).length - 2) (by omega)
  rw [show (digs a).length - 2 + 1 = (digs a).length - 1 by omega, h2] at h3
  rw [val_digs, h3] at h1
  rw [Nat.mul_comm, Nat.add_comm (_ * _), Nat.mul_comm ((digs a).getD ((digs a).length - 1) 0)]
  omega
theorem top_pos {a : Nat} (h : 0 < (digs a).length) : 0 < ((digs a).getD ((digs a).length - 1) 0) := by
  have h1 := val_drop_pos (n := a) (j := (digs a).length - 1) (by omega)
  have h2 := val_drop_succ (xs := digs a) (j := (digs a).length - 1) (by omega)
  rw [val_drop_all (xs := digs a) (j := (digs a).length - 1 + 1) (by omega), Nat.mul_zero, Nat.add_zero] at h2
  omega
theorem digs_pos_len {a : Nat} (h : 0 < a) : 0 < (digs a).length := by
  rcases Nat.eq_zero_or_pos ((digs a).length) with e | e
  · have := digs_len_zero.1 e; omega
  · exact e
theorem guess_le {a b : Nat} (hb : 0 < b) (hab : b ≤ a) : 1 ≤ guessN a b ∧ guessN a b * b ≤ a := by
  have hlb := digs_pos_len hb
  have hla := digs_pos_len (show 0 < a by omega)
  have hll : (digs b).length ≤ (digs a).length := digs_len_le hab
  have hq1 : 1 ≤ gQ a b := Nat.le_max_right _ _
  have hbh := top_hi hlb
  refine ⟨?_, ?_⟩
  · have := Nat.mul_le_mul (show 1 ≤ 1000000000 ^ gSh a b from Nat.pow_pos (by decide)) hq1
    unfold guessN; omega
  · have htop : gTop a b * 1000000000 ^ (gSh a b + ((digs b).length - 1)) ≤ a := by
      unfold gTop gSh
      split
      · rename_i h
        have := h.2
        rw [show (digs a).length - (digs b).length - 1 + ((digs b).length - 1) = (digs a).length - 2 by omega]
        exact top2_lo (by omega)
      · rw [show (digs a).length - (digs b).length + ((digs b).length - 1) = (digs a).length - 1 by omega]
        exact top_lo hla
    by_cases hc : ((digs b).getD ((digs b).length - 1) 0) + 1 ≤ gTop a b
    · have hq : gQ a b * ((digs b).getD ((digs b).length - 1) 0 + 1) ≤ gTop a b := by
        have h1 : 1 ≤ gTop a b / ((digs b).getD ((digs b).length - 1) 0 + 1) := Nat.div_pos hc (by omega)
        have h2 : gQ a b = gTop a b / ((digs b).getD ((digs b).length - 1) 0 + 1) := Nat.max_eq_left h1
        rw [h2]; exact Nat.div_mul_le_self _ _
      refine Nat.le_trans ?_ htop
      unfold guessN
      calc 1000000000 ^ gSh a b * gQ a b * b ≤ 1000000000 ^ gSh a b * gQ a b * (((digs b).getD ((digs b).length - 1) 0 + 1) * 1000000000 ^ ((digs b).length - 1)) := Nat.mul_le_mul_left _ (Nat.le_of_lt hbh)
        _ = (gQ a b * ((digs b).getD ((digs b).length - 1) 0 + 1)) * 1000000000 ^ (gSh a b + ((digs b).length - 1)) := by
          rw [Nat.pow_add, Nat.mul_comm (1000000000 ^ gSh a b) (gQ a b), Nat.mul_assoc, Nat.mul_assoc, Nat.mul_left_comm (1000000000 ^ gSh a b)]
        _ ≤ gTop a b * 1000000000 ^ (gSh a b + ((digs b).length - 1)) := Nat.mul_le_mul_right _ hq
    · have hnc : ¬ gC a b := fun h => by
        have ht : gTop a b = ((digs a).getD ((digs a).length - 1) 0) * 1000000000 + (digs a).getD ((digs a).length - 2) 0 := if_pos h
        have := top_pos hla
        have hbt := Dig.getD (digs_dig b) ((digs b).length - 1)
        omega
      have ht : gTop a b = ((digs a).getD ((digs a).length - 1) 0) := if_neg hnc
      have hsh : gSh a b = 0 := by
        unfold gSh
        rw [if_neg hnc]
        rcases Nat.eq_zero_or_pos ((digs a).length - (digs b).length) with e | e
        · exact e
        · exact absurd ⟨by omega, e⟩ hnc
      have hq : gQ a b = 1 := by
        unfold gQ
        rw [Nat.div_eq_of_lt (by omega)]
        rfl
      unfold guessN
      rw [hsh, hq]
      omega
theorem app_step {r L : List Nat} {x : Nat} (h : r ++ digs x = L) (hx : 0 < x) : (r ++ [x % 1000000000]) ++ digs (x / 1000000000) = L := by
  rw [← h, digs_pos hx]; simp
theorem app_end {r L : List Nat} {x : Nat} (h : r ++ digs x = L) (hx : ¬ 0 < x) : r = L := by
  rw [show x = 0 by omega, digs_zero, List.append_nil] at h; exact h
theorem val_guess (sh q : Nat) : val (List.replicate sh 0 ++ digs q) = 1000000000 ^ sh * q := by
  rw [val_app, val_repl, val_digs, List.length_replicate]; omega
theorem div_inv {X q g Y r : Nat} (hv : X = q * Y + r) (h : g * Y ≤ r) : X = (q + g) * Y + (r - g * Y) := by rw [Nat.add_mul]; omega
theorem div_fin {X q Y r : Nat} (hv : X = q * Y + r) (h : r < Y) : q = X / Y ∧ r = X % Y := by
  subst hv
  constructor
  · rw [Nat.mul_comm, Nat.mul_add_div (by omega), Nat.div_eq_of_lt h]; rfl
  · rw [Nat.mul_comm, Nat.mul_add_mod, Nat.mod_eq_of_lt h]
theorem absR (x : Int) : AV.agg [AV.lit (.bool false), .sl 1 (ns .i64 (digs x.natAbs))] = intR ((x.natAbs : Nat) : Int) :=
  intK_eq (bl_bp (b := false) ⟨fun h => (by cases h), fun h => (by omega)⟩) rfl
theorem sgn_zero {n : Nat} : sgn ((n : Nat) : Int) = 0 ↔ n = 0 := by unfold sgn; repeat' split <;> omega
theorem cmpZ_nn {y : Int} {r : Nat} (hy : 0 < y) : 0 ≤ cmpZ ((r : Nat) : Int) y ↔ y.natAbs ≤ r := by unfold cmpZ; repeat' split <;> omega
theorem sub_cast {g r : Nat} {y : Int} (h : g * y.natAbs ≤ r) (hy : 0 < y) : ((r : Nat) : Int) - ((g : Nat) : Int) * y = ((r - g * y.natAbs : Nat) : Int) := by
  rw [Int.natCast_sub h, Int.natCast_mul, show ((y.natAbs : Nat) : Int) = y by omega]
theorem len_gy {g r : Nat} {y : Int} (h : g * y.natAbs ≤ r) : (digs (((g : Nat) : Int) * y).natAbs).length ≤ (digs r).length := by
  rw [Int.natAbs_mul]
  exact digs_len_le h
end Go.Mth

set_option linter.unusedVariables false
set_option linter.unusedSimpArgs false
namespace Go.Proofs.YtnejjdcbbminaaaGreatDoor
open Go Go.Ab Go.Mth
theorem Wx_tO39 : tyZero cx.P 39 = some [(Go.Value.bool false), (Go.Value.slice none 0 0)] := by kernel_rfl
theorem Wx_tF39_1 : tyField cx.P 39 1 = some (1, 37) := by kernel_rfl
theorem Wx_tS37 : tySc cx.P 37 = true := by kernel_rfl
theorem Wx_tU37 : cx.P.underlying 37 = some (.slice 3) := by kernel_rfl
theorem Wx_tE37 : tyElem cx.P 37 = some (3, 1, 8) := by kernel_rfl
theorem Wx_tS3 : tySc cx.P 3 = true := by kernel_rfl
theorem Wx_tO3 : tyZero cx.P 3 = some [(Go.Value.int IntKind.i64 0)] := by kernel_rfl
theorem Wx_tC67 : callable cx.P 67 = true := by kernel_rfl
theorem Wx_tZ39 : tySize cx.P 39 = some 2 := by kernel_rfl
theorem Wx_tA39 : tyAgg cx.P 39 = some 2 := by kernel_rfl
theorem Wx_tP39 : tyPlaces cx.P 39 = some (fun i => (#[(0, 1), (1, 1)] : Array (Nat × Nat))[i]?) := by kernel_rfl
theorem Wx_tC29 : callable cx.P 29 = true := by kernel_rfl
theorem Wx_tC97 : callable cx.P 97 = true := by kernel_rfl
theorem Wx_tC34 : callable cx.P 34 = true := by kernel_rfl
theorem Wx_tC30 : callable cx.P 30 = true := by kernel_rfl
theorem Wx_tC98 : callable cx.P 98 = true := by kernel_rfl
theorem Wx_tF39_0 : tyField cx.P 39 0 = some (0, 4) := by kernel_rfl
theorem Wx_tS4 : tySc cx.P 4 = true := by kernel_rfl
theorem Wx_tC33 : callable cx.P 33 = true := by kernel_rfl
theorem Wx_tC99 : callable cx.P 99 = true := by kernel_rfl
theorem Wx_tC78 : callable cx.P 78 = true := by kernel_rfl
theorem Wx_tC68 : callable cx.P 68 = true := by kernel_rfl
theorem c_rGuess (x y : Int) (hy : 0 < y.natAbs) (hxy : y.natAbs ≤ x.natAbs) (hx : (digs x.natAbs).length ≤ 1000000000) : ECalls cx 97 [(intR (x)), (intR (y))] (intR ((guessN x.natAbs y.natAbs : Nat) : Int)) := by
  refine ecalls_of_awp Tryz.func97 (c := _) rfl (Nat.le_of_ble_eq_true rfl) ?_
  show awp cx 74 _ (postF cx Tryz.f97 _) ⟨[(0, (intR (x))), (1, (intR (y)))], []⟩
  have hlb := digs_pos_len hy
  have hla := digs_pos_len (show 0 < x.natAbs by omega)
  have hll := digs_len_le hxy
  have hta := Dig.getD (digs_dig x.natAbs) ((digs (x).natAbs).length - 1)
  have hta2 := Dig.getD (digs_dig x.natAbs) ((digs (x).natAbs).length - 2)
  have htb := Dig.getD (digs_dig y.natAbs) ((digs (y).natAbs).length - 1)
  refine awp_seq fun K0 hK0 => ?_
  refine awp_region rfl ?_
  refine o_box 2 [(bp (x < 0)), (AV.sl 1 (ns .i64 (digs (x).natAbs)))] Gd.none rfl rfl ?_
  refine o_box 3 [(bp (y < 0)), (AV.sl 1 (ns .i64 (digs (y).natAbs)))] Gd.none rfl rfl ?_
  refine o_alloc 4 [(AV.lit (.bool false)), (AV.lit (.slice none 0 0))] Gd.none Wx_tO39 rfl rfl rfl ?_
  refine aops_end ?_
  refine hK0 _ ?_
  refine awp_seq fun K1 hK1 => ?_
  refine awp_region rfl ?_
  refine o_fieldRef 1 Gd.none Wx_tF39_1 rfl rfl ?_
  refine o_loadS (AV.sl 1 (ns .i64 (digs (y).natAbs))) Gd.none Wx_tS37 rfl rfl rfl ?_
  refine n_len (digs (y).natAbs) Gd.none Wx_tU37 rfl ?_
  refine o_as (nm .i64 ((digs (y).natAbs).length)) rfl ?_
  refine aops_end ?_
  refine hK1 _ ?_
  refine awp_seq fun K2 hK2 => ?_
  refine awp_region rfl ?_
  refine o_fieldRef 1 Gd.none Wx_tF39_1 rfl rfl ?_
  refine o_loadS (AV.sl 1 (ns .i64 (digs (x).natAbs))) Gd.none Wx_tS37 rfl rfl rfl ?_
  refine n_len (digs (x).natAbs) Gd.none Wx_tU37 rfl ?_
  refine o_mv (nm .i64 ((digs (y).natAbs).length)) rfl ?_
  refine n_sub ((digs (x).natAbs).length) ((digs (y).natAbs).length) Gd.none rfl rfl (by omega) (by simp only [topOf]; omega) ?_
  refine o_as (nm .i64 (((digs (x).natAbs).length) - ((digs (y).natAbs).length))) rfl ?_
  refine aops_end ?_
  refine hK2 _ ?_
  refine awp_seq fun K3 hK3 => ?_
  refine awp_region rfl ?_
  refine o_fieldRef 1 Gd.none Wx_tF39_1 rfl rfl ?_
  refine o_loadS (AV.sl 1 (ns .i64 (digs (x).natAbs))) Gd.none Wx_tS37 rfl rfl rfl ?_
  refine o_fieldRef 1 Gd.none Wx_tF39_1 rfl rfl ?_
  refine o_loadS (AV.sl 1 (ns .i64 (digs (x).natAbs))) Gd.none Wx_tS37 rfl rfl rfl ?_
  refine n_len (digs (x).natAbs) Gd.none Wx_tU37 rfl ?_
  refine n_sub ((digs (x).natAbs).length) (1) Gd.none rfl rfl (by omega) (by simp only [topOf]; omega) ?_
  refine n_index (digs (x).natAbs) (((digs (x).natAbs).length) - (1)) Gd.none Wx_tE37 rfl rfl (by omega) ?_
  refine n_loadI (digs (x).natAbs) (((digs (x).natAbs).length) - (1)) Gd.none Wx_tS3 rfl (by omega) ?_
  refine o_as (nm .i64 ((digs (x).natAbs).getD (((digs (x).natAbs).length) - (1)) 0)) rfl ?_
  refine aops_end ?_
  refine hK3 _ ?_
  refine awp_seqJ (J := fun σ => ∃ (sh : Nat), ∃ (top : Nat), (sh = gSh x.natAbs y.natAbs) ∧ (top = gTop x.natAbs y.natAbs) ∧ (sh ≤ 1000000000) ∧ (top < 1000000000000000000) ∧ True ∧ σ = ⟨[(2, (AV.ref 2 (0))), (3, (AV.ref 3 (0))), (4, (AV.ref 4 (0))), (5, (nm .i64 ((digs (y).natAbs).length))), (6, (nm .i64 (sh))), (7, (nm .i64 (top)))], [(2, (oZ 39 .i64 (x))), (3, (oZ 39 .i64 (y))), (4, (AO.var 39 [(AV.lit (.bool false)), (AV.lit (.slice none 0 0))]))]⟩) ?ja0 ?jb0
  case ja0 =>
    refine awp_seq fun K4 hK4 => ?_
    refine awp_region rfl ?_
    refine o_mv (nm .i64 ((digs (x).natAbs).getD (((digs (x).natAbs).length) - (1)) 0)) rfl ?_
    refine o_fieldRef 1 Gd.none Wx_tF39_1 rfl rfl ?_
    refine o_loadS (AV.sl 1 (ns .i64 (digs (y).natAbs))) Gd.none Wx_tS37 rfl rfl rfl ?_
    refine o_mv (nm .i64 ((digs (y).natAbs).length)) rfl ?_
    refine n_sub ((digs (y).natAbs).length) (1) Gd.none rfl rfl (by omega) (by simp only [topOf]; omega) ?_
    refine n_index (digs (y).natAbs) (((digs (y).natAbs).length) - (1)) Gd.none Wx_tE37 rfl rfl (by omega) ?_
    refine n_loadI (digs (y).natAbs) (((digs (y).natAbs).length) - (1)) Gd.none Wx_tS3 rfl (by omega) ?_
    refine n_leq ((digs (x).natAbs).getD (((digs (x).natAbs).length) - (1)) 0) ((digs (y).natAbs).getD (((digs (y).natAbs).length) - (1)) 0) Gd.none rfl rfl ?_
    refine o_mv (bp (((digs (x).natAbs).getD (((digs (x).natAbs).length) - (1)) 0) ≤ ((digs (y).natAbs).getD (((digs (y).natAbs).length) - (1)) 0))) rfl ?_
    refine o_splitP (q := ((digs (x).natAbs).getD (((digs (x).natAbs).length) - (1)) 0) ≤ ((digs (y).natAbs).getD (((digs (y).natAbs).length) - (1)) 0)) 34 rfl (fun h1 => ?_) (fun h1 => ?_)
    · refine o_move (nm .i64 (((digs (x).natAbs).length) - ((digs (y).natAbs).length))) (Gd.yes rfl rfl (decide_eq_true h1)) rfl ?_
      refine n_gtr (((digs (x).natAbs).length) - ((digs (y).natAbs).length)) (0) (Gd.yes rfl rfl (decide_eq_true h1)) rfl rfl ?_
      refine o_pickT (bp ((0) < (((digs (x).natAbs).length) - ((digs (y).natAbs).length)))) Gd.none rfl (decide_eq_true h1) rfl ?_
      refine aops_end ?_
      refine hK4 _ ?_
      refine awp_condQ (q := (0) < (((digs (x).natAbs).length) - ((digs (y).natAbs).length))) rfl (fun h2 => ?_) (fun h2 => ?_)
      · refine awp_seq fun K5 hK5 => ?_
        refine awp_region rfl ?_
        refine o_mv (nm .i64 (((digs (x).natAbs).length) - ((digs (y).natAbs).length))) rfl ?_
        refine n_sub (((digs (x).natAbs).length) - ((digs (y).natAbs).length)) (1) Gd.none rfl rfl (by omega) (by simp only [topOf]; omega) ?_
        refine o_as (nm .i64 ((((digs (x).natAbs).length) - ((digs (y).natAbs).length)) - (1))) rfl ?_
        refine aops_end ?_
        refine hK5 _ ?_
        refine awp_region rfl ?_
        refine o_mv (nm .i64 ((digs (x).natAbs).getD (((digs (x).natAbs).length) - (1)) 0)) rfl ?_
        refine n_mul ((digs (x).natAbs).getD (((digs (x).natAbs).length) - (1)) 0) (1000000000) Gd.none rfl rfl (by simp only [topOf]; omega) ?_
        refine o_fieldRef 1 Gd.none Wx_tF39_1 rfl rfl ?_
        refine o_loadS (AV.sl 1 (ns .i64 (digs (x).natAbs))) Gd.none Wx_tS37 rfl rfl rfl ?_
        refine o_fieldRef 1 Gd.none Wx_tF39_1 rfl rfl ?_
        refine o_loadS (AV.sl 1 (ns .i64 (digs (x).natAbs))) Gd.none Wx_tS37 rfl rfl rfl ?_
        refine n_len (digs (x).natAbs) Gd.none Wx_tU37 rfl ?_
        refine n_sub ((digs (x).natAbs).length) (2) Gd.none rfl rfl (by omega) (by simp only [topOf]; omega) ?_
        refine n_index (digs (x).natAbs) (((digs (x).natAbs).length) - (2)) Gd.none Wx_tE37 rfl rfl (by omega) ?_
        refine n_loadI (digs (x).natAbs) (((digs (x).natAbs).length) - (2)) Gd.none Wx_tS3 rfl (by omega) ?_
        refine n_add (((digs (x).natAbs).getD (((digs (x).natAbs).length) - (1)) 0) * (1000000000)) ((digs (x).natAbs).getD (((digs (x).natAbs).length) - (2)) 0) Gd.none rfl rfl (by simp only [topOf]; omega) ?_
        refine o_as (nm .i64 ((((digs (x).natAbs).getD (((digs (x).natAbs).length) - (1)) 0) * (1000000000)) + ((digs (x).natAbs).getD (((digs (x).natAbs).length) - (2)) 0))) rfl ?_
        refine aops_end ?_
        exact ⟨_, ⟨(digs (x).natAbs).length - (digs (y).natAbs).length - 1, ((digs (x).natAbs).getD ((digs (x).natAbs).length - 1) 0) * 1000000000 + (digs (x).natAbs).getD ((digs (x).natAbs).length - 2) 0, (by unfold gSh; rw [if_pos (show gC x.natAbs y.natAbs from ⟨h1, by omega⟩)]), (by unfold gTop; rw [if_pos (show gC x.natAbs y.natAbs from ⟨h1, by omega⟩)]), (by omega), (by omega), trivial, rfl⟩, Wk.sub (And.intro rfl (And.intro rfl (And.intro rfl (And.intro rfl (And.intro (by first | rfl | exact congrArg (nm _) (by omega) | exact nm_int (by omega) | exact nm_int (by simp [IntKind.wrap, IntKind.bits, IntKind.signed]; omega)) (And.intro (by first | rfl | exact congrArg (nm _) (by omega) | exact nm_int (by omega) | exact nm_int (by simp [IntKind.wrap, IntKind.bits, IntKind.signed]; omega)) (trivial))))))) (And.intro rfl (And.intro rfl (And.intro rfl (trivial))))⟩
      · refine awp_skip ?_
        exact ⟨_, ⟨(digs (x).natAbs).length - (digs (y).natAbs).length, ((digs (x).natAbs).getD ((digs (x).natAbs).length - 1) 0), (by unfold gSh; rw [if_neg (show ¬ gC x.natAbs y.natAbs from fun h => absurd h.2 (by omega))]), (by unfold gTop; rw [if_neg (show ¬ gC x.natAbs y.natAbs from fun h => absurd h.2 (by omega))]), (by omega), (by omega), trivial, rfl⟩, Wk.sub (And.intro rfl (And.intro rfl (And.intro rfl (And.intro rfl (And.intro (by first | rfl | exact congrArg (nm _) (by omega) | exact nm_int (by omega) | exact nm_int (by simp [IntKind.wrap, IntKind.bits, IntKind.signed]; omega)) (And.intro (by first | rfl | exact congrArg (nm _) (by omega) | exact nm_int (by omega) | exact nm_int (by simp [IntKind.wrap, IntKind.bits, IntKind.signed]; omega)) (trivial))))))) (And.intro rfl (And.intro rfl (And.intro rfl (trivial))))⟩
    · refine o_skip rfl rfl (decide_eq_false h1) ?_
      refine o_skip rfl rfl (decide_eq_false h1) ?_
      refine o_pickF (AV.lit (.bool false)) Gd.none rfl (decide_eq_false h1) rfl ?_
      refine aops_end ?_
      refine hK4 _ ?_
      refine awp_condB (b := false) rfl (fun hh => absurd (hh.symm.trans rfl) (by decide)) (fun _ => ?_)
      refine awp_skip ?_
      exact ⟨_, ⟨(digs (x).natAbs).length - (digs (y).natAbs).length, ((digs (x).natAbs).getD ((digs (x).natAbs).length - 1) 0), (by unfold gSh; rw [if_neg (show ¬ gC x.natAbs y.natAbs from fun h => absurd h.1 (by omega))]), (by unfold gTop; rw [if_neg (show ¬ gC x.natAbs y.natAbs from fun h => absurd h.1 (by omega))]), (by omega), (by omega), trivial, rfl⟩, Wk.sub (And.intro rfl (And.intro rfl (And.intro rfl (And.intro rfl (And.intro (by first | rfl | exact congrArg (nm _) (by omega) | exact nm_int (by omega) | exact nm_int (by simp [IntKind.wrap, IntKind.bits, IntKind.signed]; omega)) (And.intro (by first | rfl | exact congrArg (nm _) (by omega) | exact nm_int (by omega) | exact nm_int (by simp [IntKind.wrap, IntKind.bits, IntKind.signed]; omega)) (trivial))))))) (And.intro rfl (And.intro rfl (And.intro rfl (trivial))))⟩
  rintro _ ⟨sh, top, hs, ht, hs2, ht2, -, rfl⟩
  have hdq := Nat.div_le_self top (((digs (y).natAbs).getD ((digs (y).natAbs).length - 1) 0) + 1)
  refine awp_seq fun K6 hK6 => ?_
  refine awp_region rfl ?_
  refine o_mv (nm .i64 (top)) rfl ?_
  refine o_fieldRef 1 Gd.none Wx_tF39_1 rfl rfl ?_
  refine o_loadS (AV.sl 1 (ns .i64 (digs (y).natAbs))) Gd.none Wx_tS37 rfl rfl rfl ?_
  refine o_mv (nm .i64 ((digs (y).natAbs).length)) rfl ?_
  refine n_sub ((digs (y).natAbs).length) (1) Gd.none rfl rfl (by omega) (by simp only [topOf]; omega) ?_
  refine n_index (digs (y).natAbs) (((digs (y).natAbs).length) - (1)) Gd.none Wx_tE37 rfl rfl (by omega) ?_
  refine n_loadI (digs (y).natAbs) (((digs (y).natAbs).length) - (1)) Gd.none Wx_tS3 rfl (by omega) ?_
  refine n_add ((digs (y).natAbs).getD (((digs (y).natAbs).length) - (1)) 0) (1) Gd.none rfl rfl (by simp only [topOf]; omega) ?_
  refine n_quo (top) (((digs (y).natAbs).getD (((digs (y).natAbs).length) - (1)) 0) + (1)) Gd.none rfl rfl (by omega) (by simp only [topOf]; omega) ?_
  refine n_max ((top) / (((digs (y).natAbs).getD (((digs (y).natAbs).length) - (1)) 0) + (1))) (1) Gd.none rfl rfl (fun a c w => run_max a c w) ?_
  refine o_as (nm .i64 (max ((top) / (((digs (y).natAbs).getD (((digs (y).natAbs).length) - (1)) 0) + (1))) (1))) rfl ?_
  refine aops_end ?_
  refine hK6 _ ?_
  refine awp_seq fun K7 hK7 => ?_
  refine awp_region rfl ?_
  refine o_mv (nm .i64 (sh)) rfl ?_
  refine n_make 101 (sh) Gd.none Wx_tE37 Wx_tO3 rfl rfl (by omega) rfl rfl ?_
  refine o_as (AV.row 101) rfl ?_
  refine aops_end ?_
  refine hK7 _ ?_
  refine awp_seq fun K8 hK8 => ?_
  refine awp_block ?_
  refine awp_loopR (fun κ σ => ∃ (u : Nat), ∃ (r : List Nat), (u ≤ 1000000000000000000) ∧ (r ++ digs u = List.replicate sh 0 ++ digs (max (top / (((digs (y).natAbs).getD ((digs (y).natAbs).length - 1) 0) + 1)) 1)) ∧ (Dig r) ∧ (u) = κ ∧ σ = ⟨[(2, (AV.ref 2 (0))), (3, (AV.ref 3 (0))), (4, (AV.ref 4 (0))), (8, (nm .i64 (u))), (9, (AV.row 5))], [(2, (oZ 39 .i64 (x))), (3, (oZ 39 .i64 (y))), (4, (AO.var 39 [(AV.lit (.bool false)), (AV.lit (.slice none 0 0))])), (5, (AO.row 3 1 (ns .i64 (r))))]⟩) ⟨_, _, ⟨max (top / (((digs (y).natAbs).getD ((digs (y).natAbs).length - 1) 0) + 1)) 1, List.replicate sh 0, (by have := Nat.div_le_self top (((digs (y).natAbs).getD ((digs (y).natAbs).length - 1) 0) + 1); omega), rfl, (Dig.repl _), rfl, rfl⟩, ?wk1⟩ ?rd1
  case wk1 =>
    exact Wk.trans (Wk.sub (σ' := ⟨[(2, (AV.ref 2 (0))), (3, (AV.ref 3 (0))), (4, (AV.ref 4 (0))), (8, (nm .i64 (max ((top) / (((digs (y).natAbs).getD (((digs (y).natAbs).length) - (1)) 0) + (1))) (1)))), (9, (AV.row 101))], [(2, (oZ 39 .i64 (x))), (3, (oZ 39 .i64 (y))), (4, (AO.var 39 [(AV.lit (.bool false)), (AV.lit (.slice none 0 0))])), (101, (AO.row 3 1 (ns .i64 (List.replicate (sh) 0))))]⟩) (And.intro rfl (And.intro rfl (And.intro rfl (And.intro rfl (And.intro rfl (trivial)))))) (And.intro rfl (And.intro rfl (And.intro rfl (And.intro rfl (trivial)))))) (Wk.trans (Wk.ren (id := 101) (id' := 5) rfl) (Wk.sub (And.intro rfl (And.intro rfl (And.intro rfl (And.intro (by first | rfl | exact congrArg (nm _) (by omega) | exact nm_int (by omega) | exact nm_int (by simp [IntKind.wrap, IntKind.bits, IntKind.signed]; omega)) (And.intro (by first | rfl | (simp)) (trivial)))))) (And.intro rfl (And.intro rfl (And.intro rfl (And.intro (by first | rfl | exact row_ns (by simp)) (trivial)))))))
  rintro κ _ ⟨u, r, hu, hr, hrd, rfl, rfl⟩
  have hlen := congrArg List.length hr
  simp only [List.length_append, List.length_replicate] at hlen
  have hq3 := digs_len_small (n := max (top / (((digs (y).natAbs).getD ((digs (y).natAbs).length - 1) 0) + 1)) 1) (by have := Nat.div_le_self top (((digs (y).natAbs).getD ((digs (y).natAbs).length - 1) 0) + 1); omega)
  refine awp_seq fun K9 hK9 => ?_
  refine awp_seq fun K10 hK10 => ?_
  refine awp_region rfl ?_
  refine o_mv (nm .i64 (u)) rfl ?_
  refine n_gtr (u) (0) Gd.none rfl rfl ?_
  refine aops_end ?_
  refine hK10 _ ?_
  refine awp_condQ (q := (0) < (u)) rfl (fun h3 => ?_) (fun h3 => ?_)
  · refine awp_skip ?_
    refine hK9 _ ?_
    refine awp_block ?_
    refine awp_seq fun K11 hK11 => ?_
    refine awp_region rfl ?_
    refine o_mv (AV.row 5) rfl ?_
    refine o_mv (nm .i64 (u)) rfl ?_
    refine n_rem (u) (1000000000) Gd.none rfl rfl (by omega) ?_
    refine o_buildSlice 201 (ns .i64 ([(u) % (1000000000)])) [(0, [(nm .i64 ((u) % (1000000000)))])] Gd.none Wx_tE37 rfl Wx_tO3 rfl rfl rfl rfl rfl rfl rfl ?_
    refine n_append 202 (r) ([(u) % (1000000000)]) [(201, (AO.row 3 1 (ns .i64 ([(u) % (1000000000)])))), (2, (oZ 39 .i64 (x))), (3, (oZ 39 .i64 (y))), (4, (AO.var 39 [(AV.lit (.bool false)), (AV.lit (.slice none 0 0))]))] Gd.none Wx_tE37 Wx_tO3 rfl rfl rfl rfl rfl (by simp only [List.length_append, List.length_cons, List.length_nil]; omega) (by decide) rfl rfl ?_
    refine o_as (AV.row 202) rfl ?_
    refine aops_end ?_
    refine hK11 _ ?_
    refine awp_region rfl ?_
    refine o_mv (nm .i64 (u)) rfl ?_
    refine n_quo (u) (1000000000) Gd.none rfl rfl (by omega) (by simp only [topOf]; omega) ?_
    refine o_as (nm .i64 ((u) / (1000000000))) rfl ?_
    refine aops_end ?_
    refine ⟨_, _, ?lt, ⟨(u) / (1000000000), (r) ++ ([(u) % (1000000000)]), (by omega), (app_step hr (by assumption)), (hrd.snoc (Nat.mod_lt _ (by decide))), rfl, rfl⟩, ?wk⟩
    case lt => omega
    case wk => exact Wk.trans (Wk.sub (σ' := ⟨[(2, (AV.ref 2 (0))), (3, (AV.ref 3 (0))), (4, (AV.ref 4 (0))), (8, (nm .i64 ((u) / (1000000000)))), (9, (AV.row 202))], [(2, (oZ 39 .i64 (x))), (3, (oZ 39 .i64 (y))), (4, (AO.var 39 [(AV.lit (.bool false)), (AV.lit (.slice none 0 0))])), (202, (AO.row 3 1 (ns .i64 ((r) ++ ([(u) % (1000000000)])))))]⟩) (And.intro rfl (And.intro rfl (And.intro rfl (And.intro rfl (And.intro rfl (trivial)))))) (And.intro rfl (And.intro rfl (And.intro rfl (And.intro rfl (trivial)))))) (Wk.trans (Wk.ren (id := 202) (id' := 5) rfl) (Wk.sub (And.intro rfl (And.intro rfl (And.intro rfl (And.intro (by first | rfl | exact congrArg (nm _) (by omega) | exact nm_int (by omega) | exact nm_int (by simp [IntKind.wrap, IntKind.bits, IntKind.signed]; omega)) (And.intro (by first | rfl | (simp)) (trivial)))))) (And.intro rfl (And.intro rfl (And.intro rfl (And.intro (by first | rfl | exact row_ns (by simp)) (trivial)))))))
  · refine awp_exit ?_
    refine hK8 _ ?_
    refine awp_seq fun K12 hK12 => ?_
    refine awp_region rfl ?_
    refine o_mv (AV.row 5) rfl ?_
    refine o_callG [(5, 1, (ns .i64 (r)))] [(AV.lit (.bool false)), (AV.sl 1 (ns .i64 (r)))] _ (intR ((sg (false) (val (r))))) [(2, (oZ 39 .i64 (x))), (3, (oZ 39 .i64 (y))), (4, (AO.var 39 [(AV.lit (.bool false)), (AV.lit (.slice none 0 0))]))] Gd.none Wx_tC67 rfl (And.intro ⟨_, rfl⟩ (trivial)) rfl rfl (LeL.cons (AV.le_refl _) (LeL.cons (AV.le_refl _) (LeL.nil))) (c_rTrim (false) (r) (by first | assumption | exact dgn_dig _ _ | exact digs_dig _ | exact Dig.snoc (by assumption) (by assumption) | exact Dig.cons (by omega) (digs_dig _))) rfl ?_
    refine o_store [(2, (oZ 39 .i64 (x))), (3, (oZ 39 .i64 (y))), (4, (oZ 39 .i64 ((sg (false) (val (r))))))] Gd.none Wx_tZ39 rfl rfl rfl rfl rfl rfl ?_
    refine aops_end ?_
    refine hK12 _ ?_
    refine awp_ret ?_
    refine post_ret ⟨[(intR ((sg (false) (val (r)))))], And.intro ⟨4, (oZ 39 .i64 ((sg (false) (val (r))))), rfl, rfl, rfl, Or.inl ⟨Wx_tA39, AV.le_refl _⟩⟩ (trivial), rfl, ?_⟩
    refine congrArg intR ?_
    rw [app_end hr (by assumption), val_guess]
    show _ = ((_ : Nat) : Int)
    unfold guessN gQ
    rw [← hs, ← ht]

theorem c_rDiv (x y : Int) (hy : 0 < y) (hx : (digs x.natAbs).length ≤ 800000000) (hyl : (digs y.natAbs).length ≤ 800000000) : ECalls cx 68 [(intR (x)), (intR (y))] (.tup [intR (x / y), intR (x % y)]) := by
  refine ecalls_of_awp Tryz.func68 (c := _) rfl (Nat.le_of_ble_eq_true rfl) ?_
  show awp cx 46 _ (postF cx Tryz.f68 _) ⟨[(0, (intR (x))), (1, (intR (y)))], []⟩
  refine awp_seq fun K0 hK0 => ?_
  refine awp_region rfl ?_
  refine o_box 2 [(bp (x < 0)), (AV.sl 1 (ns .i64 (digs (x).natAbs)))] Gd.none rfl rfl ?_
  refine o_box 3 [(bp (y < 0)), (AV.sl 1 (ns .i64 (digs (y).natAbs)))] Gd.none rfl rfl ?_
  refine o_alloc 4 [(AV.lit (.bool false)), (AV.lit (.slice none 0 0))] Gd.none Wx_tO39 rfl rfl rfl ?_
  refine o_alloc 5 [(AV.lit (.bool false)), (AV.lit (.slice none 0 0))] Gd.none Wx_tO39 rfl rfl rfl ?_
  refine aops_end ?_
  refine hK0 _ ?_
  refine awp_seq fun K1 hK1 => ?_
  refine awp_region rfl ?_
  refine o_build [(AV.lit (.bool false)), (AV.lit (.slice none 0 0))] [] Gd.none Wx_tP39 Wx_tO39 rfl rfl rfl ?_
  refine o_alloc 6 [(AV.lit (.bool false)), (AV.lit (.slice none 0 0))] Gd.none Wx_tO39 rfl rfl rfl ?_
  refine o_store [(6, (AO.var 39 [(AV.lit (.bool false)), (AV.lit (.slice none 0 0))])), (5, (AO.var 39 [(AV.lit (.bool false)), (AV.lit (.slice none 0 0))])), (4, (AO.var 39 [(AV.lit (.bool false)), (AV.lit (.slice none 0 0))])), (3, (oZ 39 .i64 (y))), (2, (oZ 39 .i64 (x)))] Gd.none Wx_tZ39 rfl rfl rfl rfl rfl rfl ?_
  refine aops_end ?_
  refine hK1 _ ?_
  refine awp_seq fun K2 hK2 => ?_
  refine awp_region rfl ?_
  refine o_fieldRef 1 Gd.none Wx_tF39_1 rfl rfl ?_
  refine o_loadS (AV.sl 1 (ns .i64 (digs (x).natAbs))) Gd.none Wx_tS37 rfl rfl rfl ?_
  refine o_build [(AV.lit (.bool false)), (AV.sl 1 (ns .i64 (digs (x).natAbs)))] [(1, [(AV.sl 1 (ns .i64 (digs (x).natAbs)))])] Gd.none Wx_tP39 Wx_tO39 rfl rfl rfl ?_
  refine n_as (v' := (intR (((x.natAbs : Nat) : Int)))) (by exact absR x) ?_
  refine o_alloc 7 [(AV.lit (.bool false)), (AV.lit (.slice none 0 0))] Gd.none Wx_tO39 rfl rfl rfl ?_
  refine o_store [(7, (oZ 39 .i64 (((x.natAbs : Nat) : Int)))), (6, (AO.var 39 [(AV.lit (.bool false)), (AV.lit (.slice none 0 0))])), (5, (AO.var 39 [(AV.lit (.bool false)), (AV.lit (.slice none 0 0))])), (4, (AO.var 39 [(AV.lit (.bool false)), (AV.lit (.slice none 0 0))])), (3, (oZ 39 .i64 (y))), (2, (oZ 39 .i64 (x)))] Gd.none Wx_tZ39 rfl rfl rfl rfl rfl rfl ?_
  refine aops_end ?_
  refine hK2 _ ?_
  refine awp_seq fun K3 hK3 => ?_
  refine awp_block ?_
  refine awp_wk (Wk.cells (i := 6) (cs' := [bp (((0 : Nat) : Int) < 0), AV.sl 1 (ns .i64 (digs (((0 : Nat) : Int)).natAbs))]) rfl (LeL.cons (AV.le_eq (bl_bp (b := false) (by simp))) (LeL.cons (AV.le_nil' (by decide) (by simp [digs_zero, ns])) LeL.nil))) ?_
  refine awp_loopR (fun κ σ => ∃ (q : Nat), ∃ (r : Nat), (x.natAbs = q * y.natAbs + r) ∧ (r) = κ ∧ σ = ⟨[(2, (AV.ref 2 (0))), (3, (AV.ref 3 (0))), (4, (AV.ref 4 (0))), (5, (AV.ref 5 (0))), (6, (AV.ref 6 (0))), (7, (AV.ref 7 (0)))], [(2, (oZ 39 .i64 (x))), (3, (oZ 39 .i64 (y))), (4, (AO.var 39 [(AV.lit (.bool false)), (AV.lit (.slice none 0 0))])), (5, (AO.var 39 [(AV.lit (.bool false)), (AV.lit (.slice none 0 0))])), (6, (oZ 39 .i64 (((q : Nat) : Int)))), (7, (oZ 39 .i64 (((r : Nat) : Int))))]⟩) ⟨_, _, ⟨0, x.natAbs, (by omega), rfl, rfl⟩, ?wk0⟩ ?rd0
  case wk0 =>
    exact Wk.sub (And.intro rfl (And.intro rfl (And.intro rfl (And.intro rfl (And.intro rfl (And.intro rfl (trivial))))))) (And.intro rfl (And.intro rfl (And.intro rfl (And.intro rfl (And.intro rfl (And.intro rfl (trivial)))))))
  rintro κ _ ⟨q, r, hv, rfl, rfl⟩
  have hrx : r ≤ x.natAbs := by omega
  have hqx : q ≤ x.natAbs := by have := Nat.le_mul_of_pos_right q (show 0 < y.natAbs by omega); omega
  have hrl := digs_len_le hrx
  have hql := digs_len_le hqx
  have hrl2 : (digs (((r : Nat) : Int)).natAbs).length ≤ 800000000 := Nat.le_trans hrl hx
  have hql2 : (digs (((q : Nat) : Int)).natAbs).length ≤ 800000000 := Nat.le_trans hql hx
  have ho := len_one
  have hq1 := len_addZ ((q : Nat) : Int) 1
  have hcz := cmpZ_nn (r := r) hy
  refine awp_seq fun K4 hK4 => ?_
  refine awp_seq fun K5 hK5 => ?_
  refine awp_region rfl ?_
  refine o_loadA [(bp (((r : Nat) : Int) < 0)), (AV.sl 1 (ns .i64 (digs (((r : Nat) : Int)).natAbs)))] Gd.none Wx_tA39 rfl rfl rfl rfl rfl ?_
  refine o_loadA [(bp (y < 0)), (AV.sl 1 (ns .i64 (digs (y).natAbs)))] Gd.none Wx_tA39 rfl rfl rfl rfl rfl ?_
  refine o_ct (c_rCmp (((r : Nat) : Int)) (y)) Gd.none Wx_tC29 rfl ?_
  refine o_geq (a := (cmpZ (((r : Nat) : Int)) (y))) (c := (((0 : Nat) : Int))) Gd.none rfl rfl ?_
  refine aops_end ?_
  refine hK5 _ ?_
  refine awp_condQ (q := (((0 : Nat) : Int)) ≤ (cmpZ (((r : Nat) : Int)) (y))) rfl (fun h1 => ?_) (fun h1 => ?_)
  · have hyr := hcz.1 h1
    have hg := guess_le (show 0 < y.natAbs by omega) hyr
    have hgr : guessN r y.natAbs ≤ r := by have := Nat.le_mul_of_pos_right (guessN r y.natAbs) (show 0 < y.natAbs by omega); omega
    have hgl := digs_len_le hgr
    have hgl2 : (digs (((guessN r y.natAbs : Nat) : Int)).natAbs).length ≤ 800000000 := Nat.le_trans hgl hrl2
    have hml : (digs (((guessN r y.natAbs : Nat) : Int) * y).natAbs).length ≤ 800000000 := Nat.le_trans (len_gy hg.2) hrl2
    refine awp_skip ?_
    refine hK4 _ ?_
    refine awp_block ?_
    refine awp_seq fun K6 hK6 => ?_
    refine awp_region rfl ?_
    refine o_loadA [(bp (((r : Nat) : Int) < 0)), (AV.sl 1 (ns .i64 (digs (((r : Nat) : Int)).natAbs)))] Gd.none Wx_tA39 rfl rfl rfl rfl rfl ?_
    refine o_loadA [(bp (y < 0)), (AV.sl 1 (ns .i64 (digs (y).natAbs)))] Gd.none Wx_tA39 rfl rfl rfl rfl rfl ?_
    refine o_ct (c_rGuess (((r : Nat) : Int)) (y) (by omega) (by omega) (by first | omega | assumption | (simp only [Int.natAbs_neg]; omega))) Gd.none Wx_tC97 rfl ?_
    refine n_as (v' := (intR (((guessN r y.natAbs : Nat) : Int)))) (by rfl) ?_
    refine o_alloc 101 [(AV.lit (.bool false)), (AV.lit (.slice none 0 0))] Gd.none Wx_tO39 rfl rfl rfl ?_
    refine o_store [(101, (oZ 39 .i64 (((guessN r y.natAbs : Nat) : Int)))), (2, (oZ 39 .i64 (x))), (3, (oZ 39 .i64 (y))), (4, (AO.var 39 [(AV.lit (.bool false)), (AV.lit (.slice none 0 0))])), (5, (AO.var 39 [(AV.lit (.bool false)), (AV.lit (.slice none 0 0))])), (6, (oZ 39 .i64 (((q : Nat) : Int)))), (7, (oZ 39 .i64 (((r : Nat) : Int))))] Gd.none Wx_tZ39 rfl rfl rfl rfl rfl rfl ?_
    refine aops_end ?_
    refine hK6 _ ?_
    refine awp_seq fun K7 hK7 => ?_
    refine awp_region rfl ?_
    refine o_loadA [(bp (((q : Nat) : Int) < 0)), (AV.sl 1 (ns .i64 (digs (((q : Nat) : Int)).natAbs)))] Gd.none Wx_tA39 rfl rfl rfl rfl rfl ?_
    refine o_loadA [(bp (((guessN r y.natAbs : Nat) : Int) < 0)), (AV.sl 1 (ns .i64 (digs (((guessN r y.natAbs : Nat) : Int)).natAbs)))] Gd.none Wx_tA39 rfl rfl rfl rfl rfl ?_
    refine o_ct (c_rAdd (((q : Nat) : Int)) (((guessN r y.natAbs : Nat) : Int)) (by first | omega | assumption | (simp only [Int.natAbs_neg]; omega)) (by first | omega | assumption | (simp only [Int.natAbs_neg]; omega))) Gd.none Wx_tC34 rfl ?_
    refine n_as (v' := (intR (((q + guessN r y.natAbs : Nat) : Int)))) (by exact congrArg intR (Int.natCast_add _ _).symm) ?_
    refine o_store [(101, (oZ 39 .i64 (((guessN r y.natAbs : Nat) : Int)))), (2, (oZ 39 .i64 (x))), (3, (oZ 39 .i64 (y))), (4, (AO.var 39 [(AV.lit (.bool false)), (AV.lit (.slice none 0 0))])), (5, (AO.var 39 [(AV.lit (.bool false)), (AV.lit (.slice none 0 0))])), (6, (oZ 39 .i64 (((q + guessN r y.natAbs : Nat) : Int)))), (7, (oZ 39 .i64 (((r : Nat) : Int))))] Gd.none Wx_tZ39 rfl rfl rfl rfl rfl rfl ?_
    refine aops_end ?_
    refine hK7 _ ?_
    refine awp_regionD rfl ?_
    refine o_loadA [(bp (((r : Nat) : Int) < 0)), (AV.sl 1 (ns .i64 (digs (((r : Nat) : Int)).natAbs)))] Gd.none Wx_tA39 rfl rfl rfl rfl rfl ?_
    refine o_loadA [(bp (((guessN r y.natAbs : Nat) : Int) < 0)), (AV.sl 1 (ns .i64 (digs (((guessN r y.natAbs : Nat) : Int)).natAbs)))] Gd.none Wx_tA39 rfl rfl rfl rfl rfl ?_
    refine o_loadA [(bp (y < 0)), (AV.sl 1 (ns .i64 (digs (y).natAbs)))] Gd.none Wx_tA39 rfl rfl rfl rfl rfl ?_
    refine o_ct (c_rMul (((guessN r y.natAbs : Nat) : Int)) (y) (by first | omega | assumption | (simp only [Int.natAbs_neg]; omega)) (by first | omega | assumption | (simp only [Int.natAbs_neg]; omega))) Gd.none Wx_tC30 rfl ?_
    refine o_ct (c_rSub (((r : Nat) : Int)) ((((guessN r y.natAbs : Nat) : Int) * y)) (by first | omega | assumption | (simp only [Int.natAbs_neg]; omega)) (by first | omega | assumption | (simp only [Int.natAbs_neg]; omega))) Gd.none Wx_tC98 rfl ?_
    refine n_as (v' := (intR (((r - guessN r y.natAbs * y.natAbs : Nat) : Int)))) (by exact congrArg intR (sub_cast hg.2 hy)) ?_
    refine o_store [(101, (oZ 39 .i64 (((guessN r y.natAbs : Nat) : Int)))), (2, (oZ 39 .i64 (x))), (3, (oZ 39 .i64 (y))), (4, (AO.var 39 [(AV.lit (.bool false)), (AV.lit (.slice none 0 0))])), (5, (AO.var 39 [(AV.lit (.bool false)), (AV.lit (.slice none 0 0))])), (6, (oZ 39 .i64 (((q + guessN r y.natAbs : Nat) : Int)))), (7, (oZ 39 .i64 (((r - guessN r y.natAbs * y.natAbs : Nat) : Int))))] Gd.none Wx_tZ39 rfl rfl rfl rfl rfl rfl ?_
    refine aops_end ⟨by kernel_rfl, ?_⟩
    refine ⟨_, _, ?lt, ⟨q + guessN r y.natAbs, r - guessN r y.natAbs * y.natAbs, (div_inv hv hg.2), rfl, rfl⟩, ?wk⟩
    case lt => (have := Nat.mul_le_mul_right y.natAbs hg.1; omega)
    case wk => exact Wk.sub (And.intro rfl (And.intro rfl (And.intro rfl (And.intro rfl (And.intro rfl (And.intro rfl (trivial))))))) (And.intro rfl (And.intro rfl (And.intro rfl (And.intro rfl (And.intro rfl (And.intro rfl (trivial)))))))
  · have hry : r < y.natAbs := Nat.not_le.1 fun h => h1 (hcz.2 h)
    have hE := div_fin hv hry
    have hyy : ((y.natAbs : Nat) : Int) = y := by omega
    refine awp_exit ?_
    refine hK3 _ ?_
    refine awp_seq fun K8 hK8 => ?_
    refine awp_seq fun K9 hK9 => ?_
    refine awp_region rfl ?_
    refine o_fieldRef 0 Gd.none Wx_tF39_0 rfl rfl ?_
    refine o_loadS (bp (x < 0)) Gd.none Wx_tS4 rfl rfl rfl ?_
    refine o_notP (q := x < 0) Gd.none rfl ?_
    refine aops_end ?_
    refine hK9 _ ?_
    refine awp_condQ (q := ¬ (x < 0)) rfl (fun h2 => ?_) (fun h2 => ?_)
    · refine awp_seq fun K10 hK10 => ?_
      refine awp_regionD rfl ?_
      refine o_loadA [(bp (((q : Nat) : Int) < 0)), (AV.sl 1 (ns .i64 (digs (((q : Nat) : Int)).natAbs)))] Gd.none Wx_tA39 rfl rfl rfl rfl rfl ?_
      refine o_loadA [(bp (((r : Nat) : Int) < 0)), (AV.sl 1 (ns .i64 (digs (((r : Nat) : Int)).natAbs)))] Gd.none Wx_tA39 rfl rfl rfl rfl rfl ?_
      refine o_store [(2, (oZ 39 .i64 (x))), (3, (oZ 39 .i64 (y))), (4, (oZ 39 .i64 (((q : Nat) : Int)))), (5, (AO.var 39 [(AV.lit (.bool false)), (AV.lit (.slice none 0 0))])), (6, (oZ 39 .i64 (((q : Nat) : Int)))), (7, (oZ 39 .i64 (((r : Nat) : Int))))] Gd.none Wx_tZ39 rfl rfl rfl rfl rfl rfl ?_
      refine o_store [(2, (oZ 39 .i64 (x))), (3, (oZ 39 .i64 (y))), (4, (oZ 39 .i64 (((q : Nat) : Int)))), (5, (oZ 39 .i64 (((r : Nat) : Int)))), (6, (oZ 39 .i64 (((q : Nat) : Int)))), (7, (oZ 39 .i64 (((r : Nat) : Int))))] Gd.none Wx_tZ39 rfl rfl rfl rfl rfl rfl ?_
      refine aops_end ⟨by kernel_rfl, ?_⟩
      refine hK10 _ ?_
      refine awp_ret ?_
      refine post_ret ⟨[(intR (((q : Nat) : Int))), (intR (((r : Nat) : Int)))], And.intro ⟨4, (oZ 39 .i64 (((q : Nat) : Int))), rfl, rfl, rfl, Or.inl ⟨Wx_tA39, AV.le_refl _⟩⟩ (And.intro ⟨5, (oZ 39 .i64 (((r : Nat) : Int))), rfl, rfl, rfl, Or.inl ⟨Wx_tA39, AV.le_refl _⟩⟩ (trivial)), rfl, ?_⟩
      have e := part1 (d := y.natAbs) h2 (by omega) hE.1 hE.2
      rw [hyy] at e
      exact tup_eq2 (congrArg intR e.1) (congrArg intR e.2)
    · refine awp_skip ?_
      refine hK8 _ ?_
      refine awp_seq fun K11 hK11 => ?_
      refine awp_seq fun K12 hK12 => ?_
      refine awp_region rfl ?_
      refine o_loadA [(bp (((r : Nat) : Int) < 0)), (AV.sl 1 (ns .i64 (digs (((r : Nat) : Int)).natAbs)))] Gd.none Wx_tA39 rfl rfl rfl rfl rfl ?_
      refine o_ct (c_rSign (((r : Nat) : Int))) Gd.none Wx_tC33 rfl ?_
      refine o_eql (a := (sgn (((r : Nat) : Int)))) (c := (((0 : Nat) : Int))) Gd.none rfl rfl ?_
      refine aops_end ?_
      refine hK12 _ ?_
      refine awp_condQ (q := (sgn (((r : Nat) : Int))) = (((0 : Nat) : Int))) rfl (fun h3 => ?_) (fun h3 => ?_)
      · refine awp_seq fun K13 hK13 => ?_
        refine awp_regionD rfl ?_
        refine o_loadA [(bp (((q : Nat) : Int) < 0)), (AV.sl 1 (ns .i64 (digs (((q : Nat) : Int)).natAbs)))] Gd.none Wx_tA39 rfl rfl rfl rfl rfl ?_
        refine o_ct (c_rMinus (((q : Nat) : Int))) Gd.none Wx_tC99 rfl ?_
        refine o_loadA [(bp (((r : Nat) : Int) < 0)), (AV.sl 1 (ns .i64 (digs (((r : Nat) : Int)).natAbs)))] Gd.none Wx_tA39 rfl rfl rfl rfl rfl ?_
        refine o_store [(2, (oZ 39 .i64 (x))), (3, (oZ 39 .i64 (y))), (4, (oZ 39 .i64 ((-((q : Nat) : Int))))), (5, (AO.var 39 [(AV.lit (.bool false)), (AV.lit (.slice none 0 0))])), (6, (oZ 39 .i64 (((q : Nat) : Int)))), (7, (oZ 39 .i64 (((r : Nat) : Int))))] Gd.none Wx_tZ39 rfl rfl rfl rfl rfl rfl ?_
        refine o_store [(2, (oZ 39 .i64 (x))), (3, (oZ 39 .i64 (y))), (4, (oZ 39 .i64 ((-((q : Nat) : Int))))), (5, (oZ 39 .i64 (((r : Nat) : Int)))), (6, (oZ 39 .i64 (((q : Nat) : Int)))), (7, (oZ 39 .i64 (((r : Nat) : Int))))] Gd.none Wx_tZ39 rfl rfl rfl rfl rfl rfl ?_
        refine aops_end ⟨by kernel_rfl, ?_⟩
        refine hK13 _ ?_
        refine awp_ret ?_
        refine post_ret ⟨[(intR ((-((q : Nat) : Int)))), (intR (((r : Nat) : Int)))], And.intro ⟨4, (oZ 39 .i64 ((-((q : Nat) : Int)))), rfl, rfl, rfl, Or.inl ⟨Wx_tA39, AV.le_refl _⟩⟩ (And.intro ⟨5, (oZ 39 .i64 (((r : Nat) : Int))), rfl, rfl, rfl, Or.inl ⟨Wx_tA39, AV.le_refl _⟩⟩ (trivial)), rfl, ?_⟩
        have e := part2 (d := y.natAbs) (Decidable.not_not.1 h2) (by omega) hE.1 hE.2 (sgn_zero.1 h3)
        rw [hyy] at e
        exact tup_eq2 (congrArg intR e.1) (congrArg intR (e.2.trans (by rw [sgn_zero.1 h3]; rfl)))
      · refine awp_skip ?_
        refine hK11 _ ?_
        refine awp_seq fun K14 hK14 => ?_
        refine awp_regionD rfl ?_
        refine o_loadA [(bp (((q : Nat) : Int) < 0)), (AV.sl 1 (ns .i64 (digs (((q : Nat) : Int)).natAbs)))] Gd.none Wx_tA39 rfl rfl rfl rfl rfl ?_
        refine o_ct (c_rOf ((1 : Int)) (by first | decide | omega) (by first | decide | omega)) Gd.none Wx_tC78 rfl ?_
        refine o_ct (c_rAdd (((q : Nat) : Int)) ((1 : Int)) (by first | omega | assumption | (simp only [Int.natAbs_neg]; omega)) (by first | omega | assumption | (simp only [Int.natAbs_neg]; omega))) Gd.none Wx_tC34 rfl ?_
        refine o_ct (c_rMinus ((((q : Nat) : Int) + (1 : Int)))) Gd.none Wx_tC99 rfl ?_
        refine o_loadA [(bp (y < 0)), (AV.sl 1 (ns .i64 (digs (y).natAbs)))] Gd.none Wx_tA39 rfl rfl rfl rfl rfl ?_
        refine o_loadA [(bp (((r : Nat) : Int) < 0)), (AV.sl 1 (ns .i64 (digs (((r : Nat) : Int)).natAbs)))] Gd.none Wx_tA39 rfl rfl rfl rfl rfl ?_
        refine o_ct (c_rSub (y) (((r : Nat) : Int)) (by first | omega | assumption | (simp only [Int.natAbs_neg]; omega)) (by first | omega | assumption | (simp only [Int.natAbs_neg]; omega))) Gd.none Wx_tC98 rfl ?_
        refine o_store [(2, (oZ 39 .i64 (x))), (3, (oZ 39 .i64 (y))), (4, (oZ 39 .i64 ((-(((q : Nat) : Int) + (1 : Int)))))), (5, (AO.var 39 [(AV.lit (.bool false)), (AV.lit (.slice none 0 0))])), (6, (oZ 39 .i64 (((q : Nat) : Int)))), (7, (oZ 39 .i64 (((r : Nat) : Int))))] Gd.none Wx_tZ39 rfl rfl rfl rfl rfl rfl ?_
        refine o_store [(2, (oZ 39 .i64 (x))), (3, (oZ 39 .i64 (y))), (4, (oZ 39 .i64 ((-(((q : Nat) : Int) + (1 : Int)))))), (5, (oZ 39 .i64 ((y - ((r : Nat) : Int))))), (6, (oZ 39 .i64 (((q : Nat) : Int)))), (7, (oZ 39 .i64 (((r : Nat) : Int))))] Gd.none Wx_tZ39 rfl rfl rfl rfl rfl rfl ?_
        refine aops_end ⟨by kernel_rfl, ?_⟩
        refine hK14 _ ?_
        refine awp_ret ?_
        refine post_ret ⟨[(intR ((-(((q : Nat) : Int) + (1 : Int))))), (intR ((y - ((r : Nat) : Int))))], And.intro ⟨4, (oZ 39 .i64 ((-(((q : Nat) : Int) + (1 : Int))))), rfl, rfl, rfl, Or.inl ⟨Wx_tA39, AV.le_refl _⟩⟩ (And.intro ⟨5, (oZ 39 .i64 ((y - ((r : Nat) : Int)))), rfl, rfl, rfl, Or.inl ⟨Wx_tA39, AV.le_refl _⟩⟩ (trivial)), rfl, ?_⟩
        have e := part3 (d := y.natAbs) (Decidable.not_not.1 h2) (by omega) hE.1 hE.2 (fun e => h3 (sgn_zero.2 e))
        rw [hyy] at e
        exact tup_eq2 (congrArg intR (e.1.trans (by omega))) (congrArg intR e.2)

theorem c_rGcd (x y : Int) (hx : (digs x.natAbs).length ≤ 800000000) (hyl : (digs y.natAbs).length ≤ 800000000) : ECalls cx 79 [(intR (x)), (intR (y))] (intR ((Int.gcd x y : Nat) : Int)) := by
  refine ecalls_of_awp Tryz.func79 (c := _) rfl (Nat.le_of_ble_eq_true rfl) ?_
  show awp cx 25 _ (postF cx Tryz.f79 _) ⟨[(0, (intR (x))), (1, (intR (y)))], []⟩
  refine awp_seq fun K0 hK0 => ?_
  refine awp_region rfl ?_
  refine o_box 2 [(bp (x < 0)), (AV.sl 1 (ns .i64 (digs (x).natAbs)))] Gd.none rfl rfl ?_
  refine o_box 3 [(bp (y < 0)), (AV.sl 1 (ns .i64 (digs (y).natAbs)))] Gd.none rfl rfl ?_
  refine o_alloc 4 [(AV.lit (.bool false)), (AV.lit (.slice none 0 0))] Gd.none Wx_tO39 rfl rfl rfl ?_
  refine aops_end ?_
  refine hK0 _ ?_
  refine awp_seq fun K1 hK1 => ?_
  refine awp_regionD rfl ?_
  refine o_fieldRef 1 Gd.none Wx_tF39_1 rfl rfl ?_
  refine o_loadS (AV.sl 1 (ns .i64 (digs (x).natAbs))) Gd.none Wx_tS37 rfl rfl rfl ?_
  refine o_build [(AV.lit (.bool false)), (AV.sl 1 (ns .i64 (digs (x).natAbs)))] [(1, [(AV.sl 1 (ns .i64 (digs (x).natAbs)))])] Gd.none Wx_tP39 Wx_tO39 rfl rfl rfl ?_
  refine n_as (v' := (intR (((x.natAbs : Nat) : Int)))) (by exact absR x) ?_
  refine o_fieldRef 1 Gd.none Wx_tF39_1 rfl rfl ?_
  refine o_loadS (AV.sl 1 (ns .i64 (digs (y).natAbs))) Gd.none Wx_tS37 rfl rfl rfl ?_
  refine o_build [(AV.lit (.bool false)), (AV.sl 1 (ns .i64 (digs (y).natAbs)))] [(1, [(AV.sl 1 (ns .i64 (digs (y).natAbs)))])] Gd.none Wx_tP39 Wx_tO39 rfl rfl rfl ?_
  refine n_as (v' := (intR (((y.natAbs : Nat) : Int)))) (by exact absR y) ?_
  refine o_store [(4, (AO.var 39 [(AV.lit (.bool false)), (AV.lit (.slice none 0 0))])), (3, (oZ 39 .i64 (y))), (2, (oZ 39 .i64 (((x.natAbs : Nat) : Int))))] Gd.none Wx_tZ39 rfl rfl rfl rfl rfl rfl ?_
  refine o_store [(4, (AO.var 39 [(AV.lit (.bool false)), (AV.lit (.slice none 0 0))])), (3, (oZ 39 .i64 (((y.natAbs : Nat) : Int)))), (2, (oZ 39 .i64 (((x.natAbs : Nat) : Int))))] Gd.none Wx_tZ39 rfl rfl rfl rfl rfl rfl ?_
  refine aops_end ⟨by kernel_rfl, ?_⟩
  refine hK1 _ ?_
  refine awp_seq fun K2 hK2 => ?_
  refine awp_block ?_
  refine awp_loopR (fun κ σ => ∃ (u : Nat), ∃ (v : Nat), (Nat.gcd u v = Int.gcd x y) ∧ ((digs u).length ≤ 800000000) ∧ ((digs v).length ≤ 800000000) ∧ (v) = κ ∧ σ = ⟨[(2, (AV.ref 2 (0))), (3, (AV.ref 3 (0))), (4, (AV.ref 4 (0)))], [(2, (oZ 39 .i64 (((u : Nat) : Int)))), (3, (oZ 39 .i64 (((v : Nat) : Int)))), (4, (AO.var 39 [(AV.lit (.bool false)), (AV.lit (.slice none 0 0))]))]⟩) ⟨_, _, ⟨x.natAbs, y.natAbs, rfl, hx, hyl, rfl, rfl⟩, ?wk0⟩ ?rd0
  case wk0 =>
    exact Wk.sub (And.intro rfl (And.intro rfl (And.intro rfl (trivial)))) (And.intro rfl (And.intro rfl (And.intro rfl (trivial))))
  rintro κ _ ⟨u, v, hg, hu, hv, rfl, rfl⟩
  have hu2 : (digs (((u : Nat) : Int)).natAbs).length ≤ 800000000 := hu
  have hv2 : (digs (((v : Nat) : Int)).natAbs).length ≤ 800000000 := hv
  refine awp_seq fun K3 hK3 => ?_
  refine awp_seq fun K4 hK4 => ?_
  refine awp_region rfl ?_
  refine o_loadA [(bp (((v : Nat) : Int) < 0)), (AV.sl 1 (ns .i64 (digs (((v : Nat) : Int)).natAbs)))] Gd.none Wx_tA39 rfl rfl rfl rfl rfl ?_
  refine o_ct (c_rSign (((v : Nat) : Int))) Gd.none Wx_tC33 rfl ?_
  refine o_neq (a := (sgn (((v : Nat) : Int)))) (c := (((0 : Nat) : Int))) Gd.none rfl rfl ?_
  refine aops_end ?_
  refine hK4 _ ?_
  refine awp_condQ (q := (sgn (((v : Nat) : Int))) ≠ (((0 : Nat) : Int))) rfl (fun h1 => ?_) (fun h1 => ?_)
  · have hv0 : 0 < v := Nat.pos_of_ne_zero fun e => h1 (sgn_zero.2 e)
    refine awp_skip ?_
    refine hK3 _ ?_
    refine awp_block ?_
    refine awp_seq fun K5 hK5 => ?_
    refine awp_region rfl ?_
    refine o_loadA [(bp (((u : Nat) : Int) < 0)), (AV.sl 1 (ns .i64 (digs (((u : Nat) : Int)).natAbs)))] Gd.none Wx_tA39 rfl rfl rfl rfl rfl ?_
    refine o_loadA [(bp (((v : Nat) : Int) < 0)), (AV.sl 1 (ns .i64 (digs (((v : Nat) : Int)).natAbs)))] Gd.none Wx_tA39 rfl rfl rfl rfl rfl ?_
    refine o_ct (c_rDiv (((u : Nat) : Int)) (((v : Nat) : Int)) (by omega) (by omega) (by omega)) Gd.none Wx_tC68 rfl ?_
    refine o_mv (AV.tup [(intR ((((u : Nat) : Int) / ((v : Nat) : Int)))), (intR ((((u : Nat) : Int) % ((v : Nat) : Int))))]) rfl ?_
    refine o_extract (intR ((((u : Nat) : Int) / ((v : Nat) : Int)))) Gd.none rfl rfl ?_
    refine o_extract (intR ((((u : Nat) : Int) % ((v : Nat) : Int)))) Gd.none rfl rfl ?_
    refine n_as (v' := (intR (((u % v : Nat) : Int)))) (by exact congrArg intR (Int.natCast_emod u v).symm) ?_
    refine o_alloc 101 [(AV.lit (.bool false)), (AV.lit (.slice none 0 0))] Gd.none Wx_tO39 rfl rfl rfl ?_
    refine o_alloc 102 [(AV.lit (.bool false)), (AV.lit (.slice none 0 0))] Gd.none Wx_tO39 rfl rfl rfl ?_
    refine o_store [(102, (AO.var 39 [(AV.lit (.bool false)), (AV.lit (.slice none 0 0))])), (101, (oZ 39 .i64 ((((u : Nat) : Int) / ((v : Nat) : Int))))), (2, (oZ 39 .i64 (((u : Nat) : Int)))), (3, (oZ 39 .i64 (((v : Nat) : Int)))), (4, (AO.var 39 [(AV.lit (.bool false)), (AV.lit (.slice none 0 0))]))] Gd.none Wx_tZ39 rfl rfl rfl rfl rfl rfl ?_
    refine o_store [(102, (oZ 39 .i64 (((u % v : Nat) : Int)))), (101, (oZ 39 .i64 ((((u : Nat) : Int) / ((v : Nat) : Int))))), (2, (oZ 39 .i64 (((u : Nat) : Int)))), (3, (oZ 39 .i64 (((v : Nat) : Int)))), (4, (AO.var 39 [(AV.lit (.bool false)), (AV.lit (.slice none 0 0))]))] Gd.none Wx_tZ39 rfl rfl rfl rfl rfl rfl ?_
    refine aops_end ?_
    refine hK5 _ ?_
    refine awp_regionD rfl ?_
    refine o_loadA [(bp (((v : Nat) : Int) < 0)), (AV.sl 1 (ns .i64 (digs (((v : Nat) : Int)).natAbs)))] Gd.none Wx_tA39 rfl rfl rfl rfl rfl ?_
    refine o_loadA [(bp (((u % v : Nat) : Int) < 0)), (AV.sl 1 (ns .i64 (digs (((u % v : Nat) : Int)).natAbs)))] Gd.none Wx_tA39 rfl rfl rfl rfl rfl ?_
    refine o_store [(102, (oZ 39 .i64 (((u % v : Nat) : Int)))), (101, (oZ 39 .i64 ((((u : Nat) : Int) / ((v : Nat) : Int))))), (2, (oZ 39 .i64 (((v : Nat) : Int)))), (3, (oZ 39 .i64 (((v : Nat) : Int)))), (4, (AO.var 39 [(AV.lit (.bool false)), (AV.lit (.slice none 0 0))]))] Gd.none Wx_tZ39 rfl rfl rfl rfl rfl rfl ?_
    refine o_store [(102, (oZ 39 .i64 (((u % v : Nat) : Int)))), (101, (oZ 39 .i64 ((((u : Nat) : Int) / ((v : Nat) : Int))))), (2, (oZ 39 .i64 (((v : Nat) : Int)))), (3, (oZ 39 .i64 (((u % v : Nat) : Int)))), (4, (AO.var 39 [(AV.lit (.bool false)), (AV.lit (.slice none 0 0))]))] Gd.none Wx_tZ39 rfl rfl rfl rfl rfl rfl ?_
    refine aops_end ⟨by kernel_rfl, ?_⟩
    refine ⟨_, _, ?lt, ⟨v, u % v, (gcd_next hg), hv, (Nat.le_trans (digs_len_mod u hv0) hv), rfl, rfl⟩, ?wk⟩
    case lt => exact Nat.mod_lt u hv0
    case wk => exact Wk.sub (And.intro rfl (And.intro rfl (And.intro rfl (trivial)))) (And.intro rfl (And.intro rfl (And.intro rfl (trivial))))
  · have hvz : v = 0 := sgn_zero.1 (Decidable.not_not.1 h1)
    refine awp_exit ?_
    refine hK2 _ ?_
    refine awp_seq fun K6 hK6 => ?_
    refine awp_region rfl ?_
    refine o_loadA [(bp (((u : Nat) : Int) < 0)), (AV.sl 1 (ns .i64 (digs (((u : Nat) : Int)).natAbs)))] Gd.none Wx_tA39 rfl rfl rfl rfl rfl ?_
    refine o_store [(2, (oZ 39 .i64 (((u : Nat) : Int)))), (3, (oZ 39 .i64 (((v : Nat) : Int)))), (4, (oZ 39 .i64 (((u : Nat) : Int))))] Gd.none Wx_tZ39 rfl rfl rfl rfl rfl rfl ?_
    refine aops_end ?_
    refine hK6 _ ?_
    refine awp_ret ?_
    refine post_ret ⟨[(intR (((u : Nat) : Int)))], And.intro ⟨4, (oZ 39 .i64 (((u : Nat) : Int))), rfl, rfl, rfl, Or.inl ⟨Wx_tA39, AV.le_refl _⟩⟩ (trivial), rfl, ?_⟩
    exact congrArg intR (congrArg Int.ofNat (gcd_end hg hvz))

end Go.Proofs.YtnejjdcbbminaaaGreatDoor

set_option linter.unusedVariables false
set_option linter.unusedSimpArgs false
namespace Go.Proofs.YtnejjdcbbminaaaGreatDoor
open Go Go.Ab Go.Mth
theorem Yg_tF52_0 : tyField cx.P 52 0 = some (0, 9) := by kernel_rfl
theorem Yg_tS9 : tySc cx.P 9 = true := by kernel_rfl
theorem Yg_tC28 : callable cx.P 28 = true := by kernel_rfl
theorem Yg_tF52_1 : tyField cx.P 52 1 = some (1, 9) := by kernel_rfl
theorem Yg_tC22 : callable cx.P 22 = true := by kernel_rfl
theorem Yg_tO39 : tyZero cx.P 39 = some [(Go.Value.bool false), (Go.Value.slice none 0 0)] := by kernel_rfl
theorem Yg_tZ39 : tySize cx.P 39 = some 2 := by kernel_rfl
theorem Yg_tA39 : tyAgg cx.P 39 = some 2 := by kernel_rfl
theorem Yg_tC33 : callable cx.P 33 = true := by kernel_rfl
theorem Yg_tC79 : callable cx.P 79 = true := by kernel_rfl
theorem Yg_tC78 : callable cx.P 78 = true := by kernel_rfl
theorem Yg_tC29 : callable cx.P 29 = true := by kernel_rfl
theorem Yg_tU26 : cx.P.underlying 26 = some (.slice 52) := by kernel_rfl
theorem Yg_tE26 : tyElem cx.P 26 = some (52, 2, 32) := by kernel_rfl
theorem Yg_tA52 : tyAgg cx.P 52 = some 2 := by kernel_rfl
theorem Yg_tC65 : callable cx.P 65 = true := by kernel_rfl
theorem Yg_tC19 : callable cx.P 19 = true := by kernel_rfl
theorem c_vReduced (f : Frc) (hn : f.num.size ≤ 9223372036854775807) (hd : f.den.size ≤ 9223372036854775807) : ECalls cx 65 [(AV.agg [(AV.lit (.string ((f).num))), (AV.lit (.string ((f).den)))])] (bp (redV f)) := by
  refine ecalls_of_awp Tryz.func65 (c := _) rfl (Nat.le_of_ble_eq_true rfl) ?_
  show awp cx 32 _ (postF cx Tryz.f65 _) ⟨[(0, (AV.agg [(AV.lit (.string ((f).num))), (AV.lit (.string ((f).den)))]))], []⟩
  refine awp_seq fun K0 hK0 => ?_
  refine awp_region rfl ?_
  refine o_box 2 [(AV.lit (.string ((f).num))), (AV.lit (.string ((f).den)))] Gd.none rfl rfl ?_
  refine o_as (AV.lit (.bool false)) rfl ?_
  refine aops_end ?_
  refine hK0 _ ?_
  refine awp_seq fun K1 hK1 => ?_
  refine awp_seq fun K2 hK2 => ?_
  refine awp_region rfl ?_
  refine o_fieldRef 0 Gd.none Yg_tF52_0 rfl rfl ?_
  refine o_loadS (AV.lit (.string ((f).num))) Gd.none Yg_tS9 rfl rfl rfl ?_
  refine o_ct (c_rValid ((f).num) (by first | assumption | decide | omega)) Gd.none Yg_tC28 rfl ?_
  refine o_not (b := okS ((f).num)) Gd.none rfl ?_
  refine o_mv (AV.lit (.bool (!(okS ((f).num))))) rfl ?_
  refine o_split (b := !(okS ((f).num))) 9 rfl (fun h1 => ?_) (fun h1 => ?_)
  · refine o_skip rfl rfl h1 ?_
    refine o_skip rfl rfl h1 ?_
    refine o_skip rfl rfl h1 ?_
    refine o_skip rfl rfl h1 ?_
    refine o_pickT (AV.lit (.bool true)) Gd.none rfl h1 rfl ?_
    refine aops_end ?_
    refine hK2 _ ?_
    refine awp_condB (b := true) rfl (fun _ => ?_) (fun hh => absurd (hh.symm.trans rfl) (by decide))
    refine awp_seq fun K3 hK3 => ?_
    refine awp_region rfl ?_
    refine o_as (AV.lit (.bool false)) rfl ?_
    refine aops_end ?_
    refine hK3 _ ?_
    refine awp_ret ?_
    refine post_ret ⟨[(AV.lit (.bool false))], And.intro (AV.le_refl _) (trivial), rfl, ?_⟩
    exact bpn (fun o => absurd o.1.1 (by simpa using h1))
  · refine o_fieldRef 1 (Gd.yes rfl rfl h1) Yg_tF52_1 rfl rfl ?_
    refine o_loadS (AV.lit (.string ((f).den))) (Gd.yes rfl rfl h1) Yg_tS9 rfl rfl rfl ?_
    refine o_ct (c_rValid ((f).den) (by first | assumption | decide | omega)) (Gd.yes rfl rfl h1) Yg_tC28 rfl ?_
    refine o_not (b := okS ((f).den)) (Gd.yes rfl rfl h1) rfl ?_
    refine o_pickF (AV.lit (.bool (!(okS ((f).den))))) Gd.none rfl h1 rfl ?_
    refine aops_end ?_
    refine hK2 _ ?_
    refine awp_condB (b := !(okS ((f).den))) rfl (fun h2 => ?_) (fun h2 => ?_)
    · refine awp_seq fun K4 hK4 => ?_
      refine awp_region rfl ?_
      refine o_as (AV.lit (.bool false)) rfl ?_
      refine aops_end ?_
      refine hK4 _ ?_
      refine awp_ret ?_
      refine post_ret ⟨[(AV.lit (.bool false))], And.intro (AV.le_refl _) (trivial), rfl, ?_⟩
      exact bpn (fun o => absurd o.1.2 (by simpa using h2))
    · have g1 : okS f.num = true := by simpa using h1
      have g2 : okS f.den = true := by simpa using h2
      have l1 := fit_len (fit_numS (okS_iff.1 g1))
      have l2 := fit_len (fit_numS (okS_iff.1 g2))
      have l3 := len_gcd (numS f.num) (numS f.den)
      have l4 := small_len (z := 1) (by decide)
      refine awp_skip ?_
      refine hK1 _ ?_
      refine awp_seq fun K5 hK5 => ?_
      refine awp_regionD rfl ?_
      refine o_fieldRef 0 Gd.none Yg_tF52_0 rfl rfl ?_
      refine o_loadS (AV.lit (.string ((f).num))) Gd.none Yg_tS9 rfl rfl rfl ?_
      refine o_ct (c_rParse ((f).num) (by first | assumption | exact okS_iff.1 (by assumption))) Gd.none Yg_tC22 rfl ?_
      refine o_fieldRef 1 Gd.none Yg_tF52_1 rfl rfl ?_
      refine o_loadS (AV.lit (.string ((f).den))) Gd.none Yg_tS9 rfl rfl rfl ?_
      refine o_ct (c_rParse ((f).den) (by first | assumption | exact okS_iff.1 (by assumption))) Gd.none Yg_tC22 rfl ?_
      refine o_alloc 3 [(AV.lit (.bool false)), (AV.lit (.slice none 0 0))] Gd.none Yg_tO39 rfl rfl rfl ?_
      refine o_alloc 4 [(AV.lit (.bool false)), (AV.lit (.slice none 0 0))] Gd.none Yg_tO39 rfl rfl rfl ?_
      refine o_store [(4, (AO.var 39 [(AV.lit (.bool false)), (AV.lit (.slice none 0 0))])), (3, (oZ 39 .i64 ((numS ((f).num))))), (2, (AO.var 52 [(AV.lit (.string ((f).num))), (AV.lit (.string ((f).den)))]))] Gd.none Yg_tZ39 rfl rfl rfl rfl rfl rfl ?_
      refine o_store [(4, (oZ 39 .i64 ((numS ((f).den))))), (3, (oZ 39 .i64 ((numS ((f).num))))), (2, (AO.var 52 [(AV.lit (.string ((f).num))), (AV.lit (.string ((f).den)))]))] Gd.none Yg_tZ39 rfl rfl rfl rfl rfl rfl ?_
      refine aops_end ⟨by kernel_rfl, ?_⟩
      refine hK5 _ ?_
      refine awp_seq fun K6 hK6 => ?_
      refine awp_region rfl ?_
      refine o_loadA [(bp ((numS ((f).den)) < 0)), (AV.sl 1 (ns .i64 (digs ((numS ((f).den))).natAbs)))] Gd.none Yg_tA39 rfl rfl rfl rfl rfl ?_
      refine o_ct (c_rSign ((numS ((f).den)))) Gd.none Yg_tC33 rfl ?_
      refine o_gtr (a := (sgn ((numS ((f).den))))) (c := (((0 : Nat) : Int))) Gd.none rfl rfl ?_
      refine o_mv (bp ((((0 : Nat) : Int)) < (sgn ((numS ((f).den)))))) rfl ?_
      refine o_splitP (q := (((0 : Nat) : Int)) < (sgn ((numS ((f).den))))) 24 rfl (fun h3 => ?_) (fun h3 => ?_)
      · refine o_loadA [(bp ((numS ((f).num)) < 0)), (AV.sl 1 (ns .i64 (digs ((numS ((f).num))).natAbs)))] (Gd.yes rfl rfl (decide_eq_true h3)) Yg_tA39 rfl rfl rfl rfl rfl ?_
        refine o_loadA [(bp ((numS ((f).den)) < 0)), (AV.sl 1 (ns .i64 (digs ((numS ((f).den))).natAbs)))] (Gd.yes rfl rfl (decide_eq_true h3)) Yg_tA39 rfl rfl rfl rfl rfl ?_
        refine o_ct (c_rGcd ((numS ((f).num))) ((numS ((f).den))) (by omega) (by omega)) (Gd.yes rfl rfl (decide_eq_true h3)) Yg_tC79 rfl ?_
        refine o_ct (c_rOf ((1 : Int)) (by first | decide | omega) (by first | decide | omega)) (Gd.yes rfl rfl (decide_eq_true h3)) Yg_tC78 rfl ?_
        refine o_ct (c_rCmp (((Int.gcd (numS ((f).num)) (numS ((f).den)) : Nat) : Int)) ((1 : Int))) (Gd.yes rfl rfl (decide_eq_true h3)) Yg_tC29 rfl ?_
        refine o_eql (a := (cmpZ (((Int.gcd (numS ((f).num)) (numS ((f).den)) : Nat) : Int)) ((1 : Int)))) (c := (((0 : Nat) : Int))) (Gd.yes rfl rfl (decide_eq_true h3)) rfl rfl ?_
        refine o_pickT (bp ((cmpZ (((Int.gcd (numS ((f).num)) (numS ((f).den)) : Nat) : Int)) ((1 : Int))) = (((0 : Nat) : Int)))) Gd.none rfl (decide_eq_true h3) rfl ?_
        refine o_as (bp ((cmpZ (((Int.gcd (numS ((f).num)) (numS ((f).den)) : Nat) : Int)) ((1 : Int))) = (((0 : Nat) : Int)))) rfl ?_
        refine aops_end ?_
        refine hK6 _ ?_
        refine awp_ret ?_
        refine post_ret ⟨[(bp ((cmpZ (((Int.gcd (numS ((f).num)) (numS ((f).den)) : Nat) : Int)) ((1 : Int))) = (((0 : Nat) : Int))))], And.intro (AV.le_refl _) (trivial), rfl, ?_⟩
        exact bpc ⟨fun o => cmp_one.2 o.2.2, fun o => ⟨⟨g1, g2⟩, sgn_pos.1 (by assumption), cmp_one.1 o⟩⟩
      · refine o_skip rfl rfl (decide_eq_false h3) ?_
        refine o_skip rfl rfl (decide_eq_false h3) ?_
        refine o_skip rfl rfl (decide_eq_false h3) ?_
        refine o_skip rfl rfl (decide_eq_false h3) ?_
        refine o_skip rfl rfl (decide_eq_false h3) ?_
        refine o_skip rfl rfl (decide_eq_false h3) ?_
        refine o_pickF (AV.lit (.bool false)) Gd.none rfl (decide_eq_false h3) rfl ?_
        refine o_as (AV.lit (.bool false)) rfl ?_
        refine aops_end ?_
        refine hK6 _ ?_
        refine awp_ret ?_
        refine post_ret ⟨[(AV.lit (.bool false))], And.intro (AV.le_refl _) (trivial), rfl, ?_⟩
        exact bpn (fun o => absurd (sgn_pos.2 o.2.1) (by assumption))

theorem c_vList (l : List Frc) (hl : l.length ≤ 4398046511104) (hS : ∀ f ∈ l, f.num.size ≤ 9223372036854775807 ∧ f.den.size ≤ 9223372036854775807) : ECalls cx 19 [(AV.sl 2 (gcells cF (l)))] (bp (lstP l)) := by
  refine ecalls_of_awp Tryz.func19 (c := _) rfl (Nat.le_of_ble_eq_true rfl) ?_
  show awp cx 29 _ (postF cx Tryz.f19 _) ⟨[(0, (AV.sl 2 (gcells cF (l))))], []⟩
  refine awp_seq fun K0 hK0 => ?_
  refine awp_region rfl ?_
  refine o_as (AV.lit (.bool false)) rfl ?_
  refine aops_end ?_
  refine hK0 _ ?_
  refine awp_seq fun K1 hK1 => ?_
  refine awp_seq fun K2 hK2 => ?_
  refine awp_region rfl ?_
  refine o_as (nm .i64 (0)) rfl ?_
  refine aops_end ?_
  refine hK2 _ ?_
  refine awp_block ?_
  refine awp_loopR (fun κ σ => ∃ (i : Nat), (i ≤ l.length) ∧ (∀ k, k < i → redP (l.getD k default)) ∧ (l.length - i) = κ ∧ σ = ⟨[(0, (AV.sl 2 (gcells cF (l)))), (3, (nm .i64 (i)))], []⟩) ⟨_, _, ⟨0, (by omega), (fun k hk => by omega), rfl, rfl⟩, ?wk0⟩ ?rd0
  case wk0 =>
    exact Wk.sub (And.intro rfl (And.intro (by first | rfl | exact congrArg (nm _) (by omega) | exact nm_int (by omega) | exact nm_int (by simp [IntKind.wrap, IntKind.bits, IntKind.signed]; omega)) (trivial))) (trivial)
  rintro κ _ ⟨i, hi, hb, rfl, rfl⟩
  refine awp_seq fun K3 hK3 => ?_
  refine awp_seq fun K4 hK4 => ?_
  refine awp_region rfl ?_
  refine o_mv (nm .i64 (i)) rfl ?_
  refine o_mv (AV.sl 2 (gcells cF (l))) rfl ?_
  refine g_len cF (l) cF_len Gd.none Yg_tU26 rfl ?_
  refine n_lss (i) ((l).length) Gd.none rfl rfl ?_
  refine aops_end ?_
  refine hK4 _ ?_
  refine awp_condQ (q := (i) < ((l).length)) rfl (fun h1 => ?_) (fun h1 => ?_)
  · refine awp_skip ?_
    refine hK3 _ ?_
    refine awp_seq fun K5 hK5 => ?_
    refine awp_block ?_
    refine awp_seq fun K6 hK6 => ?_
    refine awp_region rfl ?_
    refine o_mv (AV.sl 2 (gcells cF (l))) rfl ?_
    refine o_mv (nm .i64 (i)) rfl ?_
    refine g_index cF (l) (i) cF_len rfl Gd.none Yg_tE26 rfl rfl (by omega) ?_
    refine g_loadA cF (l) (i) default cF_len Gd.none Yg_tA52 rfl (by omega) ?_
    refine o_ct (c_vReduced (((l).getD (i) default)) (by first | assumption | exact (hS _ (gdm (by omega))).1) (by first | assumption | exact (hS _ (gdm (by omega))).2)) Gd.none Yg_tC65 rfl ?_
    refine o_notP (q := redV (((l).getD (i) default))) Gd.none rfl ?_
    refine o_mv (bp (¬ (redV (((l).getD (i) default))))) rfl ?_
    refine o_splitP (q := ¬ (redV (((l).getD (i) default)))) 16 rfl (fun h2 => ?_) (fun h2 => ?_)
    · refine o_skip rfl rfl (decide_eq_true h2) ?_
      refine o_skip rfl rfl (decide_eq_true h2) ?_
      refine o_skip rfl rfl (decide_eq_true h2) ?_
      refine o_skip rfl rfl (decide_eq_true h2) ?_
      refine o_skip rfl rfl (decide_eq_true h2) ?_
      refine o_skip rfl rfl (decide_eq_true h2) ?_
      refine o_skip rfl rfl (decide_eq_true h2) ?_
      refine o_skip rfl rfl (decide_eq_true h2) ?_
      refine o_pickT (AV.lit (.bool true)) Gd.none rfl (decide_eq_true h2) rfl ?_
      refine aops_end ?_
      refine hK6 _ ?_
      refine awp_condB (b := true) rfl (fun _ => ?_) (fun hh => absurd (hh.symm.trans rfl) (by decide))
      refine awp_seq fun K7 hK7 => ?_
      refine awp_region rfl ?_
      refine o_as (AV.lit (.bool false)) rfl ?_
      refine aops_end ?_
      refine hK7 _ ?_
      refine awp_ret ?_
      refine post_ret ⟨[(AV.lit (.bool false))], And.intro (AV.le_refl _) (trivial), rfl, ?_⟩
      exact bpn (fun o => h2 (redV_red.1 (o.2 _ (gdm h1))).1)
    · have hrV := Decidable.not_not.1 h2
      have g1 := hrV.1.1
      refine o_move (AV.sl 2 (gcells cF (l))) (Gd.yes rfl rfl (decide_eq_false h2)) rfl ?_
      refine o_move (nm .i64 (i)) (Gd.yes rfl rfl (decide_eq_false h2)) rfl ?_
      refine g_index cF (l) (i) cF_len rfl (Gd.yes rfl rfl (decide_eq_false h2)) Yg_tE26 rfl rfl (by omega) ?_
      refine g_field cF (l) (i) cF_len (Gd.yes rfl rfl (decide_eq_false h2)) Yg_tF52_0 rfl (by omega) rfl ?_
      refine g_loadS cF (l) (i) default (AV.lit (.string ((((l).getD (i) default)).num))) cF_len (Gd.yes rfl rfl (decide_eq_false h2)) Yg_tS9 rfl (by omega) rfl ?_
      refine o_ct (c_rParse ((((l).getD (i) default)).num) (by first | assumption | exact okS_iff.1 (by assumption))) (Gd.yes rfl rfl (decide_eq_false h2)) Yg_tC22 rfl ?_
      refine o_ct (c_rSign ((numS ((((l).getD (i) default)).num)))) (Gd.yes rfl rfl (decide_eq_false h2)) Yg_tC33 rfl ?_
      refine o_leq (a := (sgn ((numS ((((l).getD (i) default)).num))))) (c := (((0 : Nat) : Int))) (Gd.yes rfl rfl (decide_eq_false h2)) rfl rfl ?_
      refine o_pickF (bp ((sgn ((numS ((((l).getD (i) default)).num)))) ≤ (((0 : Nat) : Int)))) Gd.none rfl (decide_eq_false h2) rfl ?_
      refine aops_end ?_
      refine hK6 _ ?_
      refine awp_condQ (q := (sgn ((numS ((((l).getD (i) default)).num)))) ≤ (((0 : Nat) : Int))) rfl (fun h3 => ?_) (fun h3 => ?_)
      · refine awp_seq fun K8 hK8 => ?_
        refine awp_region rfl ?_
        refine o_as (AV.lit (.bool false)) rfl ?_
        refine aops_end ?_
        refine hK8 _ ?_
        refine awp_ret ?_
        refine post_ret ⟨[(AV.lit (.bool false))], And.intro (AV.le_refl _) (trivial), rfl, ?_⟩
        exact bpn (fun o => absurd (redV_red.1 (o.2 _ (gdm (d := default) h1))).2 (by have := sgn_le.1 h3; omega))
      · refine awp_skip ?_
        refine hK5 _ ?_
        refine awp_region rfl ?_
        refine o_mv (nm .i64 (i)) rfl ?_
        refine n_add (i) (1) Gd.none rfl rfl (by simp only [topOf]; omega) ?_
        refine o_as (nm .i64 ((i) + (1))) rfl ?_
        refine aops_end ?_
        refine ⟨_, _, ?lt, ⟨i + 1, (by omega), (fun k hk => by rcases Nat.lt_or_ge k i with e | e; exact hb k e; rw [show k = i by omega]; exact redV_red.2 ⟨hrV, by have := (not_congr sgn_le).1 h3; omega⟩), rfl, rfl⟩, ?wk⟩
        case lt => omega
        case wk => exact Wk.sub (And.intro rfl (And.intro (by first | rfl | exact congrArg (nm _) (by omega) | exact nm_int (by omega) | exact nm_int (by simp [IntKind.wrap, IntKind.bits, IntKind.signed]; omega)) (trivial))) (trivial)
  · refine awp_exit ?_
    refine hK1 _ ?_
    refine awp_seq fun K9 hK9 => ?_
    refine awp_region rfl ?_
    refine o_mv (AV.sl 2 (gcells cF (l))) rfl ?_
    refine g_len cF (l) cF_len Gd.none Yg_tU26 rfl ?_
    refine n_leq ((l).length) (100) Gd.none rfl rfl ?_
    refine o_as (bp (((l).length) ≤ (100))) rfl ?_
    refine aops_end ?_
    refine hK9 _ ?_
    refine awp_ret ?_
    refine post_ret ⟨[(bp (((l).length) ≤ (100)))], And.intro (AV.le_refl _) (trivial), rfl, ?_⟩
    exact bpc ⟨fun o => o.1, fun o => ⟨o, fun x hx => by obtain ⟨k, hk, rfl⟩ := List.getElem_of_mem hx; have := hb k (by omega); rwa [List.getD_eq_getElem?_getD, List.getElem?_eq_getElem hk] at this⟩⟩

theorem c_formed (l : List Frc) (n : ByteArray) (hS : ∀ f ∈ l, f.num.size ≤ 9223372036854775807 ∧ f.den.size ≤ 9223372036854775807) (hn : n.size ≤ 9223372036854775807) : ECalls cx 21 [(AV.sl 2 (gcells cF (l))), (AV.lit (.string (n)))] (nm .i64 (askE l n)) := by
  refine ecalls_of_awp Tryz.func21 (c := _) rfl (Nat.le_of_ble_eq_true rfl) ?_
  show awp cx 24 _ (postF cx Tryz.f21 _) ⟨[(0, (AV.sl 2 (gcells cF (l)))), (1, (AV.lit (.string (n))))], []⟩
  refine awp_seq fun K0 hK0 => ?_
  refine awp_region rfl ?_
  refine o_as (nm .i64 (0)) rfl ?_
  refine aops_end ?_
  refine hK0 _ ?_
  refine awp_seq fun K1 hK1 => ?_
  refine awp_block ?_
  refine awp_seq fun K2 hK2 => ?_
  refine awp_region rfl ?_
  refine o_mv (AV.sl 2 (gcells cF (l))) rfl ?_
  refine g_len cF (l) cF_len Gd.none Yg_tU26 rfl ?_
  refine n_gtr ((l).length) (100) Gd.none rfl rfl ?_
  refine o_mv (bp ((100) < ((l).length))) rfl ?_
  refine o_splitP (q := (100) < ((l).length)) 9 rfl (fun h1 => ?_) (fun h1 => ?_)
  · refine o_skip rfl rfl (decide_eq_true h1) ?_
    refine o_skip rfl rfl (decide_eq_true h1) ?_
    refine o_skip rfl rfl (decide_eq_true h1) ?_
    refine o_pickT (AV.lit (.bool true)) Gd.none rfl (decide_eq_true h1) rfl ?_
    refine o_mv (AV.lit (.bool true)) rfl ?_
    refine o_skip rfl rfl rfl ?_
    refine o_skip rfl rfl rfl ?_
    refine o_skip rfl rfl rfl ?_
    refine o_pickT (AV.lit (.bool true)) Gd.none rfl rfl rfl ?_
    refine o_as (AV.lit (.bool true)) rfl ?_
    refine aops_end ?_
    refine hK2 _ ?_
    refine awp_condB (b := true) rfl (fun _ => ?_) (fun hh => absurd (hh.symm.trans rfl) (by decide))
    refine awp_seq fun K3 hK3 => ?_
    refine awp_region rfl ?_
    refine o_as (nm .i64 (1)) rfl ?_
    refine aops_end ?_
    refine hK3 _ ?_
    refine awp_ret ?_
    refine post_ret ⟨[(nm .i64 (1))], And.intro (AV.le_refl _) (trivial), rfl, ?_⟩
    first | exact congrArg (nm .i64) (if_neg (fun o => absurd o.1 (by omega))) | exact congrArg (nm .i64) (if_neg (by assumption)) | exact congrArg (nm .i64) ((if_pos (Decidable.not_not.1 h2)).trans (if_neg (by simpa using h3))) | exact congrArg (nm .i64) ((if_pos (Decidable.not_not.1 h2)).trans ((if_pos g1).trans (if_neg (by have := sgn_le.1 h4; omega)))) | exact congrArg (nm .i64) ((if_pos (Decidable.not_not.1 h2)).trans ((if_pos g1).trans (if_pos (by have := (not_congr sgn_le).1 h4; omega))))
  · refine o_move (AV.sl 2 (gcells cF (l))) (Gd.yes rfl rfl (decide_eq_false h1)) rfl ?_
    refine o_ct (c_vList (l) (by first | assumption | omega) (by assumption)) (Gd.yes rfl rfl (decide_eq_false h1)) Yg_tC19 rfl ?_
    refine o_notP (q := lstP (l)) (Gd.yes rfl rfl (decide_eq_false h1)) rfl ?_
    refine o_pickF (bp (¬ (lstP (l)))) Gd.none rfl (decide_eq_false h1) rfl ?_
    refine o_mv (bp (¬ (lstP (l)))) rfl ?_
    refine o_splitP (q := ¬ (lstP (l))) 14 rfl (fun h2 => ?_) (fun h2 => ?_)
    · refine o_skip rfl rfl (decide_eq_true h2) ?_
      refine o_skip rfl rfl (decide_eq_true h2) ?_
      refine o_skip rfl rfl (decide_eq_true h2) ?_
      refine o_pickT (AV.lit (.bool true)) Gd.none rfl (decide_eq_true h2) rfl ?_
      refine o_as (AV.lit (.bool true)) rfl ?_
      refine aops_end ?_
      refine hK2 _ ?_
      refine awp_condB (b := true) rfl (fun _ => ?_) (fun hh => absurd (hh.symm.trans rfl) (by decide))
      refine awp_seq fun K4 hK4 => ?_
      refine awp_region rfl ?_
      refine o_as (nm .i64 (1)) rfl ?_
      refine aops_end ?_
      refine hK4 _ ?_
      refine awp_ret ?_
      refine post_ret ⟨[(nm .i64 (1))], And.intro (AV.le_refl _) (trivial), rfl, ?_⟩
      first | exact congrArg (nm .i64) (if_neg (fun o => absurd o.1 (by omega))) | exact congrArg (nm .i64) (if_neg (by assumption)) | exact congrArg (nm .i64) ((if_pos (Decidable.not_not.1 h2)).trans (if_neg (by simpa using h3))) | exact congrArg (nm .i64) ((if_pos (Decidable.not_not.1 h2)).trans ((if_pos g1).trans (if_neg (by have := sgn_le.1 h4; omega)))) | exact congrArg (nm .i64) ((if_pos (Decidable.not_not.1 h2)).trans ((if_pos g1).trans (if_pos (by have := (not_congr sgn_le).1 h4; omega))))
    · refine o_move (AV.lit (.string (n))) (Gd.yes rfl rfl (decide_eq_false h2)) rfl ?_
      refine o_ct (c_rValid (n) (by first | assumption | decide | omega)) (Gd.yes rfl rfl (decide_eq_false h2)) Yg_tC28 rfl ?_
      refine o_not (b := okS (n)) (Gd.yes rfl rfl (decide_eq_false h2)) rfl ?_
      refine o_pickF (AV.lit (.bool (!(okS (n))))) Gd.none rfl (decide_eq_false h2) rfl ?_
      refine o_as (AV.lit (.bool (!(okS (n))))) rfl ?_
      refine aops_end ?_
      refine hK2 _ ?_
      refine awp_condB (b := !(okS (n))) rfl (fun h3 => ?_) (fun h3 => ?_)
      · refine awp_seq fun K5 hK5 => ?_
        refine awp_region rfl ?_
        refine o_as (nm .i64 (1)) rfl ?_
        refine aops_end ?_
        refine hK5 _ ?_
        refine awp_ret ?_
        refine post_ret ⟨[(nm .i64 (1))], And.intro (AV.le_refl _) (trivial), rfl, ?_⟩
        first | exact congrArg (nm .i64) (if_neg (fun o => absurd o.1 (by omega))) | exact congrArg (nm .i64) (if_neg (by assumption)) | exact congrArg (nm .i64) ((if_pos (Decidable.not_not.1 h2)).trans (if_neg (by simpa using h3))) | exact congrArg (nm .i64) ((if_pos (Decidable.not_not.1 h2)).trans ((if_pos g1).trans (if_neg (by have := sgn_le.1 h4; omega)))) | exact congrArg (nm .i64) ((if_pos (Decidable.not_not.1 h2)).trans ((if_pos g1).trans (if_pos (by have := (not_congr sgn_le).1 h4; omega))))
      · have g1 : okS n = true := by simpa using h3
        refine awp_seq fun K6 hK6 => ?_
        refine awp_region rfl ?_
        refine o_mv (AV.lit (.string (n))) rfl ?_
        refine o_ct (c_rParse (n) (by first | assumption | exact okS_iff.1 (by assumption))) Gd.none Yg_tC22 rfl ?_
        refine o_ct (c_rSign ((numS (n)))) Gd.none Yg_tC33 rfl ?_
        refine o_leq (a := (sgn ((numS (n))))) (c := (((0 : Nat) : Int))) Gd.none rfl rfl ?_
        refine o_as (bp ((sgn ((numS (n)))) ≤ (((0 : Nat) : Int)))) rfl ?_
        refine aops_end ?_
        refine hK6 _ ?_
        refine awp_condQ (q := (sgn ((numS (n)))) ≤ (((0 : Nat) : Int))) rfl (fun h4 => ?_) (fun h4 => ?_)
        · refine awp_seq fun K7 hK7 => ?_
          refine awp_region rfl ?_
          refine o_as (nm .i64 (2)) rfl ?_
          refine aops_end ?_
          refine hK7 _ ?_
          refine awp_ret ?_
          refine post_ret ⟨[(nm .i64 (2))], And.intro (AV.le_refl _) (trivial), rfl, ?_⟩
          first | exact congrArg (nm .i64) (if_neg (fun o => absurd o.1 (by omega))) | exact congrArg (nm .i64) (if_neg (by assumption)) | exact congrArg (nm .i64) ((if_pos (Decidable.not_not.1 h2)).trans (if_neg (by simpa using h3))) | exact congrArg (nm .i64) ((if_pos (Decidable.not_not.1 h2)).trans ((if_pos g1).trans (if_neg (by have := sgn_le.1 h4; omega)))) | exact congrArg (nm .i64) ((if_pos (Decidable.not_not.1 h2)).trans ((if_pos g1).trans (if_pos (by have := (not_congr sgn_le).1 h4; omega))))
        · refine awp_skip ?_
          refine hK1 _ ?_
          refine awp_seq fun K8 hK8 => ?_
          refine awp_region rfl ?_
          refine o_as (nm .i64 (0)) rfl ?_
          refine aops_end ?_
          refine hK8 _ ?_
          refine awp_ret ?_
          refine post_ret ⟨[(nm .i64 (0))], And.intro (AV.le_refl _) (trivial), rfl, ?_⟩
          first | exact congrArg (nm .i64) (if_neg (fun o => absurd o.1 (by omega))) | exact congrArg (nm .i64) (if_neg (by assumption)) | exact congrArg (nm .i64) ((if_pos (Decidable.not_not.1 h2)).trans (if_neg (by simpa using h3))) | exact congrArg (nm .i64) ((if_pos (Decidable.not_not.1 h2)).trans ((if_pos g1).trans (if_neg (by have := sgn_le.1 h4; omega)))) | exact congrArg (nm .i64) ((if_pos (Decidable.not_not.1 h2)).trans ((if_pos g1).trans (if_pos (by have := (not_congr sgn_le).1 h4; omega))))

end Go.Proofs.YtnejjdcbbminaaaGreatDoor

set_option linter.unusedVariables false
set_option linter.unusedSimpArgs false
namespace Go.Proofs.YtnejjdcbbminaaaGreatDoor
open Go Go.Ab Go.Mth
end Go.Proofs.YtnejjdcbbminaaaGreatDoor

set_option linter.unusedVariables false
set_option linter.unusedSimpArgs false
namespace Go.Mth
open Go Go.Ab
def shf (m : Nat) (r : ByteArray × Nat × Nat) : ByteArray × Nat × Nat := if r.2.2 = 0 then (r.1, m + r.2.1, 0) else ({ data := #[] }, 0, 3)
section
variable {l : List Frc} {n : ByteArray} {k j : Int} (h : askE l n = 0) (hk : 0 ≤ k ∧ k ≤ 100) (hj : 0 ≤ j ∧ j ≤ 100)
include h hk hj
end
theorem comR_dvd : ∀ (l : List Frc) (o : Int), 0 < o → (∀ f ∈ l, 0 < numS f.den) → Fit (comR l o) → o ∣ comR l o ∧ (∀ f ∈ l, numS f.den ∣ comR l o) ∧ 0 < comR l o
  | [], o, ho, _, _ => ⟨Int.dvd_refl _, fun f hf => by simp at hf, ho⟩
  | f :: r, o, ho, hd, hF => by
    unfold comR at hF ⊢
    by_cases h : Fit o
    · rw [if_pos h] at hF ⊢
      have hf := hd f (by simp)
      obtain ⟨a, b, c⟩ := comR_dvd r (cmX o (numS f.den)) (cmX_pos ho hf) (fun g hg => hd g (by simp [hg])) hF
      have d1 : numS f.den ∣ cmX o (numS f.den) := Int.dvd_mul_left _ _
      have d2 : o ∣ cmX o (numS f.den) := by rw [← cmX_eq ho hf]; exact Int.dvd_mul_right _ _
      refine ⟨Int.dvd_trans d2 a, fun g hg => ?_, c⟩
      rcases List.mem_cons.1 hg with rfl | hg
      · exact Int.dvd_trans d1 a
      · exact b g hg
    · rw [if_neg h] at hF; exact absurd hF h
theorem fstI_lt {l : List Frc} {z : Int} {k : Nat} (h : 0 ≤ fstI l z) (hk : k < (fstI l z).toNat) : ¬ hitP z (l.getD k default) := by
  have hx : ∃ x ∈ l, hitP z x := fstI_nn.2 h
  have e : fstI l z = (l.findIdx (fun x => decide (hitP z x)) : Int) := if_pos hx
  have hb := (fstI_bd h).1
  rw [e, Int.toNat_natCast] at hk hb
  have := List.not_of_lt_findIdx hk
  rw [List.getD_eq_getElem?_getD, List.getElem?_eq_getElem (by omega)]
  simpa using this
theorem fstI_congr {l : List Frc} {z w : Int} (h : ∀ f ∈ l, (hitP z f ↔ hitP w f)) : fstI l z = fstI l w := by
  by_cases hz : 0 ≤ fstI l z
  · obtain ⟨a, b⟩ := fstI_bd hz
    have := (fst_hit (l := l) (z := w) a ((h _ (gdm a)).1 b) (fun k hk e => fstI_lt hz hk ((h _ (gdm (by omega))).2 e))).1
    rw [this]; omega
  · have hw : ¬ 0 ≤ fstI l w := fun e => hz (fstI_nn.1 (by obtain ⟨f, hf, hp⟩ := fstI_nn.2 e; exact ⟨f, hf, (h f hf).2 hp⟩))
    have e1 : fstI l z = -1 := if_neg (fun e => hz (fstI_nn.1 e))
    have e2 : fstI l w = -1 := if_neg (fun e => hw (fstI_nn.1 e))
    rw [e1, e2]
theorem comA_yes {l : List Frc} (hl : lstP l) (h : (comA l).2 = 0) : (comA l).1 = txt (comR l 1) ∧ Fit (comR l 1) ∧ 0 < comR l 1 ∧ ∀ f ∈ l, numS f.den ∣ comR l 1 := by
  have e := comA_R hl
  have hF : Fit (comR l 1) := Decidable.not_not.1 fun hn => by rw [e, if_neg hn] at h; cases h
  obtain ⟨_, b, c⟩ := comR_dvd l 1 (by decide) (fun f hf => (hl.2 f hf).2.1.2) hF
  exact ⟨by rw [e, if_pos hF], hF, c, b⟩
theorem comA_no {l : List Frc} (hl : lstP l) (h : (comA l).2 ≠ 0) : (comA l).2 = 3 := by
  have e := comA_R hl
  by_cases hF : Fit (comR l 1)
  · rw [e, if_pos hF] at h; exact absurd rfl h
  · rw [e, if_neg hF]
theorem rests {l : List Frc} {z c b : Int} (h : ∀ f ∈ l, numS f.den ∣ c) : fstI l (z + c * b) = fstI l z :=
  fstI_congr fun f hf => by
    unfold hitP
    obtain ⟨q, hq⟩ := h f hf
    rw [hq, Int.mul_assoc, Int.add_mul_emod_self_left]
theorem fir_same {l : List Frc} {n x : ByteArray} (h1 : askE l n = 0) (h2 : askE l x = 0) (h : fstI l (numS x) = fstI l (numS n)) : firI l n = firI l x ∧ firE l n = firE l x ∧ (firE l n = 0 ∨ firE l n = 4) := by
  unfold firI firE
  rw [h1, h2, h]
  refine ⟨rfl, rfl, ?_⟩
  rw [if_pos rfl]
  split
  · exact .inl rfl
  · exact .inr rfl
end Go.Mth

