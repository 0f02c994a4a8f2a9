/- What the proof of a row of this seat leans on (part 5 of 6): a library of abstract values, walks of functions, and plain laws. -/
import Derived.Test.YtpamhblonmpniaaGreatDoorPkTopMachined
set_option linter.unusedVariables false
set_option linter.unusedSimpArgs false
namespace Go.Proofs.YtpamhblonmpniaaGreatDoor
open Go Go.Ab Go.Mth
theorem Yb_tO61 : tyZero cx.P 61 = some [(Go.Value.int IntKind.i64 0), (Go.Value.int IntKind.i64 0), (Go.Value.int IntKind.i64 0), (Go.Value.int IntKind.i64 0), (Go.Value.int IntKind.i64 0), (Go.Value.int IntKind.i64 0), (Go.Value.int IntKind.i64 0), (Go.Value.int IntKind.i64 0), (Go.Value.int IntKind.i64 0), (Go.Value.int IntKind.i64 0), (Go.Value.int IntKind.i64 0), (Go.Value.int IntKind.i64 0), (Go.Value.int IntKind.i64 0), (Go.Value.int IntKind.i64 0), (Go.Value.int IntKind.i64 0), (Go.Value.int IntKind.i64 0), (Go.Value.int IntKind.i64 0), (Go.Value.int IntKind.i64 0), (Go.Value.int IntKind.i64 0), (Go.Value.int IntKind.i64 0), (Go.Value.int IntKind.i64 0), (Go.Value.int IntKind.i64 0), (Go.Value.int IntKind.i64 0), (Go.Value.int IntKind.i64 0), (Go.Value.int IntKind.i64 0), (Go.Value.int IntKind.i64 0), (Go.Value.int IntKind.i64 0), (Go.Value.int IntKind.i64 0), (Go.Value.int IntKind.i64 0), (Go.Value.int IntKind.i64 0)] := by kernel_rfl
theorem Yb_tO3 : tyZero cx.P 3 = some [(Go.Value.int IntKind.i64 0)] := by kernel_rfl
theorem Yb_tZ3 : tySize cx.P 3 = some 1 := by kernel_rfl
theorem Yb_tS3 : tySc cx.P 3 = true := by kernel_rfl
theorem Yb_tR61 : tyArr cx.P 61 = some (30, 3, 1) := by kernel_rfl
theorem Yb_tC45 : callable cx.P 45 = true := by kernel_rfl
theorem Yb_tA61 : tyAgg cx.P 61 = some 30 := by kernel_rfl
theorem Yb_tZ61 : tySize cx.P 61 = some 30 := by kernel_rfl
theorem Yb_tC22 : callable cx.P 22 = true := by kernel_rfl
theorem Yb_tF24_0 : tyField cx.P 24 0 = some (0, 3) := by kernel_rfl
theorem Yb_tO59 : tyZero cx.P 59 = some [(Go.Value.string {data := #[]}), (Go.Value.string {data := #[]})] := by kernel_rfl
theorem Yb_tC27 : callable cx.P 27 = true := by kernel_rfl
theorem Yb_tP59 : tyPlaces cx.P 59 = some (fun i => (#[(0, 1), (1, 1)] : Array (Nat × Nat))[i]?) := by kernel_rfl
theorem Yb_tZ59 : tySize cx.P 59 = some 2 := by kernel_rfl
theorem Yb_tA59 : tyAgg cx.P 59 = some 2 := by kernel_rfl
theorem c_primes  : ECalls cx 22 [] (AV.agg (ns .i64 P30)) := by
  refine ecalls_of_awp Tryz.func22 (c := _) rfl (Nat.le_of_ble_eq_true rfl) ?_
  show awp cx 20 _ (postF cx Tryz.f22 _) ⟨[], []⟩
  refine awp_seq fun K0 hK0 => ?_
  refine awp_region rfl ?_
  refine o_alloc 2 [(nm .i64 (0)), (nm .i64 (0)), (nm .i64 (0)), (nm .i64 (0)), (nm .i64 (0)), (nm .i64 (0)), (nm .i64 (0)), (nm .i64 (0)), (nm .i64 (0)), (nm .i64 (0)), (nm .i64 (0)), (nm .i64 (0)), (nm .i64 (0)), (nm .i64 (0)), (nm .i64 (0)), (nm .i64 (0)), (nm .i64 (0)), (nm .i64 (0)), (nm .i64 (0)), (nm .i64 (0)), (nm .i64 (0)), (nm .i64 (0)), (nm .i64 (0)), (nm .i64 (0)), (nm .i64 (0)), (nm .i64 (0)), (nm .i64 (0)), (nm .i64 (0)), (nm .i64 (0)), (nm .i64 (0))] Gd.none Yb_tO61 rfl rfl rfl ?_
  refine aops_end ?_
  refine hK0 _ ?_
  refine awp_seq fun K1 hK1 => ?_
  refine awp_region rfl ?_
  refine o_alloc 3 [(nm .i64 (0)), (nm .i64 (0)), (nm .i64 (0)), (nm .i64 (0)), (nm .i64 (0)), (nm .i64 (0)), (nm .i64 (0)), (nm .i64 (0)), (nm .i64 (0)), (nm .i64 (0)), (nm .i64 (0)), (nm .i64 (0)), (nm .i64 (0)), (nm .i64 (0)), (nm .i64 (0)), (nm .i64 (0)), (nm .i64 (0)), (nm .i64 (0)), (nm .i64 (0)), (nm .i64 (0)), (nm .i64 (0)), (nm .i64 (0)), (nm .i64 (0)), (nm .i64 (0)), (nm .i64 (0)), (nm .i64 (0)), (nm .i64 (0)), (nm .i64 (0)), (nm .i64 (0)), (nm .i64 (0))] Gd.none Yb_tO61 rfl rfl rfl ?_
  refine aops_end ?_
  refine hK1 _ ?_
  refine awp_seq fun K2 hK2 => ?_
  refine awp_region rfl ?_
  refine o_alloc 4 [(nm .i64 (0))] Gd.none Yb_tO3 rfl rfl rfl ?_
  refine o_store [(4, (AO.var 3 [(nm .i64 (1))])), (3, (AO.var 61 [(nm .i64 (0)), (nm .i64 (0)), (nm .i64 (0)), (nm .i64 (0)), (nm .i64 (0)), (nm .i64 (0)), (nm .i64 (0)), (nm .i64 (0)), (nm .i64 (0)), (nm .i64 (0)), (nm .i64 (0)), (nm .i64 (0)), (nm .i64 (0)), (nm .i64 (0)), (nm .i64 (0)), (nm .i64 (0)), (nm .i64 (0)), (nm .i64 (0)), (nm .i64 (0)), (nm .i64 (0)), (nm .i64 (0)), (nm .i64 (0)), (nm .i64 (0)), (nm .i64 (0)), (nm .i64 (0)), (nm .i64 (0)), (nm .i64 (0)), (nm .i64 (0)), (nm .i64 (0)), (nm .i64 (0))])), (2, (AO.var 61 [(nm .i64 (0)), (nm .i64 (0)), (nm .i64 (0)), (nm .i64 (0)), (nm .i64 (0)), (nm .i64 (0)), (nm .i64 (0)), (nm .i64 (0)), (nm .i64 (0)), (nm .i64 (0)), (nm .i64 (0)), (nm .i64 (0)), (nm .i64 (0)), (nm .i64 (0)), (nm .i64 (0)), (nm .i64 (0)), (nm .i64 (0)), (nm .i64 (0)), (nm .i64 (0)), (nm .i64 (0)), (nm .i64 (0)), (nm .i64 (0)), (nm .i64 (0)), (nm .i64 (0)), (nm .i64 (0)), (nm .i64 (0)), (nm .i64 (0)), (nm .i64 (0)), (nm .i64 (0)), (nm .i64 (0))]))] Gd.none Yb_tZ3 rfl rfl rfl rfl rfl rfl ?_
  refine aops_end ?_
  refine hK2 _ ?_
  refine awp_seq fun K3 hK3 => ?_
  refine awp_seq fun K4 hK4 => ?_
  refine awp_region rfl ?_
  refine o_mv (nm .i64 (0)) rfl ?_
  refine aops_end ?_
  refine hK4 _ ?_
  refine awp_block ?_
  refine awp_loopR (fun κ σ => ∃ (i : Nat), (i ≤ 30) ∧ (30 - i) = κ ∧ σ = ⟨[(0, (AV.ref 2 (0))), (1, (AV.ref 3 (0))), (2, (AV.ref 4 (0))), (4, (nm .i64 (i)))], [(2, (AO.var 61 [(nm .i64 (0)), (nm .i64 (0)), (nm .i64 (0)), (nm .i64 (0)), (nm .i64 (0)), (nm .i64 (0)), (nm .i64 (0)), (nm .i64 (0)), (nm .i64 (0)), (nm .i64 (0)), (nm .i64 (0)), (nm .i64 (0)), (nm .i64 (0)), (nm .i64 (0)), (nm .i64 (0)), (nm .i64 (0)), (nm .i64 (0)), (nm .i64 (0)), (nm .i64 (0)), (nm .i64 (0)), (nm .i64 (0)), (nm .i64 (0)), (nm .i64 (0)), (nm .i64 (0)), (nm .i64 (0)), (nm .i64 (0)), (nm .i64 (0)), (nm .i64 (0)), (nm .i64 (0)), (nm .i64 (0))])), (3, (AO.var 61 (ns .i64 (arr i)))), (4, (AO.var 3 [(nm .i64 (prv i))]))]⟩) ⟨_, _, ⟨0, (by omega), rfl, rfl⟩, ?wk0⟩ ?rd0
  case wk0 =>
    exact Wk.sub (And.intro rfl (And.intro rfl (And.intro rfl (And.intro (by first | rfl | exact congrArg (nm _) (by omega) | exact nm_int (by omega) | exact nm_int (by simp [IntKind.wrap, IntKind.bits, IntKind.signed]; omega)) (trivial))))) (And.intro (by first | rfl | (first | (show some (AO.var _ (ns .i64 ((arr i).set i n))) = some (AO.var _ (ns .i64 (arr (i + 1)))); rw [hnE, arr_set i (by omega)]) | (rw [hnE]; rfl))) (And.intro (by first | rfl | (first | (show some (AO.var _ (ns .i64 ((arr i).set i n))) = some (AO.var _ (ns .i64 (arr (i + 1)))); rw [hnE, arr_set i (by omega)]) | (rw [hnE]; rfl))) (And.intro (by first | rfl | (first | (show some (AO.var _ (ns .i64 ((arr i).set i n))) = some (AO.var _ (ns .i64 (arr (i + 1)))); rw [hnE, arr_set i (by omega)]) | (rw [hnE]; rfl))) (trivial))))
  rintro κ _ ⟨i, hi, rfl, rfl⟩
  refine awp_seq fun K5 hK5 => ?_
  refine awp_region rfl ?_
  refine n_lss (i) (30) Gd.none rfl rfl ?_
  refine aops_end ?_
  refine hK5 _ ?_
  refine awp_seq fun K6 hK6 => ?_
  refine awp_condQ (q := (i) < (30)) rfl (fun h1 => ?_) (fun h1 => ?_)
  · have hu := p30_up i h1
    have hal2 := arr_len hi
    refine awp_skip ?_
    refine hK6 _ ?_
    refine awp_seq fun K7 hK7 => ?_
    refine awp_block ?_
    refine awp_seq fun K8 hK8 => ?_
    refine awp_region rfl ?_
    refine o_mv (nm .i64 (i)) rfl ?_
    refine o_as (nm .i64 (i)) rfl ?_
    refine aops_end ?_
    refine hK8 _ ?_
    refine awp_seq fun K9 hK9 => ?_
    refine awp_seq fun K10 hK10 => ?_
    refine awp_region rfl ?_
    refine o_loadS (nm .i64 (prv i)) Gd.none Yb_tS3 rfl rfl rfl ?_
    refine n_add (prv i) (1) Gd.none rfl rfl (by simp only [topOf]; omega) ?_
    refine o_store [(2, (AO.var 61 [(nm .i64 (0)), (nm .i64 (0)), (nm .i64 (0)), (nm .i64 (0)), (nm .i64 (0)), (nm .i64 (0)), (nm .i64 (0)), (nm .i64 (0)), (nm .i64 (0)), (nm .i64 (0)), (nm .i64 (0)), (nm .i64 (0)), (nm .i64 (0)), (nm .i64 (0)), (nm .i64 (0)), (nm .i64 (0)), (nm .i64 (0)), (nm .i64 (0)), (nm .i64 (0)), (nm .i64 (0)), (nm .i64 (0)), (nm .i64 (0)), (nm .i64 (0)), (nm .i64 (0)), (nm .i64 (0)), (nm .i64 (0)), (nm .i64 (0)), (nm .i64 (0)), (nm .i64 (0)), (nm .i64 (0))])), (3, (AO.var 61 (ns .i64 (arr i)))), (4, (AO.var 3 [(nm .i64 ((prv i) + (1)))]))] Gd.none Yb_tZ3 rfl rfl rfl rfl rfl rfl ?_
    refine aops_end ?_
    refine hK10 _ ?_
    refine awp_block ?_
    refine awp_loopR (fun κ σ => ∃ (n : Nat), (prv i < n) ∧ (n ≤ P30.getD i 0) ∧ (114 - n) = κ ∧ σ = ⟨[(0, (AV.ref 2 (0))), (1, (AV.ref 3 (0))), (2, (AV.ref 4 (0))), (3, (nm .i64 (i))), (4, (nm .i64 (i)))], [(2, (AO.var 61 [(nm .i64 (0)), (nm .i64 (0)), (nm .i64 (0)), (nm .i64 (0)), (nm .i64 (0)), (nm .i64 (0)), (nm .i64 (0)), (nm .i64 (0)), (nm .i64 (0)), (nm .i64 (0)), (nm .i64 (0)), (nm .i64 (0)), (nm .i64 (0)), (nm .i64 (0)), (nm .i64 (0)), (nm .i64 (0)), (nm .i64 (0)), (nm .i64 (0)), (nm .i64 (0)), (nm .i64 (0)), (nm .i64 (0)), (nm .i64 (0)), (nm .i64 (0)), (nm .i64 (0)), (nm .i64 (0)), (nm .i64 (0)), (nm .i64 (0)), (nm .i64 (0)), (nm .i64 (0)), (nm .i64 (0))])), (3, (AO.var 61 (ns .i64 (arr i)))), (4, (AO.var 3 [(nm .i64 (n))]))]⟩) ⟨_, _, ⟨prv i + 1, (by omega), (by omega), rfl, rfl⟩, ?wk1⟩ ?rd1
    case wk1 =>
      exact Wk.sub (And.intro rfl (And.intro rfl (And.intro rfl (And.intro rfl (And.intro rfl (trivial)))))) (And.intro rfl (And.intro rfl (And.intro (by first | rfl | (first | (show some (AO.var _ (ns .i64 ((arr i).set i n))) = some (AO.var _ (ns .i64 (arr (i + 1)))); rw [hnE, arr_set i (by omega)]) | (rw [hnE]; rfl))) (trivial))))
    rintro κ _ ⟨n, hn1, hn2, rfl, rfl⟩
    have hal : ((arr i).take i).length ≤ 30 := by rw [arr_take hi, List.length_take]; omega
    have hap : ∀ p ∈ (arr i).take i, 0 < p := by rw [arr_take hi]; exact fun p hp => p30_pos p (List.mem_of_mem_take hp)
    refine awp_seq fun K11 hK11 => ?_
    refine awp_seq fun K12 hK12 => ?_
    refine awp_region rfl ?_
    refine o_mv (nm .i64 (i)) rfl ?_
    refine n_sliceArr (0) (i) (0) (i) Gd.none Yb_tR61 rfl rfl rfl rfl (hi_nm rfl) (by omega) (by omega) (by first | rfl | simp) (by first | rfl | omega) ?_
    refine o_makeFunc [(AV.ref 4 (0))] Gd.none rfl ?_
    refine o_callV [(3, (AO.var 61 (ns .i64 (arr i)))), (4, (AO.var 3 [(nm .i64 (n))]))] [(AV.sl 1 (ns .i64 ((arr i).take (i)))), (AV.clo 46 [(AV.ip [(nm .i64 (n))])])] (.bool (decide (∃ x ∈ ((arr i).take (i)), (fun (p : Nat) => (n) % p = 0) x))) Gd.none Yb_tC45 rfl (And.intro rfl (And.intro (closedL_ns _ _) (And.intro rfl (And.intro rfl (trivial))))) rfl (by show [AV.frzV 4 _ (AV.frzV 3 _ (AV.vw 3 0 1 i)), _] = _; rw [frzV_vw (by omega)]; rfl) (c_hasPrm (n) ((arr i).take (i)) (by first | omega | assumption) (by assumption)) ?_
    refine aops_end ?_
    refine hK12 _ ?_
    refine awp_condQ (q := ∃ x ∈ ((arr i).take (i)), (fun (p : Nat) => (n) % p = 0) x) rfl (fun h2 => ?_) (fun h2 => ?_)
    · refine awp_skip ?_
      refine hK11 _ ?_
      refine awp_seq fun K13 hK13 => ?_
      refine awp_block ?_
      refine awp_skip ?_
      refine hK13 _ ?_
      refine awp_region rfl ?_
      refine o_loadS (nm .i64 (n)) Gd.none Yb_tS3 rfl rfl rfl ?_
      refine n_add (n) (1) Gd.none rfl rfl (by simp only [topOf]; omega) ?_
      refine o_store [(2, (AO.var 61 [(nm .i64 (0)), (nm .i64 (0)), (nm .i64 (0)), (nm .i64 (0)), (nm .i64 (0)), (nm .i64 (0)), (nm .i64 (0)), (nm .i64 (0)), (nm .i64 (0)), (nm .i64 (0)), (nm .i64 (0)), (nm .i64 (0)), (nm .i64 (0)), (nm .i64 (0)), (nm .i64 (0)), (nm .i64 (0)), (nm .i64 (0)), (nm .i64 (0)), (nm .i64 (0)), (nm .i64 (0)), (nm .i64 (0)), (nm .i64 (0)), (nm .i64 (0)), (nm .i64 (0)), (nm .i64 (0)), (nm .i64 (0)), (nm .i64 (0)), (nm .i64 (0)), (nm .i64 (0)), (nm .i64 (0))])), (3, (AO.var 61 (ns .i64 (arr i)))), (4, (AO.var 3 [(nm .i64 ((n) + (1)))]))] Gd.none Yb_tZ3 rfl rfl rfl rfl rfl rfl ?_
      refine aops_end ?_
      refine ⟨_, _, ?lt, ⟨n + 1, (by omega), (by have hne : n ≠ P30.getD i 0 := fun e => p30_miss i h1 (by rw [← arr_take hi, ← e]; exact h2); omega), rfl, rfl⟩, ?wk⟩
      case lt => omega
      case wk => exact Wk.sub (And.intro rfl (And.intro rfl (And.intro rfl (And.intro rfl (And.intro rfl (trivial)))))) (And.intro rfl (And.intro rfl (And.intro (by first | rfl | (first | (show some (AO.var _ (ns .i64 ((arr i).set i n))) = some (AO.var _ (ns .i64 (arr (i + 1)))); rw [hnE, arr_set i (by omega)]) | (rw [hnE]; rfl))) (trivial))))
    · have hnE : n = P30.getD i 0 := Nat.le_antisymm hn2 (Nat.not_lt.1 fun e => h2 (by rw [arr_take hi]; exact p30_hit i h1 n (by omega) hn1 e))
      refine awp_exit ?_
      refine hK9 _ ?_
      refine awp_region rfl ?_
      refine o_mv (nm .i64 (i)) rfl ?_
      refine o_loadS (nm .i64 (n)) Gd.none Yb_tS3 rfl rfl rfl ?_
      refine n_indexArr (i) (i) Gd.none Yb_tR61 rfl rfl (by omega) (by first | rfl | simp) ?_
      refine n_storeArr (arr i) (i) (n) [(2, (AO.var 61 [(nm .i64 (0)), (nm .i64 (0)), (nm .i64 (0)), (nm .i64 (0)), (nm .i64 (0)), (nm .i64 (0)), (nm .i64 (0)), (nm .i64 (0)), (nm .i64 (0)), (nm .i64 (0)), (nm .i64 (0)), (nm .i64 (0)), (nm .i64 (0)), (nm .i64 (0)), (nm .i64 (0)), (nm .i64 (0)), (nm .i64 (0)), (nm .i64 (0)), (nm .i64 (0)), (nm .i64 (0)), (nm .i64 (0)), (nm .i64 (0)), (nm .i64 (0)), (nm .i64 (0)), (nm .i64 (0)), (nm .i64 (0)), (nm .i64 (0)), (nm .i64 (0)), (nm .i64 (0)), (nm .i64 (0))])), (3, (AO.var 61 (ns .i64 ((arr i).set (i) (n))))), (4, (AO.var 3 [(nm .i64 (n))]))] Gd.none Yb_tZ3 rfl rfl rfl (by omega) rfl ?_
      refine aops_end ?_
      refine hK7 _ ?_
      refine awp_region rfl ?_
      refine n_add (i) (1) Gd.none rfl rfl (by simp only [topOf]; omega) ?_
      refine o_mv (nm .i64 ((i) + (1))) rfl ?_
      refine aops_end ?_
      refine ⟨_, _, ?lt, ⟨i + 1, (by omega), rfl, rfl⟩, ?wk⟩
      case lt => omega
      case wk => exact Wk.sub (And.intro rfl (And.intro rfl (And.intro rfl (And.intro (by first | rfl | exact congrArg (nm _) (by omega) | exact nm_int (by omega) | exact nm_int (by simp [IntKind.wrap, IntKind.bits, IntKind.signed]; omega)) (trivial))))) (And.intro rfl (And.intro (by first | rfl | (first | (show some (AO.var _ (ns .i64 ((arr i).set i n))) = some (AO.var _ (ns .i64 (arr (i + 1)))); rw [hnE, arr_set i (by omega)]) | (rw [hnE]; rfl))) (And.intro (by first | rfl | (first | (show some (AO.var _ (ns .i64 ((arr i).set i n))) = some (AO.var _ (ns .i64 (arr (i + 1)))); rw [hnE, arr_set i (by omega)]) | (rw [hnE]; rfl))) (trivial))))
  · have hal2 := arr_len hi
    refine awp_exit ?_
    refine hK3 _ ?_
    refine awp_seq fun K14 hK14 => ?_
    refine awp_region rfl ?_
    refine n_loadArrA (arr i) Gd.none Yb_tA61 rfl rfl (by exact hal2) ?_
    refine n_as (v' := (AV.agg (ns .i64 (P30)))) (by rw [show i = 30 by omega]; rfl) ?_
    refine n_storeArrA (P30) [(2, (AO.var 61 (ns .i64 (P30)))), (3, (AO.var 61 (ns .i64 (arr i)))), (4, (AO.var 3 [(nm .i64 (prv i))]))] Gd.none Yb_tZ61 rfl rfl rfl (by rfl) rfl rfl ?_
    refine aops_end ?_
    refine hK14 _ ?_
    refine awp_ret ?_
    refine post_ret ⟨[(AV.agg (ns .i64 (P30)))], And.intro ⟨2, (AO.var 61 (ns .i64 (P30))), rfl, rfl, rfl, Or.inl ⟨Yb_tA61, AV.le_refl _⟩⟩ (trivial), rfl, ?_⟩
    rfl

theorem c_own (m : Mac) (z : Int) (h0 : 0 ≤ m.regs + 2 * z) (h1 : m.regs + 2 * z < 30) (h2 : 0 ≤ m.regs) (h3 : m.regs ≤ 4) : ECalls cx 25 [(macV m), (AV.lit (.int .i64 (z)))] (nm .i64 (ownP m z)) := by
  refine ecalls_of_awp Tryz.func25 (c := _) rfl (Nat.le_of_ble_eq_true rfl) ?_
  show awp cx 12 _ (postF cx Tryz.f25 _) ⟨[(0, (macV m)), (1, (AV.lit (.int .i64 (z))))], []⟩
  refine awp_seq fun K0 hK0 => ?_
  refine awp_region rfl ?_
  refine o_box 2 [(AV.lit (.int .i64 (m.regs))), (AV.sl 4 (gcells cI (m.code)))] Gd.none rfl rfl ?_
  refine o_as (nm .i64 (0)) rfl ?_
  refine aops_end ?_
  refine hK0 _ ?_
  refine awp_seq fun K1 hK1 => ?_
  refine awp_regionD rfl ?_
  refine o_ct c_primes Gd.none Yb_tC22 rfl ?_
  refine o_fieldRef 0 Gd.none Yb_tF24_0 rfl rfl ?_
  refine o_loadS (AV.lit (.int .i64 (m.regs))) Gd.none Yb_tS3 rfl rfl rfl ?_
  refine o_mv (AV.lit (.int .i64 (z))) rfl ?_
  refine o_mul (a := (((2 : Nat) : Int))) (c := (z)) Gd.none rfl rfl (by exact wrap64 (by omega) (by omega)) ?_
  refine o_add (a := (m.regs)) (c := ((((2 : Nat) : Int)) * (z))) Gd.none rfl rfl (by exact wrap64 (by omega) (by omega)) ?_
  refine n_as (v' := (nm .i64 ((m.regs + 2 * z).toNat))) (nm_int (by omega)) ?_
  refine n_indexAgg (P30) ((m.regs + 2 * z).toNat) Gd.none Yb_tR61 Yb_tS3 rfl rfl (by rfl) (by omega) ?_
  refine o_as (nm .i64 ((P30).getD ((m.regs + 2 * z).toNat) 0)) rfl ?_
  refine aops_end ⟨by kernel_rfl, ?_⟩
  refine hK1 _ ?_
  refine awp_ret ?_
  refine post_ret ⟨[(nm .i64 ((P30).getD ((m.regs + 2 * z).toNat) 0))], And.intro (AV.le_refl _) (trivial), rfl, ?_⟩
  rfl

theorem c_twin (m : Mac) (z : Int) (h0 : 0 ≤ m.regs + 2 * z) (h1 : m.regs + 2 * z < 29) (h2 : 0 ≤ m.regs) (h3 : m.regs ≤ 4) : ECalls cx 24 [(macV m), (AV.lit (.int .i64 (z)))] (nm .i64 (twnP m z)) := by
  refine ecalls_of_awp Tryz.func24 (c := _) rfl (Nat.le_of_ble_eq_true rfl) ?_
  show awp cx 13 _ (postF cx Tryz.f24 _) ⟨[(0, (macV m)), (1, (AV.lit (.int .i64 (z))))], []⟩
  refine awp_seq fun K0 hK0 => ?_
  refine awp_region rfl ?_
  refine o_box 2 [(AV.lit (.int .i64 (m.regs))), (AV.sl 4 (gcells cI (m.code)))] Gd.none rfl rfl ?_
  refine o_as (nm .i64 (0)) rfl ?_
  refine aops_end ?_
  refine hK0 _ ?_
  refine awp_seq fun K1 hK1 => ?_
  refine awp_regionD rfl ?_
  refine o_ct c_primes Gd.none Yb_tC22 rfl ?_
  refine o_fieldRef 0 Gd.none Yb_tF24_0 rfl rfl ?_
  refine o_loadS (AV.lit (.int .i64 (m.regs))) Gd.none Yb_tS3 rfl rfl rfl ?_
  refine o_mv (AV.lit (.int .i64 (z))) rfl ?_
  refine o_mul (a := (((2 : Nat) : Int))) (c := (z)) Gd.none rfl rfl (by exact wrap64 (by omega) (by omega)) ?_
  refine o_add (a := (m.regs)) (c := ((((2 : Nat) : Int)) * (z))) Gd.none rfl rfl (by exact wrap64 (by omega) (by omega)) ?_
  refine o_add (a := ((m.regs) + ((((2 : Nat) : Int)) * (z)))) (c := (((1 : Nat) : Int))) Gd.none rfl rfl (by exact wrap64 (by omega) (by omega)) ?_
  refine n_as (v' := (nm .i64 ((m.regs + 2 * z + 1).toNat))) (nm_int (by omega)) ?_
  refine n_indexAgg (P30) ((m.regs + 2 * z + 1).toNat) Gd.none Yb_tR61 Yb_tS3 rfl rfl (by rfl) (by omega) ?_
  refine o_as (nm .i64 ((P30).getD ((m.regs + 2 * z + 1).toNat) 0)) rfl ?_
  refine aops_end ⟨by kernel_rfl, ?_⟩
  refine hK1 _ ?_
  refine awp_ret ?_
  refine post_ret ⟨[(nm .i64 ((P30).getD ((m.regs + 2 * z + 1).toNat) 0))], And.intro (AV.le_refl _) (trivial), rfl, ?_⟩
  rfl

theorem c_frac (a b : Nat) (ha : a ≤ 9223372036854775807) (hb : b ≤ 9223372036854775807) : ECalls cx 23 [(nm .i64 (a)), (nm .i64 (b))] (.agg [.lit (.string (txt ((a : Nat) : Int))), .lit (.string (txt ((b : Nat) : Int)))]) := by
  refine ecalls_of_awp Tryz.func23 (c := _) rfl (Nat.le_of_ble_eq_true rfl) ?_
  show awp cx 10 _ (postF cx Tryz.f23 _) ⟨[(0, (nm .i64 (a))), (1, (nm .i64 (b)))], []⟩
  refine awp_seq fun K0 hK0 => ?_
  refine awp_region rfl ?_
  refine o_alloc 2 [(AV.lit (.string (({data := #[]} : ByteArray)))), (AV.lit (.string (({data := #[]} : ByteArray))))] Gd.none Yb_tO59 rfl rfl rfl ?_
  refine aops_end ?_
  refine hK0 _ ?_
  refine awp_seq fun K1 hK1 => ?_
  refine awp_region rfl ?_
  refine o_mv (nm .i64 (a)) rfl ?_
  refine o_ct (c_itoa (a) (by omega)) Gd.none Yb_tC27 rfl ?_
  refine o_mv (nm .i64 (b)) rfl ?_
  refine o_ct (c_itoa (b) (by omega)) Gd.none Yb_tC27 rfl ?_
  refine o_build [(AV.lit (.string (txt ((a : Nat) : Int)))), (AV.lit (.string (txt ((b : Nat) : Int))))] [(0, [(AV.lit (.string (txt ((a : Nat) : Int))))]), (1, [(AV.lit (.string (txt ((b : Nat) : Int))))])] Gd.none Yb_tP59 Yb_tO59 rfl rfl rfl ?_
  refine o_store [(2, (AO.var 59 [(AV.lit (.string (txt ((a : Nat) : Int)))), (AV.lit (.string (txt ((b : Nat) : Int))))]))] Gd.none Yb_tZ59 rfl rfl rfl rfl rfl rfl ?_
  refine aops_end ?_
  refine hK1 _ ?_
  refine awp_ret ?_
  refine post_ret ⟨[(AV.agg [(AV.lit (.string (txt ((a : Nat) : Int)))), (AV.lit (.string (txt ((b : Nat) : Int))))])], And.intro ⟨2, (AO.var 59 [(AV.lit (.string (txt ((a : Nat) : Int)))), (AV.lit (.string (txt ((b : Nat) : Int))))]), rfl, rfl, rfl, Or.inl ⟨Yb_tA59, AV.le_refl _⟩⟩ (trivial), rfl, ?_⟩
  rfl

end Go.Proofs.YtpamhblonmpniaaGreatDoor

set_option linter.unusedVariables false
set_option linter.unusedSimpArgs false
namespace Go.Mth
open Go.Ab
variable {a b c : ByteArray}
theorem ok_zero : okS ⟨#[48]⟩ = true ∧ numS ⟨#[48]⟩ = 0 := ok_of_txt txt_nil (by decide)
noncomputable abbrev gG (a b : ByteArray) : ByteArray := if okS a && okS b then toldS ((Int.gcd (numS a) (numS b) : Nat) : Int) else { data := #[] }
theorem gcd_fit {x y : Int} (hx : Fit x) (hy : Fit y) : Fit ((Int.gcd x y : Nat) : Int) := by
  rcases Nat.eq_zero_or_pos x.natAbs with e | e
  · refine fit_le ?_ hy
    show Nat.gcd x.natAbs y.natAbs ≤ _
    rw [e, Nat.gcd_zero_left]
    exact Nat.le_refl _
  · exact fit_le (Nat.gcd_le_left y.natAbs e) hx
end Go.Mth

set_option linter.unusedVariables false
set_option linter.unusedSimpArgs false
namespace Go.Mth
open Go.Ab
theorem txt_sz2 {z : Int} (h : Fit z) : (txt z).size ≤ 9223372036854775807 := by have := told_sz z; rwa [(told_fit h).1] at this
end Go.Mth

set_option linter.unusedVariables false
set_option linter.unusedSimpArgs false
namespace Go.Mth
open Go.Ab
noncomputable def posE (a : ByteArray) : Nat := if okS a = true then (if 0 < numS a then 0 else 2) else 1
theorem posE_0 {a : ByteArray} : posE a = 0 ↔ okS a = true ∧ 0 < numS a := by
  unfold posE
  by_cases h : okS a = true <;> by_cases h2 : 0 < numS a <;> simp [h, h2]
theorem cmp_0 (a : ByteArray) (h : okS a = true) : (if okS a && okS ⟨#[48]⟩ then cmpZ (numS a) (numS ⟨#[48]⟩) else 0) = cmpZ (numS a) 0 := by
  rw [if_pos (by rw [h, ok_zero.1]; rfl), ok_zero.2]
theorem cmpZ_le {x y : Int} : cmpZ x y ≤ 0 ↔ x ≤ y := by unfold cmpZ; repeat' split <;> omega
def redP (f : Frc) : Prop := (okS f.num = true ∧ 0 < numS f.num) ∧ (okS f.den = true ∧ 0 < numS f.den) ∧ Int.gcd (numS f.num) (numS f.den) = 1
noncomputable instance (f : Frc) : Decidable (redP f) := by unfold redP; infer_instance
def lstP (l : List Frc) : Prop := l.length ≤ 100 ∧ ∀ f ∈ l, redP f
noncomputable instance (l : List Frc) : Decidable (lstP l) := by unfold lstP; infer_instance
noncomputable def askE (l : List Frc) (n : ByteArray) : Nat := if lstP l then posE n else 1
theorem askE_0 {l : List Frc} {n : ByteArray} : askE l n = 0 ↔ lstP l ∧ okS n = true ∧ 0 < numS n := by
  unfold askE
  by_cases h : lstP l
  · rw [if_pos h, posE_0]; exact ⟨fun e => ⟨h, e⟩, fun e => e.2⟩
  · rw [if_neg h]; exact ⟨fun e => absurd e (by decide), fun e => absurd e.1 h⟩
theorem gcd_str {a b : ByteArray} (h : okS a = true ∧ okS b = true) : (if okS a && okS b then toldS ((Int.gcd (numS a) (numS b) : Nat) : Int) else ({ data := #[] } : ByteArray)) = txt ((Int.gcd (numS a) (numS b) : Nat) : Int) := by
  rw [if_pos (by rw [h.1, h.2]; rfl)]
  exact (told_fit (gcd_fit (fit_numS (okS_iff.1 h.1)) (fit_numS (okS_iff.1 h.2)))).1
theorem gcd_one {a b : ByteArray} (h : okS a = true ∧ okS b = true) : (if okS a && okS b then toldS ((Int.gcd (numS a) (numS b) : Nat) : Int) else ({ data := #[] } : ByteArray)).toList = ByteArray.toList ⟨#[49]⟩ ↔ Int.gcd (numS a) (numS b) = 1 := by
  rw [gcd_str h, str_eq, ← txt_one]
  exact ⟨fun e => by have := txt_inj e; omega, fun e => by rw [e]; rfl⟩
theorem mul_str {a b : ByteArray} (h : okS a = true ∧ okS b = true) : (if okS a && okS b then toldS (numS a * numS b) else ({ data := #[] } : ByteArray)) = toldS (numS a * numS b) ∧ (if okS a && okS b then toldE (numS a * numS b) else 1) = toldE (numS a * numS b) :=
  ⟨if_pos (by rw [h.1, h.2]; rfl), if_pos (by rw [h.1, h.2]; rfl)⟩
def hitP (z : Int) (f : Frc) : Prop := z % numS f.den = 0
instance (z : Int) (f : Frc) : Decidable (hitP z f) := by unfold hitP; infer_instance
def fstI (l : List Frc) (z : Int) : Int := ixP (hitP z) l
def fstS (l : List Frc) (z : Int) : ByteArray := if ∃ f ∈ l, hitP z f then txt (z / numS (l.getD (fstI l z).toNat default).den) else { data := #[] }
theorem fst_hit {l : List Frc} {z : Int} {i : Nat} (hi : i < l.length) (h : hitP z (l.getD i default)) (hb : ∀ k, k < i → ¬ hitP z (l.getD k default)) : fstI l z = (i : Int) ∧ fstS l z = txt (z / numS (l.getD i default).den) := by
  have e : fstI l z = (i : Int) := ixP_hit hi h hb
  refine ⟨e, ?_⟩
  unfold fstS
  rw [if_pos (some_of hi h), e, Int.toNat_natCast]
theorem fst_none {l : List Frc} {z : Int} {i : Nat} (hi : l.length ≤ i) (hb : ∀ k, k < i → ¬ hitP z (l.getD k default)) : fstI l z = -1 ∧ fstS l z = { data := #[] } := by
  refine ⟨ixP_none hi hb, ?_⟩
  unfold fstS
  rw [if_neg (none_of hi fun k hk _ => hb k hk)]
theorem hit_str {l : List Frc} {i : Nat} {n : ByteArray} (hl : lstP l) (hn : okS n = true) (hi : i < l.length) : divQ n (l.getD i default).den = txt (numS n / numS (l.getD i default).den) ∧ ((divR n (l.getD i default).den).toList = ByteArray.toList ⟨#[48]⟩ ↔ hitP (numS n) (l.getD i default)) := by
  have h := (hl.2 _ (gdm (d := default) hi)).2.1
  obtain ⟨e1, e2, _⟩ := div_yes ⟨hn, h.1⟩ h.2
  refine ⟨e1, ?_⟩
  rw [e2, str_eq, ← txt_zero]
  exact ⟨fun e => txt_inj e, fun e => by rw [show numS n % numS (l.getD i default).den = 0 from e]⟩
theorem fstI_nn {l : List Frc} {z : Int} : (∃ f ∈ l, hitP z f) ↔ 0 ≤ fstI l z := ixP_nn
theorem fstI_bd {l : List Frc} {z : Int} (h : 0 ≤ fstI l z) : (fstI l z).toNat < l.length ∧ hitP z (l.getD (fstI l z).toNat default) := by
  have hx : ∃ x ∈ l, hitP z x := fstI_nn.2 h
  have e : fstI l z = (l.findIdx (fun x => decide (hitP z x)) : Int) := if_pos hx
  have hlt : l.findIdx (fun x => decide (hitP z x)) < l.length := by
    obtain ⟨x, hx, hp⟩ := hx
    exact List.findIdx_lt_length_of_exists ⟨x, hx, by simpa using hp⟩
  rw [e, Int.toNat_natCast]
  refine ⟨hlt, ?_⟩
  have := List.findIdx_getElem (w := hlt)
  rw [List.getD_eq_getElem?_getD, List.getElem?_eq_getElem hlt]
  simpa using this
noncomputable def firI (l : List Frc) (n : ByteArray) : Int := if askE l n = 0 ∧ 0 ≤ fstI l (numS n) then fstI l (numS n) else 0
noncomputable def firE (l : List Frc) (n : ByteArray) : Nat := if askE l n = 0 then (if 0 ≤ fstI l (numS n) then 0 else 4) else askE l n
def nxF (l : List Frc) (z : Int) : Int := z / numS (l.getD (fstI l z).toNat default).den * numS (l.getD (fstI l z).toNat default).num
noncomputable def ply (l : List Frc) : Nat → Int → Nat → ByteArray × Nat × Nat
  | 0, z, c => (txt z, c, 0)
  | k + 1, z, c => if 0 ≤ fstI l z then (if Fit (nxF l z) then ply l k (nxF l z) (c + 1) else ({ data := #[] }, 0, 3)) else (txt z, c, 0)
noncomputable def plyA (l : List Frc) (n : ByteArray) (k : Int) : ByteArray × Nat × Nat := if askE l n = 0 then (if 0 ≤ k ∧ k ≤ 20000 then ply l k.toNat (numS n) 0 else ({ data := #[] }, 0, 2)) else ({ data := #[] }, 0, askE l n)
theorem fst_str {l : List Frc} {z : Int} (hl : lstP l) (h : 0 ≤ fstI l z) (hz : 0 < z) (hf : Fit z) : fstS l z = txt (z / numS (l.getD (fstI l z).toNat default).den) ∧ Fit (z / numS (l.getD (fstI l z).toNat default).den) ∧ 0 < z / numS (l.getD (fstI l z).toNat default).den := by
  obtain ⟨h1, h2⟩ := fstI_bd h
  have h3 := (hl.2 _ (gdm (d := default) h1)).2.1.2
  refine ⟨if_pos (fstI_nn.2 h), fit_le ?_ hf, ?_⟩
  · rw [Int.natAbs_ediv_of_dvd (Int.dvd_of_emod_eq_zero h2)]; exact Nat.div_le_self _ _
  · exact Int.ediv_pos_of_pos_of_dvd hz (by omega) (Int.dvd_of_emod_eq_zero h2)
theorem ply_next {l : List Frc} {k i : Nat} {z : Int} (h : i < k) (hf : 0 ≤ fstI l z) (hF : Fit (nxF l z)) : ply l (k - i) z i = ply l (k - (i + 1)) (nxF l z) (i + 1) := by
  rw [show k - i = (k - (i + 1)) + 1 by omega]
  exact (if_pos hf).trans (if_pos hF)
theorem ply_big {l : List Frc} {k i : Nat} {z : Int} (h : i < k) (hf : 0 ≤ fstI l z) (hF : ¬ Fit (nxF l z)) : ply l (k - i) z i = ({ data := #[] }, 0, 3) := by
  rw [show k - i = (k - (i + 1)) + 1 by omega]
  exact (if_pos hf).trans (if_neg hF)
theorem ply_stop {l : List Frc} {k i : Nat} {z : Int} (h : i < k) (hf : ¬ 0 ≤ fstI l z) : ply l (k - i) z i = (txt z, i, 0) := by
  rw [show k - i = (k - (i + 1)) + 1 by omega]
  exact if_neg hf
theorem plyA_0 {l : List Frc} {n : ByteArray} {k : Int} (h : askE l n = 0) (h2 : 0 ≤ k ∧ k ≤ 20000) : plyA l n k = ply l k.toNat (numS n) 0 := (if_pos h).trans (if_pos h2)
theorem plyA_1 {l : List Frc} {n : ByteArray} {k : Int} (h : ¬ askE l n = 0) : plyA l n k = ({ data := #[] }, 0, askE l n) := if_neg h
theorem plyA_2 {l : List Frc} {n : ByteArray} {k : Int} (h : askE l n = 0) (h2 : ¬ (0 ≤ k ∧ k ≤ 20000)) : plyA l n k = ({ data := #[] }, 0, 2) := (if_pos h).trans (if_neg h2)
theorem tld_ok {z : Int} (h : ¬ toldE z ≠ 0) : Fit z := Decidable.not_not.1 fun e => h (by unfold toldE; rw [if_neg e]; decide)
theorem tld_big {z : Int} (h : toldE z ≠ 0) : ¬ Fit z := fun e => h (told_fit e).2
theorem tld_3 {z : Int} (h : ¬ Fit z) : toldE z = 3 := if_neg h
def cmX (o d : Int) : Int := o / ((Int.gcd o d : Nat) : Int) * d
noncomputable def com : List Frc → Int → ByteArray × Nat
  | [], o => (txt o, 0)
  | f :: r, o => if Fit (cmX o (numS f.den)) then com r (cmX o (numS f.den)) else ({ data := #[] }, 3)
noncomputable def comA (l : List Frc) : ByteArray × Nat := if lstP l then com l 1 else ({ data := #[] }, 1)
theorem com_drop {l : List Frc} {i : Nat} {o : Int} (h : i < l.length) : com (l.drop i) o = if Fit (cmX o (numS (l.getD i default).den)) then com (l.drop (i + 1)) (cmX o (numS (l.getD i default).den)) else ({ data := #[] }, 3) := by
  rw [List.drop_eq_getElem_cons h, show l.getD i default = l[i] by rw [List.getD_eq_getElem?_getD, List.getElem?_eq_getElem h]; rfl]
  rfl
theorem com_end {l : List Frc} {i : Nat} {o : Int} (h : l.length ≤ i) : com (l.drop i) o = (txt o, 0) := by rw [List.drop_of_length_le h]; rfl
theorem cm_gcd {a b : ByteArray} (h : okS a = true ∧ okS b = true) (h0 : 0 < numS a) : Fit ((Int.gcd (numS a) (numS b) : Nat) : Int) ∧ 0 < ((Int.gcd (numS a) (numS b) : Nat) : Int) ∧ divQ a (txt ((Int.gcd (numS a) (numS b) : Nat) : Int)) = txt (numS a / ((Int.gcd (numS a) (numS b) : Nat) : Int)) ∧ Fit (numS a / ((Int.gcd (numS a) (numS b) : Nat) : Int)) ∧ 0 < numS a / ((Int.gcd (numS a) (numS b) : Nat) : Int) := by
  have f := gcd_fit (fit_numS (okS_iff.1 h.1)) (fit_numS (okS_iff.1 h.2))
  have p : 0 < ((Int.gcd (numS a) (numS b) : Nat) : Int) := by
    have : 0 < Int.gcd (numS a) (numS b) := Int.gcd_pos_of_ne_zero_left _ (by omega)
    omega
  have d : ((Int.gcd (numS a) (numS b) : Nat) : Int) ∣ numS a := Int.gcd_dvd_left ..
  refine ⟨f, p, ?_, fit_le ?_ (fit_numS (okS_iff.1 h.1)), Int.ediv_pos_of_pos_of_dvd h0 (by omega) d⟩
  · have := (div_yes (a := a) (b := txt ((Int.gcd (numS a) (numS b) : Nat) : Int)) ⟨h.1, okS_iff.2 (okS_txt f)⟩ (by rw [numS_txt]; exact p)).1
    rwa [numS_txt] at this
  · rw [Int.natAbs_ediv_of_dvd d]; exact Nat.div_le_self _ _
end Go.Mth

set_option linter.unusedVariables false
set_option linter.unusedSimpArgs false
namespace Go.Proofs.YtpamhblonmpniaaGreatDoor
open Go Go.Ab Go.Mth
theorem Yc_tC50 : callable cx.P 50 = true := by kernel_rfl
theorem Yc_tC71 : callable cx.P 71 = true := by kernel_rfl
theorem Yc_tF59_0 : tyField cx.P 59 0 = some (0, 9) := by kernel_rfl
theorem Yc_tS9 : tySc cx.P 9 = true := by kernel_rfl
theorem Yc_tC57 : callable cx.P 57 = true := by kernel_rfl
theorem Yc_tF59_1 : tyField cx.P 59 1 = some (1, 9) := by kernel_rfl
theorem Yc_tC35 : callable cx.P 35 = true := by kernel_rfl
theorem Yc_tA59 : tyAgg cx.P 59 = some 2 := by kernel_rfl
theorem Yc_tC60 : callable cx.P 60 = true := by kernel_rfl
theorem Yc_tU34 : cx.P.underlying 34 = some (.slice 59) := by kernel_rfl
theorem Yc_tE34 : tyElem cx.P 34 = some (59, 2, 32) := by kernel_rfl
theorem Yc_tC59 : callable cx.P 59 = true := by kernel_rfl
theorem Yc_tC72 : callable cx.P 72 = true := by kernel_rfl
theorem Yc_tC58 : callable cx.P 58 = true := by kernel_rfl
theorem Yc_tC34 : callable cx.P 34 = true := by kernel_rfl
theorem Yc_tO59 : tyZero cx.P 59 = some [(Go.Value.string {data := #[]}), (Go.Value.string {data := #[]})] := by kernel_rfl
theorem Yc_tZ59 : tySize cx.P 59 = some 2 := by kernel_rfl
theorem Yc_tC36 : callable cx.P 36 = true := by kernel_rfl
theorem Yc_tC32 : callable cx.P 32 = true := by kernel_rfl
theorem Yc_tC33 : callable cx.P 33 = true := by kernel_rfl
theorem c_positive (a : ByteArray) (ha : a.size ≤ 9223372036854775807) : ECalls cx 57 [(AV.lit (.string (a)))] (nm .i64 (posE a)) := by
  refine ecalls_of_awp Tryz.func57 (c := _) rfl (Nat.le_of_ble_eq_true rfl) ?_
  show awp cx 15 _ (postF cx Tryz.f57 _) ⟨[(0, (AV.lit (.string (a))))], []⟩
  refine awp_seq fun K0 hK0 => ?_
  refine awp_region rfl ?_
  refine o_as (nm .i64 (0)) rfl ?_
  refine aops_end ?_
  refine hK0 _ ?_
  refine awp_seq fun K1 hK1 => ?_
  refine awp_seq fun K2 hK2 => ?_
  refine awp_region rfl ?_
  refine o_mv (AV.lit (.string (a))) rfl ?_
  refine o_ct (c_nValid (a) (by first | assumption | decide | omega)) Gd.none Yc_tC50 rfl ?_
  refine o_not (b := okS (a)) Gd.none rfl ?_
  refine aops_end ?_
  refine hK2 _ ?_
  refine awp_condB (b := !(okS (a))) rfl (fun h1 => ?_) (fun h1 => ?_)
  · refine awp_seq fun K3 hK3 => ?_
    refine awp_region rfl ?_
    refine o_as (nm .i64 (1)) rfl ?_
    refine aops_end ?_
    refine hK3 _ ?_
    refine awp_ret ?_
    refine post_ret ⟨[(nm .i64 (1))], And.intro (AV.le_refl _) (trivial), rfl, ?_⟩
    exact congrArg (nm .i64) (if_neg (by simpa using h1))
  · refine awp_skip ?_
    refine hK1 _ ?_
    refine awp_seq fun K4 hK4 => ?_
    refine awp_seq fun K5 hK5 => ?_
    refine awp_region rfl ?_
    refine o_mv (AV.lit (.string (a))) rfl ?_
    refine o_ct (c_nCompare (a) (({data := #[48]} : ByteArray)) (by first | assumption | decide | omega) (by first | assumption | decide | omega)) Gd.none Yc_tC71 rfl ?_
    refine o_mv (AV.tup [(AV.lit (.int .i64 ((if okS (a) && okS (({data := #[48]} : ByteArray)) then (cmpZ (numS (a)) (numS (({data := #[48]} : ByteArray)))) else (0))))), (nm .i64 ((if okS (a) && okS (({data := #[48]} : ByteArray)) then (0) else (1))))]) rfl ?_
    refine o_extract (AV.lit (.int .i64 ((if okS (a) && okS (({data := #[48]} : ByteArray)) then (cmpZ (numS (a)) (numS (({data := #[48]} : ByteArray)))) else (0))))) Gd.none rfl rfl ?_
    refine o_extract (nm .i64 ((if okS (a) && okS (({data := #[48]} : ByteArray)) then (0) else (1)))) Gd.none rfl rfl ?_
    refine o_as (AV.lit (.int .i64 ((if okS (a) && okS (({data := #[48]} : ByteArray)) then (cmpZ (numS (a)) (numS (({data := #[48]} : ByteArray)))) else (0))))) rfl ?_
    refine o_as (nm .i64 ((if okS (a) && okS (({data := #[48]} : ByteArray)) then (0) else (1)))) rfl ?_
    refine aops_end ?_
    refine hK5 _ ?_
    refine awp_seq fun K6 hK6 => ?_
    refine awp_region rfl ?_
    refine o_mv (AV.lit (.int .i64 ((if okS (a) && okS (({data := #[48]} : ByteArray)) then (cmpZ (numS (a)) (numS (({data := #[48]} : ByteArray)))) else (0))))) rfl ?_
    refine o_leq (a := ((if okS (a) && okS (({data := #[48]} : ByteArray)) then (cmpZ (numS (a)) (numS (({data := #[48]} : ByteArray)))) else (0)))) (c := (((0 : Nat) : Int))) Gd.none rfl rfl ?_
    refine aops_end ?_
    refine hK6 _ ?_
    refine awp_condQ (q := ((if okS (a) && okS (({data := #[48]} : ByteArray)) then (cmpZ (numS (a)) (numS (({data := #[48]} : ByteArray)))) else (0))) ≤ (((0 : Nat) : Int))) rfl (fun h2 => ?_) (fun h2 => ?_)
    · refine awp_seq fun K7 hK7 => ?_
      refine awp_region rfl ?_
      refine o_as (nm .i64 (2)) rfl ?_
      refine aops_end ?_
      refine hK7 _ ?_
      refine awp_ret ?_
      refine post_ret ⟨[(nm .i64 (2))], And.intro (AV.le_refl _) (trivial), rfl, ?_⟩
      exact congrArg (nm .i64) ((if_pos (by simpa using h1)).trans (if_neg (fun e => absurd (cmpZ_le.1 (by rw [cmp_0 a (by simpa using h1)] at h2; exact h2)) (by omega))))
    · refine awp_skip ?_
      refine hK4 _ ?_
      refine awp_seq fun K8 hK8 => ?_
      refine awp_region rfl ?_
      refine o_as (nm .i64 (0)) rfl ?_
      refine aops_end ?_
      refine hK8 _ ?_
      refine awp_ret ?_
      refine post_ret ⟨[(nm .i64 (0))], And.intro (AV.le_refl _) (trivial), rfl, ?_⟩
      exact congrArg (nm .i64) ((if_pos (by simpa using h1)).trans (if_pos (by rw [cmp_0 a (by simpa using h1)] at h2; have := (not_congr cmpZ_le).1 h2; omega)))

theorem c_reduced (f : Frc) (hn : f.num.size ≤ 9223372036854775807) (hd : f.den.size ≤ 9223372036854775807) : ECalls cx 60 [(AV.agg [(AV.lit (.string ((f).num))), (AV.lit (.string ((f).den)))])] (bp (redP f)) := by
  refine ecalls_of_awp Tryz.func60 (c := _) rfl (Nat.le_of_ble_eq_true rfl) ?_
  show awp cx 25 _ (postF cx Tryz.f60 _) ⟨[(0, (AV.agg [(AV.lit (.string ((f).num))), (AV.lit (.string ((f).den)))]))], []⟩
  refine awp_seq fun K0 hK0 => ?_
  refine awp_region rfl ?_
  refine o_box 2 [(AV.lit (.string ((f).num))), (AV.lit (.string ((f).den)))] Gd.none rfl rfl ?_
  refine o_as (AV.lit (.bool false)) rfl ?_
  refine aops_end ?_
  refine hK0 _ ?_
  refine awp_seq fun K1 hK1 => ?_
  refine awp_seq fun K2 hK2 => ?_
  refine awp_region rfl ?_
  refine o_fieldRef 0 Gd.none Yc_tF59_0 rfl rfl ?_
  refine o_loadS (AV.lit (.string ((f).num))) Gd.none Yc_tS9 rfl rfl rfl ?_
  refine o_ct (c_positive ((f).num) (by first | assumption | decide | omega)) Gd.none Yc_tC57 rfl ?_
  refine n_neq (posE ((f).num)) (0) Gd.none rfl rfl ?_
  refine o_mv (bp ((posE ((f).num)) ≠ (0))) rfl ?_
  refine o_splitP (q := (posE ((f).num)) ≠ (0)) 9 rfl (fun h1 => ?_) (fun h1 => ?_)
  · refine o_skip rfl rfl (decide_eq_true h1) ?_
    refine o_skip rfl rfl (decide_eq_true h1) ?_
    refine o_skip rfl rfl (decide_eq_true h1) ?_
    refine o_skip rfl rfl (decide_eq_true h1) ?_
    refine o_pickT (AV.lit (.bool true)) Gd.none rfl (decide_eq_true h1) rfl ?_
    refine aops_end ?_
    refine hK2 _ ?_
    refine awp_condB (b := true) rfl (fun _ => ?_) (fun hh => absurd (hh.symm.trans rfl) (by decide))
    refine awp_seq fun K3 hK3 => ?_
    refine awp_region rfl ?_
    refine o_as (AV.lit (.bool false)) rfl ?_
    refine aops_end ?_
    refine hK3 _ ?_
    refine awp_ret ?_
    refine post_ret ⟨[(AV.lit (.bool false))], And.intro (AV.le_refl _) (trivial), rfl, ?_⟩
    exact bpn (fun o => h1 (posE_0.2 o.1))
  · refine o_fieldRef 1 (Gd.yes rfl rfl (decide_eq_false h1)) Yc_tF59_1 rfl rfl ?_
    refine o_loadS (AV.lit (.string ((f).den))) (Gd.yes rfl rfl (decide_eq_false h1)) Yc_tS9 rfl rfl rfl ?_
    refine o_ct (c_positive ((f).den) (by first | assumption | decide | omega)) (Gd.yes rfl rfl (decide_eq_false h1)) Yc_tC57 rfl ?_
    refine n_neq (posE ((f).den)) (0) (Gd.yes rfl rfl (decide_eq_false h1)) rfl rfl ?_
    refine o_pickF (bp ((posE ((f).den)) ≠ (0))) Gd.none rfl (decide_eq_false h1) rfl ?_
    refine aops_end ?_
    refine hK2 _ ?_
    refine awp_condQ (q := (posE ((f).den)) ≠ (0)) rfl (fun h2 => ?_) (fun h2 => ?_)
    · refine awp_seq fun K4 hK4 => ?_
      refine awp_region rfl ?_
      refine o_as (AV.lit (.bool false)) rfl ?_
      refine aops_end ?_
      refine hK4 _ ?_
      refine awp_ret ?_
      refine post_ret ⟨[(AV.lit (.bool false))], And.intro (AV.le_refl _) (trivial), rfl, ?_⟩
      exact bpn (fun o => h2 (posE_0.2 o.2.1))
    · refine awp_skip ?_
      refine hK1 _ ?_
      refine awp_seq fun K5 hK5 => ?_
      refine awp_region rfl ?_
      refine o_fieldRef 0 Gd.none Yc_tF59_0 rfl rfl ?_
      refine o_loadS (AV.lit (.string ((f).num))) Gd.none Yc_tS9 rfl rfl rfl ?_
      refine o_fieldRef 1 Gd.none Yc_tF59_1 rfl rfl ?_
      refine o_loadS (AV.lit (.string ((f).den))) Gd.none Yc_tS9 rfl rfl rfl ?_
      refine o_ct (c_nGcd ((f).num) ((f).den) (by first | assumption | decide | omega) (by first | assumption | decide | omega)) Gd.none Yc_tC35 rfl ?_
      refine o_mv (AV.tup [(AV.lit (.string ((if okS ((f).num) && okS ((f).den) then (toldS ((Int.gcd (numS ((f).num)) (numS ((f).den)) : Nat) : Int)) else (({ data := #[] } : ByteArray)))))), (nm .i64 ((if okS ((f).num) && okS ((f).den) then (toldE ((Int.gcd (numS ((f).num)) (numS ((f).den)) : Nat) : Int)) else (1))))]) rfl ?_
      refine o_extract (AV.lit (.string ((if okS ((f).num) && okS ((f).den) then (toldS ((Int.gcd (numS ((f).num)) (numS ((f).den)) : Nat) : Int)) else (({ data := #[] } : ByteArray)))))) Gd.none rfl rfl ?_
      refine o_extract (nm .i64 ((if okS ((f).num) && okS ((f).den) then (toldE ((Int.gcd (numS ((f).num)) (numS ((f).den)) : Nat) : Int)) else (1)))) Gd.none rfl rfl ?_
      refine o_as (AV.lit (.string ((if okS ((f).num) && okS ((f).den) then (toldS ((Int.gcd (numS ((f).num)) (numS ((f).den)) : Nat) : Int)) else (({ data := #[] } : ByteArray)))))) rfl ?_
      refine o_as (nm .i64 ((if okS ((f).num) && okS ((f).den) then (toldE ((Int.gcd (numS ((f).num)) (numS ((f).den)) : Nat) : Int)) else (1)))) rfl ?_
      refine aops_end ?_
      refine hK5 _ ?_
      refine awp_seq fun K6 hK6 => ?_
      refine awp_region rfl ?_
      refine o_mv (AV.lit (.string ((if okS ((f).num) && okS ((f).den) then (toldS ((Int.gcd (numS ((f).num)) (numS ((f).den)) : Nat) : Int)) else (({ data := #[] } : ByteArray)))))) rfl ?_
      refine o_eqlS (a := ((if okS ((f).num) && okS ((f).den) then (toldS ((Int.gcd (numS ((f).num)) (numS ((f).den)) : Nat) : Int)) else (({ data := #[] } : ByteArray))))) (c := (({data := #[49]} : ByteArray))) Gd.none rfl rfl ?_
      refine o_as (bp (((if okS ((f).num) && okS ((f).den) then (toldS ((Int.gcd (numS ((f).num)) (numS ((f).den)) : Nat) : Int)) else (({ data := #[] } : ByteArray)))).toList = (({data := #[49]} : ByteArray)).toList)) rfl ?_
      refine aops_end ?_
      refine hK6 _ ?_
      refine awp_ret ?_
      refine post_ret ⟨[(bp (((if okS ((f).num) && okS ((f).den) then (toldS ((Int.gcd (numS ((f).num)) (numS ((f).den)) : Nat) : Int)) else (({ data := #[] } : ByteArray)))).toList = (({data := #[49]} : ByteArray)).toList))], And.intro (AV.le_refl _) (trivial), rfl, ?_⟩
      exact bpc (by have g1 := posE_0.1 (Decidable.not_not.1 h1); have g2 := posE_0.1 (Decidable.not_not.1 h2); rw [gcd_one ⟨g1.1, g2.1⟩]; exact ⟨fun o => o.2.2, fun o => ⟨g1, g2, o⟩⟩)

theorem c_list1 (f : Frc) (hn : f.num.size ≤ 9223372036854775807) (hd : f.den.size ≤ 9223372036854775807) : ECalls cx 59 [(AV.agg [(AV.lit (.string ((f).num))), (AV.lit (.string ((f).den)))])] (bp (¬ redP f)) := by
  refine ecalls_of_awp Tryz.func59 (c := _) rfl (Nat.le_of_ble_eq_true rfl) ?_
  show awp cx 6 _ (postF cx Tryz.f59 _) ⟨[(0, (AV.agg [(AV.lit (.string ((f).num))), (AV.lit (.string ((f).den)))]))], []⟩
  refine awp_seq fun K0 hK0 => ?_
  refine awp_region rfl ?_
  refine o_box 2 [(AV.lit (.string ((f).num))), (AV.lit (.string ((f).den)))] Gd.none rfl rfl ?_
  refine o_as (AV.lit (.bool false)) rfl ?_
  refine aops_end ?_
  refine hK0 _ ?_
  refine awp_seq fun K1 hK1 => ?_
  refine awp_region rfl ?_
  refine o_loadA [(AV.lit (.string ((f).num))), (AV.lit (.string ((f).den)))] Gd.none Yc_tA59 rfl rfl rfl rfl rfl ?_
  refine o_ct (c_reduced (f) (by first | assumption | decide | omega) (by first | assumption | decide | omega)) Gd.none Yc_tC60 rfl ?_
  refine o_notP (q := redP (f)) Gd.none rfl ?_
  refine o_as (bp (¬ (redP (f)))) rfl ?_
  refine aops_end ?_
  refine hK1 _ ?_
  refine awp_ret ?_
  refine post_ret ⟨[(bp (¬ (redP (f))))], And.intro (AV.le_refl _) (trivial), rfl, ?_⟩
  rfl

theorem c_ixFrc (l : List Frc) (hl : l.length ≤ 100) (hS : ∀ f ∈ l, f.num.size ≤ 9223372036854775807 ∧ f.den.size ≤ 9223372036854775807) : ECalls cx 72 [(AV.sl 2 (gcells cF (l))), (AV.clo 59 [])] (.lit (.int .i64 (ixP (fun f => ¬ redP f) l))) := by
  refine ecalls_of_awp Tryz.func72 (c := _) rfl (Nat.le_of_ble_eq_true rfl) ?_
  show awp cx 19 _ (postF cx Tryz.f72 _) ⟨[(0, (AV.sl 2 (gcells cF (l)))), (1, (AV.clo 59 []))], []⟩
  refine awp_seq fun K0 hK0 => ?_
  refine awp_region rfl ?_
  refine o_as (nm .i64 (0)) rfl ?_
  refine aops_end ?_
  refine hK0 _ ?_
  refine awp_seq fun K1 hK1 => ?_
  refine awp_seq fun K2 hK2 => ?_
  refine awp_region rfl ?_
  refine o_mv (AV.sl 2 (gcells cF (l))) rfl ?_
  refine g_len cF (l) cF_len Gd.none Yc_tU34 rfl ?_
  refine o_mv (nm .i64 (0)) rfl ?_
  refine aops_end ?_
  refine hK2 _ ?_
  refine awp_block ?_
  refine awp_loopR (fun κ σ => ∃ (i : Nat), (i ≤ l.length) ∧ (∀ k, k < i → ¬ ((fun f => ¬ redP f) ((l).getD k default))) ∧ (l.length - i) = κ ∧ σ = ⟨[(0, (AV.sl 2 (gcells cF (l)))), (1, (AV.clo 59 [])), (7, (nm .i64 (l.length))), (8, (nm .i64 (i)))], []⟩) ⟨_, _, ⟨0, (by omega), (fun k hk => by omega), rfl, rfl⟩, ?wk0⟩ ?rd0
  case wk0 =>
    exact Wk.sub (And.intro rfl (And.intro rfl (And.intro (by first | rfl | exact congrArg (nm _) (by omega) | exact nm_int (by omega) | exact nm_int (by simp [IntKind.wrap, IntKind.bits, IntKind.signed]; omega)) (And.intro (by first | rfl | exact congrArg (nm _) (by omega) | exact nm_int (by omega) | exact nm_int (by simp [IntKind.wrap, IntKind.bits, IntKind.signed]; omega)) (trivial))))) (trivial)
  rintro κ _ ⟨i, hi, hb, rfl, rfl⟩
  refine awp_seq fun K3 hK3 => ?_
  refine awp_region rfl ?_
  refine n_lss (i) (l.length) Gd.none rfl rfl ?_
  refine aops_end ?_
  refine hK3 _ ?_
  refine awp_seq fun K4 hK4 => ?_
  refine awp_condQ (q := (i) < (l.length)) rfl (fun h1 => ?_) (fun h1 => ?_)
  · refine awp_skip ?_
    refine hK4 _ ?_
    refine awp_seq fun K5 hK5 => ?_
    refine awp_block ?_
    refine awp_seq fun K6 hK6 => ?_
    refine awp_region rfl ?_
    refine o_mv (nm .i64 (i)) rfl ?_
    refine o_as (nm .i64 (i)) rfl ?_
    refine aops_end ?_
    refine hK6 _ ?_
    refine awp_seq fun K7 hK7 => ?_
    refine awp_region rfl ?_
    refine o_mv (AV.clo 59 []) rfl ?_
    refine o_mv (AV.sl 2 (gcells cF (l))) rfl ?_
    refine o_mv (nm .i64 (i)) rfl ?_
    refine g_index cF (l) (i) cF_len rfl Gd.none Yc_tE34 rfl rfl (by omega) ?_
    refine g_loadA cF (l) (i) default cF_len Gd.none Yc_tA59 rfl (by omega) ?_
    refine o_callG [] [(AV.agg [(AV.lit (.string ((((l).getD (i) default)).num))), (AV.lit (.string ((((l).getD (i) default)).den)))])] _ (bp (¬ (redP (((l).getD (i) default))))) [] Gd.none Yc_tC59 rfl (trivial) rfl rfl (LeL.cons (AV.le_refl _) (LeL.nil)) (c_list1 (((l).getD (i) default)) (hS _ (gdm (by omega))).1 (hS _ (gdm (by omega))).2) rfl ?_
    refine aops_end ?_
    refine hK7 _ ?_
    refine awp_condQ (q := ¬ (redP (((l).getD (i) default)))) rfl (fun h2 => ?_) (fun h2 => ?_)
    · refine awp_seq fun K8 hK8 => ?_
      refine awp_region rfl ?_
      refine o_mv (nm .i64 (i)) rfl ?_
      refine o_as (nm .i64 (i)) rfl ?_
      refine aops_end ?_
      refine hK8 _ ?_
      refine awp_ret ?_
      refine post_ret ⟨[(nm .i64 (i))], And.intro (AV.le_refl _) (trivial), rfl, ?_⟩
      exact congrArg (fun z => AV.lit (.int .i64 z)) (ixP_hit (d := default) (by omega) (by assumption) hb)
    · refine awp_skip ?_
      refine hK5 _ ?_
      refine awp_region rfl ?_
      refine n_add (i) (1) Gd.none rfl rfl (by simp only [topOf]; omega) ?_
      refine o_mv (nm .i64 ((i) + (1))) rfl ?_
      refine aops_end ?_
      refine ⟨_, _, ?lt, ⟨i + 1, (by omega), (fun k hk => by rcases Nat.lt_or_ge k i with e | e; exact hb k e; rw [show k = i by omega]; assumption), rfl, rfl⟩, ?wk⟩
      case lt => omega
      case wk => exact Wk.sub (And.intro rfl (And.intro rfl (And.intro rfl (And.intro (by first | rfl | exact congrArg (nm _) (by omega) | exact nm_int (by omega) | exact nm_int (by simp [IntKind.wrap, IntKind.bits, IntKind.signed]; omega)) (trivial))))) (trivial)
  · refine awp_exit ?_
    refine hK1 _ ?_
    refine awp_seq fun K9 hK9 => ?_
    refine awp_region rfl ?_
    refine o_as (AV.lit (.int .i64 ((-1)))) rfl ?_
    refine aops_end ?_
    refine hK9 _ ?_
    refine awp_ret ?_
    refine post_ret ⟨[(AV.lit (.int .i64 ((-1))))], And.intro (AV.le_refl _) (trivial), rfl, ?_⟩
    exact congrArg (fun z => AV.lit (.int .i64 z)) (ixP_none (d := default) (by omega) hb)

theorem c_hasFrc (l : List Frc) (hl : l.length ≤ 100) (hS : ∀ f ∈ l, f.num.size ≤ 9223372036854775807 ∧ f.den.size ≤ 9223372036854775807) : ECalls cx 58 [(AV.sl 2 (gcells cF (l))), (AV.clo 59 [])] (bp (∃ x ∈ l, (fun f => ¬ redP f) x)) := by
  refine ecalls_of_awp Tryz.func58 (c := _) rfl (Nat.le_of_ble_eq_true rfl) ?_
  show awp cx 9 _ (postF cx Tryz.f58 _) ⟨[(0, (AV.sl 2 (gcells cF (l)))), (1, (AV.clo 59 []))], []⟩
  refine awp_seq fun K0 hK0 => ?_
  refine awp_region rfl ?_
  refine o_as (AV.lit (.bool false)) rfl ?_
  refine aops_end ?_
  refine hK0 _ ?_
  refine awp_seq fun K1 hK1 => ?_
  refine awp_region rfl ?_
  refine o_mv (AV.sl 2 (gcells cF (l))) rfl ?_
  refine o_mv (AV.clo 59 []) rfl ?_
  refine o_ct (c_ixFrc (l) (by omega) (by assumption)) Gd.none Yc_tC72 rfl ?_
  refine o_geq (a := (ixP (fun f => ¬ redP f) (l))) (c := (((0 : Nat) : Int))) Gd.none rfl rfl ?_
  refine o_as (bp ((((0 : Nat) : Int)) ≤ (ixP (fun f => ¬ redP f) (l)))) rfl ?_
  refine aops_end ?_
  refine hK1 _ ?_
  refine awp_ret ?_
  refine post_ret ⟨[(bp ((((0 : Nat) : Int)) ≤ (ixP (fun f => ¬ redP f) (l))))], And.intro (AV.le_refl _) (trivial), rfl, ?_⟩
  exact bpc (ixP_nn (p := fun f => ¬ redP f))

theorem c_list (l : List Frc) (hS : ∀ f ∈ l, f.num.size ≤ 9223372036854775807 ∧ f.den.size ≤ 9223372036854775807) : ECalls cx 34 [(AV.sl 2 (gcells cF (l)))] (bp (lstP l)) := by
  refine ecalls_of_awp Tryz.func34 (c := _) rfl (Nat.le_of_ble_eq_true rfl) ?_
  show awp cx 11 _ (postF cx Tryz.f34 _) ⟨[(0, (AV.sl 2 (gcells cF (l))))], []⟩
  refine awp_seq fun K0 hK0 => ?_
  refine awp_region rfl ?_
  refine o_as (AV.lit (.bool false)) rfl ?_
  refine aops_end ?_
  refine hK0 _ ?_
  refine awp_seq fun K1 hK1 => ?_
  refine awp_region rfl ?_
  refine o_mv (AV.sl 2 (gcells cF (l))) rfl ?_
  refine g_len cF (l) cF_len Gd.none Yc_tU34 rfl ?_
  refine n_leq ((l).length) (100) Gd.none rfl rfl ?_
  refine o_mv (bp (((l).length) ≤ (100))) rfl ?_
  refine o_splitP (q := ((l).length) ≤ (100)) 6 rfl (fun h1 => ?_) (fun h1 => ?_)
  · refine o_move (AV.sl 2 (gcells cF (l))) (Gd.yes rfl rfl (decide_eq_true h1)) rfl ?_
    refine o_ct (c_hasFrc (l) (by omega) (by assumption)) (Gd.yes rfl rfl (decide_eq_true h1)) Yc_tC58 rfl ?_
    refine o_notP (q := ∃ x ∈ (l), (fun f => ¬ redP f) x) (Gd.yes rfl rfl (decide_eq_true h1)) rfl ?_
    refine o_pickT (bp (¬ (∃ x ∈ (l), (fun f => ¬ redP f) x))) Gd.none rfl (decide_eq_true h1) rfl ?_
    refine o_as (bp (¬ (∃ x ∈ (l), (fun f => ¬ redP f) x))) rfl ?_
    refine aops_end ?_
    refine hK1 _ ?_
    refine awp_ret ?_
    refine post_ret ⟨[(bp (¬ (∃ x ∈ (l), (fun f => ¬ redP f) x)))], And.intro (AV.le_refl _) (trivial), rfl, ?_⟩
    first | exact bpn (fun o => absurd o.1 (by omega)) | exact bpc ⟨fun o => (by rintro ⟨x, hx, hn⟩; exact hn (o.2 x hx)), fun o => ⟨by omega, fun x hx => Decidable.not_not.1 fun hn => o ⟨x, hx, hn⟩⟩⟩
  · refine o_skip rfl rfl (decide_eq_false h1) ?_
    refine o_skip rfl rfl (decide_eq_false h1) ?_
    refine o_skip rfl rfl (decide_eq_false h1) ?_
    refine o_pickF (AV.lit (.bool false)) Gd.none rfl (decide_eq_false h1) rfl ?_
    refine o_as (AV.lit (.bool false)) rfl ?_
    refine aops_end ?_
    refine hK1 _ ?_
    refine awp_ret ?_
    refine post_ret ⟨[(AV.lit (.bool false))], And.intro (AV.le_refl _) (trivial), rfl, ?_⟩
    first | exact bpn (fun o => absurd o.1 (by omega)) | exact bpc ⟨fun o => (by rintro ⟨x, hx, hn⟩; exact hn (o.2 x hx)), fun o => ⟨by omega, fun x hx => Decidable.not_not.1 fun hn => o ⟨x, hx, hn⟩⟩⟩

theorem c_asks (l : List Frc) (n : ByteArray) (hS : ∀ f ∈ l, f.num.size ≤ 9223372036854775807 ∧ f.den.size ≤ 9223372036854775807) (hn : n.size ≤ 9223372036854775807) : ECalls cx 32 [(AV.sl 2 (gcells cF (l))), (AV.lit (.string (n)))] (nm .i64 (askE l n)) := by
  refine ecalls_of_awp Tryz.func32 (c := _) rfl (Nat.le_of_ble_eq_true rfl) ?_
  show awp cx 10 _ (postF cx Tryz.f32 _) ⟨[(0, (AV.sl 2 (gcells cF (l)))), (1, (AV.lit (.string (n))))], []⟩
  refine awp_seq fun K0 hK0 => ?_
  refine awp_region rfl ?_
  refine o_as (nm .i64 (0)) rfl ?_
  refine aops_end ?_
  refine hK0 _ ?_
  refine awp_seq fun K1 hK1 => ?_
  refine awp_seq fun K2 hK2 => ?_
  refine awp_region rfl ?_
  refine o_mv (AV.sl 2 (gcells cF (l))) rfl ?_
  refine o_ct (c_list (l) (by assumption)) Gd.none Yc_tC34 rfl ?_
  refine o_notP (q := lstP (l)) Gd.none rfl ?_
  refine aops_end ?_
  refine hK2 _ ?_
  refine awp_condQ (q := ¬ (lstP (l))) rfl (fun h1 => ?_) (fun h1 => ?_)
  · refine awp_seq fun K3 hK3 => ?_
    refine awp_region rfl ?_
    refine o_as (nm .i64 (1)) rfl ?_
    refine aops_end ?_
    refine hK3 _ ?_
    refine awp_ret ?_
    refine post_ret ⟨[(nm .i64 (1))], And.intro (AV.le_refl _) (trivial), rfl, ?_⟩
    exact congrArg (nm .i64) (if_neg (by assumption))
  · refine awp_skip ?_
    refine hK1 _ ?_
    refine awp_seq fun K4 hK4 => ?_
    refine awp_region rfl ?_
    refine o_mv (AV.lit (.string (n))) rfl ?_
    refine o_ct (c_positive (n) (by first | assumption | decide | omega)) Gd.none Yc_tC57 rfl ?_
    refine o_as (nm .i64 (posE (n))) rfl ?_
    refine aops_end ?_
    refine hK4 _ ?_
    refine awp_ret ?_
    refine post_ret ⟨[(nm .i64 (posE (n)))], And.intro (AV.le_refl _) (trivial), rfl, ?_⟩
    exact congrArg (nm .i64) (if_pos (Decidable.not_not.1 (by assumption)))

theorem c_first (l : List Frc) (n : ByteArray) (hS : ∀ f ∈ l, f.num.size ≤ 9223372036854775807 ∧ f.den.size ≤ 9223372036854775807) (hl : lstP l) (hk : okS n = true) (hn : n.size ≤ 9223372036854775807) : ECalls cx 33 [(AV.sl 2 (gcells cF (l))), (AV.lit (.string (n)))] (.tup [.lit (.int .i64 (fstI l (numS n))), .lit (.string (fstS l (numS n)))]) := by
  refine ecalls_of_awp Tryz.func33 (c := _) rfl (Nat.le_of_ble_eq_true rfl) ?_
  show awp cx 31 _ (postF cx Tryz.f33 _) ⟨[(0, (AV.sl 2 (gcells cF (l)))), (1, (AV.lit (.string (n))))], []⟩
  refine awp_seq fun K0 hK0 => ?_
  refine awp_region rfl ?_
  refine o_as (nm .i64 (0)) rfl ?_
  refine o_as (AV.lit (.string (({data := #[]} : ByteArray)))) rfl ?_
  refine aops_end ?_
  refine hK0 _ ?_
  refine awp_seq fun K1 hK1 => ?_
  refine awp_seq fun K2 hK2 => ?_
  refine awp_region rfl ?_
  refine o_mv (AV.sl 2 (gcells cF (l))) rfl ?_
  refine g_len cF (l) cF_len Gd.none Yc_tU34 rfl ?_
  refine o_mv (nm .i64 (0)) rfl ?_
  refine aops_end ?_
  refine hK2 _ ?_
  refine awp_block ?_
  refine awp_loopR (fun κ σ => ∃ (i : Nat), (i ≤ l.length) ∧ (∀ k, k < i → ¬ hitP (numS n) (l.getD k default)) ∧ (l.length - i) = κ ∧ σ = ⟨[(1, (AV.lit (.string (n)))), (11, (AV.sl 2 (gcells cF (l)))), (12, (nm .i64 (l.length))), (13, (nm .i64 (i)))], []⟩) ⟨_, _, ⟨0, (by omega), (fun k hk => by omega), rfl, rfl⟩, ?wk0⟩ ?rd0
  case wk0 =>
    exact Wk.sub (And.intro rfl (And.intro rfl (And.intro (by first | rfl | exact congrArg (nm _) (by omega) | exact nm_int (by omega) | exact nm_int (by simp [IntKind.wrap, IntKind.bits, IntKind.signed]; omega)) (And.intro (by first | rfl | exact congrArg (nm _) (by omega) | exact nm_int (by omega) | exact nm_int (by simp [IntKind.wrap, IntKind.bits, IntKind.signed]; omega)) (trivial))))) (trivial)
  rintro κ _ ⟨i, hi, hb, rfl, rfl⟩
  have hl1 := hl.1
  refine awp_seq fun K3 hK3 => ?_
  refine awp_region rfl ?_
  refine n_lss (i) (l.length) Gd.none rfl rfl ?_
  refine aops_end ?_
  refine hK3 _ ?_
  refine awp_seq fun K4 hK4 => ?_
  refine awp_condQ (q := (i) < (l.length)) rfl (fun h1 => ?_) (fun h1 => ?_)
  · have hq := hit_str hl hk h1
    have hSi := hS _ (gdm (d := default) h1)
    have hSd := hSi.2
    refine awp_skip ?_
    refine hK4 _ ?_
    refine awp_seq fun K5 hK5 => ?_
    refine awp_block ?_
    refine awp_seq fun K6 hK6 => ?_
    refine awp_region rfl ?_
    refine o_mv (nm .i64 (i)) rfl ?_
    refine g_index cF (l) (i) cF_len rfl Gd.none Yc_tE34 rfl rfl (by omega) ?_
    refine g_loadA cF (l) (i) default cF_len Gd.none Yc_tA59 rfl (by omega) ?_
    refine o_alloc 101 [(AV.lit (.string (({data := #[]} : ByteArray)))), (AV.lit (.string (({data := #[]} : ByteArray))))] Gd.none Yc_tO59 rfl rfl rfl ?_
    refine o_as (nm .i64 (i)) rfl ?_
    refine o_store [(101, (AO.var 59 [(AV.lit (.string ((((l).getD (i) default)).num))), (AV.lit (.string ((((l).getD (i) default)).den)))]))] Gd.none Yc_tZ59 rfl rfl rfl rfl rfl rfl ?_
    refine aops_end ?_
    refine hK6 _ ?_
    refine awp_seq fun K7 hK7 => ?_
    refine awp_region rfl ?_
    refine o_mv (AV.lit (.string (n))) rfl ?_
    refine o_fieldRef 1 Gd.none Yc_tF59_1 rfl rfl ?_
    refine o_loadS (AV.lit (.string ((((l).getD (i) default)).den))) Gd.none Yc_tS9 rfl rfl rfl ?_
    refine o_ct (c_nDivide (n) ((((l).getD (i) default)).den) (by first | assumption | decide | omega) (by first | assumption | decide | omega)) Gd.none Yc_tC36 rfl ?_
    refine o_mv (AV.tup [(AV.lit (.string (divQ (n) ((((l).getD (i) default)).den)))), (AV.lit (.string (divR (n) ((((l).getD (i) default)).den)))), (nm .i64 (divE (n) ((((l).getD (i) default)).den)))]) rfl ?_
    refine o_extract (AV.lit (.string (divQ (n) ((((l).getD (i) default)).den)))) Gd.none rfl rfl ?_
    refine o_extract (AV.lit (.string (divR (n) ((((l).getD (i) default)).den)))) Gd.none rfl rfl ?_
    refine o_extract (nm .i64 (divE (n) ((((l).getD (i) default)).den))) Gd.none rfl rfl ?_
    refine o_as (AV.lit (.string (divQ (n) ((((l).getD (i) default)).den)))) rfl ?_
    refine o_as (AV.lit (.string (divR (n) ((((l).getD (i) default)).den)))) rfl ?_
    refine o_as (nm .i64 (divE (n) ((((l).getD (i) default)).den))) rfl ?_
    refine aops_end ?_
    refine hK7 _ ?_
    refine awp_seq fun K8 hK8 => ?_
    refine awp_region rfl ?_
    refine o_mv (AV.lit (.string (divR (n) ((((l).getD (i) default)).den)))) rfl ?_
    refine o_eqlS (a := (divR (n) ((((l).getD (i) default)).den))) (c := (({data := #[48]} : ByteArray))) Gd.none rfl rfl ?_
    refine aops_end ?_
    refine hK8 _ ?_
    refine awp_condQ (q := (divR (n) ((((l).getD (i) default)).den)).toList = (({data := #[48]} : ByteArray)).toList) rfl (fun h2 => ?_) (fun h2 => ?_)
    · have hx := fst_hit h1 (hq.2.1 h2) hb
      refine awp_seq fun K9 hK9 => ?_
      refine awp_region rfl ?_
      refine o_mv (nm .i64 (i)) rfl ?_
      refine o_mv (AV.lit (.string (divQ (n) ((((l).getD (i) default)).den)))) rfl ?_
      refine o_as (nm .i64 (i)) rfl ?_
      refine o_as (AV.lit (.string (divQ (n) ((((l).getD (i) default)).den)))) rfl ?_
      refine aops_end ?_
      refine hK9 _ ?_
      refine awp_ret ?_
      refine post_ret ⟨[(nm .i64 (i)), (AV.lit (.string (divQ (n) ((((l).getD (i) default)).den))))], And.intro (AV.le_refl _) (And.intro (AV.le_refl _) (trivial)), rfl, ?_⟩
      rw [hx.1, hx.2, hq.1]; rfl
    · replace h2 := fun e => h2 (hq.2.2 e)
      refine awp_skip ?_
      refine hK5 _ ?_
      refine awp_region rfl ?_
      refine n_add (i) (1) Gd.none rfl rfl (by simp only [topOf]; omega) ?_
      refine o_mv (nm .i64 ((i) + (1))) rfl ?_
      refine aops_end ?_
      refine ⟨_, _, ?lt, ⟨i + 1, (by omega), (fun k hk => by rcases Nat.lt_or_ge k i with e | e; exact hb k e; rw [show k = i by omega]; assumption), rfl, rfl⟩, ?wk⟩
      case lt => omega
      case wk => exact Wk.sub (And.intro rfl (And.intro rfl (And.intro rfl (And.intro (by first | rfl | exact congrArg (nm _) (by omega) | exact nm_int (by omega) | exact nm_int (by simp [IntKind.wrap, IntKind.bits, IntKind.signed]; omega)) (trivial))))) (trivial)
  · have hx := fst_none (by omega) hb
    refine awp_exit ?_
    refine hK1 _ ?_
    refine awp_seq fun K10 hK10 => ?_
    refine awp_region rfl ?_
    refine o_as (AV.lit (.int .i64 ((-1)))) rfl ?_
    refine o_as (AV.lit (.string (({data := #[]} : ByteArray)))) rfl ?_
    refine aops_end ?_
    refine hK10 _ ?_
    refine awp_ret ?_
    refine post_ret ⟨[(AV.lit (.int .i64 ((-1)))), (AV.lit (.string (({data := #[]} : ByteArray))))], And.intro (AV.le_refl _) (And.intro (AV.le_refl _) (trivial)), rfl, ?_⟩
    rw [hx.1, hx.2]; rfl

theorem c_First (l : List Frc) (n : ByteArray) (hS : ∀ f ∈ l, f.num.size ≤ 9223372036854775807 ∧ f.den.size ≤ 9223372036854775807) (hn : n.size ≤ 9223372036854775807) : ECalls cx 14 [(AV.sl 2 (gcells cF (l))), (AV.lit (.string (n)))] (.tup [.lit (.int .i64 (firI l n)), nm .i64 (firE l n)]) := by
  refine ecalls_of_awp Tryz.func14 (c := _) rfl (Nat.le_of_ble_eq_true rfl) ?_
  show awp cx 24 _ (postF cx Tryz.f14 _) ⟨[(0, (AV.sl 2 (gcells cF (l)))), (1, (AV.lit (.string (n))))], []⟩
  refine awp_seq fun K0 hK0 => ?_
  refine awp_region rfl ?_
  refine o_as (nm .i64 (0)) rfl ?_
  refine o_as (nm .i64 (0)) rfl ?_
  refine aops_end ?_
  refine hK0 _ ?_
  refine awp_seq fun K1 hK1 => ?_
  refine awp_seq fun K2 hK2 => ?_
  refine awp_region rfl ?_
  refine o_mv (AV.sl 2 (gcells cF (l))) rfl ?_
  refine o_mv (AV.lit (.string (n))) rfl ?_
  refine o_ct (c_asks (l) (n) (by assumption) (by first | assumption | decide | omega)) Gd.none Yc_tC32 rfl ?_
  refine o_as (nm .i64 (askE (l) (n))) rfl ?_
  refine aops_end ?_
  refine hK2 _ ?_
  refine awp_seq fun K3 hK3 => ?_
  refine awp_region rfl ?_
  refine o_mv (nm .i64 (askE (l) (n))) rfl ?_
  refine n_neq (askE (l) (n)) (0) Gd.none rfl rfl ?_
  refine aops_end ?_
  refine hK3 _ ?_
  refine awp_condQ (q := (askE (l) (n)) ≠ (0)) rfl (fun h1 => ?_) (fun h1 => ?_)
  · refine awp_seq fun K4 hK4 => ?_
    refine awp_region rfl ?_
    refine o_mv (nm .i64 (askE (l) (n))) rfl ?_
    refine o_as (nm .i64 (0)) rfl ?_
    refine o_as (nm .i64 (askE (l) (n))) rfl ?_
    refine aops_end ?_
    refine hK4 _ ?_
    refine awp_ret ?_
    refine post_ret ⟨[(nm .i64 (0)), (nm .i64 (askE (l) (n)))], And.intro (AV.le_refl _) (And.intro (AV.le_refl _) (trivial)), rfl, ?_⟩
    rw [firI, firE, if_neg (fun e => h1 e.1), if_neg h1]; rfl
  · have hA := askE_0.1 (Decidable.not_not.1 h1)
    have hA1 := hA.1
    have hA2 := hA.2.1
    have hA0 := Decidable.not_not.1 h1
    refine awp_skip ?_
    refine hK1 _ ?_
    refine awp_seq fun K5 hK5 => ?_
    refine awp_region rfl ?_
    refine o_mv (AV.sl 2 (gcells cF (l))) rfl ?_
    refine o_mv (AV.lit (.string (n))) rfl ?_
    refine o_ct (c_first (l) (n) (by assumption) (by assumption) (by assumption) (by first | assumption | decide | omega)) Gd.none Yc_tC33 rfl ?_
    refine o_mv (AV.tup [(AV.lit (.int .i64 (fstI (l) (numS (n))))), (AV.lit (.string (fstS (l) (numS (n)))))]) rfl ?_
    refine o_extract (AV.lit (.int .i64 (fstI (l) (numS (n))))) Gd.none rfl rfl ?_
    refine o_extract (AV.lit (.string (fstS (l) (numS (n))))) Gd.none rfl rfl ?_
    refine o_as (AV.lit (.int .i64 (fstI (l) (numS (n))))) rfl ?_
    refine o_as (AV.lit (.string (fstS (l) (numS (n))))) rfl ?_
    refine aops_end ?_
    refine hK5 _ ?_
    refine awp_seq fun K6 hK6 => ?_
    refine awp_seq fun K7 hK7 => ?_
    refine awp_region rfl ?_
    refine o_mv (AV.lit (.int .i64 (fstI (l) (numS (n))))) rfl ?_
    refine o_lss (a := (fstI (l) (numS (n)))) (c := (((0 : Nat) : Int))) Gd.none rfl rfl ?_
    refine aops_end ?_
    refine hK7 _ ?_
    refine awp_condQ (q := (fstI (l) (numS (n))) < (((0 : Nat) : Int))) rfl (fun h2 => ?_) (fun h2 => ?_)
    · refine awp_seq fun K8 hK8 => ?_
      refine awp_region rfl ?_
      refine o_as (nm .i64 (0)) rfl ?_
      refine o_as (nm .i64 (4)) rfl ?_
      refine aops_end ?_
      refine hK8 _ ?_
      refine awp_ret ?_
      refine post_ret ⟨[(nm .i64 (0)), (nm .i64 (4))], And.intro (AV.le_refl _) (And.intro (AV.le_refl _) (trivial)), rfl, ?_⟩
      rw [firI, firE, if_neg (fun e => absurd e.2 (by omega)), if_pos hA0, if_neg (by omega)]; rfl
    · refine awp_skip ?_
      refine hK6 _ ?_
      refine awp_seq fun K9 hK9 => ?_
      refine awp_region rfl ?_
      refine o_mv (AV.lit (.int .i64 (fstI (l) (numS (n))))) rfl ?_
      refine o_as (AV.lit (.int .i64 (fstI (l) (numS (n))))) rfl ?_
      refine o_as (nm .i64 (0)) rfl ?_
      refine aops_end ?_
      refine hK9 _ ?_
      refine awp_ret ?_
      refine post_ret ⟨[(AV.lit (.int .i64 (fstI (l) (numS (n))))), (nm .i64 (0))], And.intro (AV.le_refl _) (And.intro (AV.le_refl _) (trivial)), rfl, ?_⟩
      rw [firI, firE, if_pos ⟨hA0, by omega⟩, if_pos hA0, if_pos (by omega)]; rfl

end Go.Proofs.YtpamhblonmpniaaGreatDoor

set_option linter.unusedVariables false
set_option linter.unusedSimpArgs false
namespace Go.Proofs.YtpamhblonmpniaaGreatDoor
open Go Go.Ab Go.Mth
theorem Yd_tC32 : callable cx.P 32 = true := by kernel_rfl
theorem Yd_tC33 : callable cx.P 33 = true := by kernel_rfl
theorem Yd_tE34 : tyElem cx.P 34 = some (59, 2, 32) := by kernel_rfl
theorem Yd_tF59_0 : tyField cx.P 59 0 = some (0, 9) := by kernel_rfl
theorem Yd_tS9 : tySc cx.P 9 = true := by kernel_rfl
theorem Yd_tC29 : callable cx.P 29 = true := by kernel_rfl
theorem Yd_tC34 : callable cx.P 34 = true := by kernel_rfl
theorem Yd_tU34 : cx.P.underlying 34 = some (.slice 59) := by kernel_rfl
theorem Yd_tA59 : tyAgg cx.P 59 = some 2 := by kernel_rfl
theorem Yd_tO59 : tyZero cx.P 59 = some [(Go.Value.string {data := #[]}), (Go.Value.string {data := #[]})] := by kernel_rfl
theorem Yd_tZ59 : tySize cx.P 59 = some 2 := by kernel_rfl
theorem Yd_tF59_1 : tyField cx.P 59 1 = some (1, 9) := by kernel_rfl
theorem Yd_tC35 : callable cx.P 35 = true := by kernel_rfl
theorem Yd_tC36 : callable cx.P 36 = true := by kernel_rfl
theorem c_Play (l : List Frc) (n : ByteArray) (k : Int) (hS : ∀ f ∈ l, f.num.size ≤ 9223372036854775807 ∧ f.den.size ≤ 9223372036854775807) (hn : n.size ≤ 9223372036854775807) : ECalls cx 13 [(AV.sl 2 (gcells cF (l))), (AV.lit (.string (n))), (AV.lit (.int .i64 (k)))] (.tup [.lit (.string (plyA l n k).1), nm .i64 (plyA l n k).2.1, nm .i64 (plyA l n k).2.2]) := by
  refine ecalls_of_awp Tryz.func13 (c := _) rfl (Nat.le_of_ble_eq_true rfl) ?_
  show awp cx 58 _ (postF cx Tryz.f13 _) ⟨[(0, (AV.sl 2 (gcells cF (l)))), (1, (AV.lit (.string (n)))), (2, (AV.lit (.int .i64 (k))))], []⟩
  refine awp_seq fun K0 hK0 => ?_
  refine awp_region rfl ?_
  refine o_as (AV.lit (.string (({data := #[]} : ByteArray)))) rfl ?_
  refine o_as (nm .i64 (0)) rfl ?_
  refine o_as (nm .i64 (0)) rfl ?_
  refine aops_end ?_
  refine hK0 _ ?_
  refine awp_seq fun K1 hK1 => ?_
  refine awp_seq fun K2 hK2 => ?_
  refine awp_region rfl ?_
  refine o_mv (AV.sl 2 (gcells cF (l))) rfl ?_
  refine o_mv (AV.lit (.string (n))) rfl ?_
  refine o_ct (c_asks (l) (n) (by assumption) (by first | assumption | decide | omega)) Gd.none Yd_tC32 rfl ?_
  refine o_as (nm .i64 (askE (l) (n))) rfl ?_
  refine aops_end ?_
  refine hK2 _ ?_
  refine awp_seq fun K3 hK3 => ?_
  refine awp_region rfl ?_
  refine o_mv (nm .i64 (askE (l) (n))) rfl ?_
  refine n_neq (askE (l) (n)) (0) Gd.none rfl rfl ?_
  refine aops_end ?_
  refine hK3 _ ?_
  refine awp_condQ (q := (askE (l) (n)) ≠ (0)) rfl (fun h1 => ?_) (fun h1 => ?_)
  · refine awp_seq fun K4 hK4 => ?_
    refine awp_region rfl ?_
    refine o_mv (nm .i64 (askE (l) (n))) rfl ?_
    refine o_as (AV.lit (.string (({data := #[]} : ByteArray)))) rfl ?_
    refine o_as (nm .i64 (0)) rfl ?_
    refine o_as (nm .i64 (askE (l) (n))) rfl ?_
    refine aops_end ?_
    refine hK4 _ ?_
    refine awp_ret ?_
    refine post_ret ⟨[(AV.lit (.string (({data := #[]} : ByteArray)))), (nm .i64 (0)), (nm .i64 (askE (l) (n)))], And.intro (AV.le_refl _) (And.intro (AV.le_refl _) (And.intro (AV.le_refl _) (trivial))), rfl, ?_⟩
    first | (rw [plyA_1 h1]; rfl) | (rw [plyA_2 hA0 (by omega)]; rfl) | (rw [hp, ply_stop (by omega) (by omega), txt_numS (okS_iff.1 ho)]; rfl) | (rw [hp, ply_big (by omega) (by omega) (tld_big h6), tld_3 (tld_big h6)]; rfl) | (rw [hp, show k.toNat - i = 0 by omega, show i = k.toNat by omega]; show AV.tup [.lit (.string (txt (numS s))), _, _] = _; rw [txt_numS (okS_iff.1 ho)]; rfl)
  · have hA0 := Decidable.not_not.1 h1
    have hA := askE_0.1 hA0
    have hA1 := hA.1
    have hA2 := hA.2.1
    refine awp_skip ?_
    refine hK1 _ ?_
    refine awp_seq fun K5 hK5 => ?_
    refine awp_seq fun K6 hK6 => ?_
    refine awp_region rfl ?_
    refine o_mv (AV.lit (.int .i64 (k))) rfl ?_
    refine o_lss (a := (k)) (c := (((0 : Nat) : Int))) Gd.none rfl rfl ?_
    refine o_mv (bp ((k) < (((0 : Nat) : Int)))) rfl ?_
    refine o_splitP (q := (k) < (((0 : Nat) : Int))) 23 rfl (fun h2 => ?_) (fun h2 => ?_)
    · refine o_skip rfl rfl (decide_eq_true h2) ?_
      refine o_skip rfl rfl (decide_eq_true h2) ?_
      refine o_pickT (AV.lit (.bool true)) Gd.none rfl (decide_eq_true h2) rfl ?_
      refine aops_end ?_
      refine hK6 _ ?_
      refine awp_condB (b := true) rfl (fun _ => ?_) (fun hh => absurd (hh.symm.trans rfl) (by decide))
      refine awp_seq fun K7 hK7 => ?_
      refine awp_region rfl ?_
      refine o_as (AV.lit (.string (({data := #[]} : ByteArray)))) rfl ?_
      refine o_as (nm .i64 (0)) rfl ?_
      refine o_as (nm .i64 (2)) rfl ?_
      refine aops_end ?_
      refine hK7 _ ?_
      refine awp_ret ?_
      refine post_ret ⟨[(AV.lit (.string (({data := #[]} : ByteArray)))), (nm .i64 (0)), (nm .i64 (2))], And.intro (AV.le_refl _) (And.intro (AV.le_refl _) (And.intro (AV.le_refl _) (trivial))), rfl, ?_⟩
      first | (rw [plyA_1 h1]; rfl) | (rw [plyA_2 hA0 (by omega)]; rfl) | (rw [hp, ply_stop (by omega) (by omega), txt_numS (okS_iff.1 ho)]; rfl) | (rw [hp, ply_big (by omega) (by omega) (tld_big h6), tld_3 (tld_big h6)]; rfl) | (rw [hp, show k.toNat - i = 0 by omega, show i = k.toNat by omega]; show AV.tup [.lit (.string (txt (numS s))), _, _] = _; rw [txt_numS (okS_iff.1 ho)]; rfl)
    · refine o_move (AV.lit (.int .i64 (k))) (Gd.yes rfl rfl (decide_eq_false h2)) rfl ?_
      refine o_gtr (a := (k)) (c := (((20000 : Nat) : Int))) (Gd.yes rfl rfl (decide_eq_false h2)) rfl rfl ?_
      refine o_pickF (bp ((((20000 : Nat) : Int)) < (k))) Gd.none rfl (decide_eq_false h2) rfl ?_
      refine aops_end ?_
      refine hK6 _ ?_
      refine awp_condQ (q := (((20000 : Nat) : Int)) < (k)) rfl (fun h3 => ?_) (fun h3 => ?_)
      · refine awp_seq fun K8 hK8 => ?_
        refine awp_region rfl ?_
        refine o_as (AV.lit (.string (({data := #[]} : ByteArray)))) rfl ?_
        refine o_as (nm .i64 (0)) rfl ?_
        refine o_as (nm .i64 (2)) rfl ?_
        refine aops_end ?_
        refine hK8 _ ?_
        refine awp_ret ?_
        refine post_ret ⟨[(AV.lit (.string (({data := #[]} : ByteArray)))), (nm .i64 (0)), (nm .i64 (2))], And.intro (AV.le_refl _) (And.intro (AV.le_refl _) (And.intro (AV.le_refl _) (trivial))), rfl, ?_⟩
        first | (rw [plyA_1 h1]; rfl) | (rw [plyA_2 hA0 (by omega)]; rfl) | (rw [hp, ply_stop (by omega) (by omega), txt_numS (okS_iff.1 ho)]; rfl) | (rw [hp, ply_big (by omega) (by omega) (tld_big h6), tld_3 (tld_big h6)]; rfl) | (rw [hp, show k.toNat - i = 0 by omega, show i = k.toNat by omega]; show AV.tup [.lit (.string (txt (numS s))), _, _] = _; rw [txt_numS (okS_iff.1 ho)]; rfl)
      · refine awp_skip ?_
        refine hK5 _ ?_
        refine awp_seq fun K9 hK9 => ?_
        refine awp_seq fun K10 hK10 => ?_
        refine awp_region rfl ?_
        refine o_mv (AV.lit (.int .i64 (k))) rfl ?_
        refine n_as (v' := (nm .i64 (k.toNat))) (nm_int (by omega)) ?_
        refine o_mv (nm .i64 (0)) rfl ?_
        refine aops_end ?_
        refine hK10 _ ?_
        refine awp_block ?_
        refine awp_loopR (fun κ σ => ∃ (i : Nat), ∃ (s : ByteArray), (i ≤ k.toNat) ∧ (plyA l n k = ply l (k.toNat - i) (numS s) i) ∧ (okS s = true) ∧ (0 < numS s) ∧ (s.size ≤ 9223372036854775807) ∧ (k.toNat - i) = κ ∧ σ = ⟨[(0, (AV.sl 2 (gcells cF (l)))), (1, (AV.lit (.string (s)))), (2, (AV.lit (.int .i64 (k)))), (27, (nm .i64 (k.toNat))), (28, (nm .i64 (i)))], []⟩) ⟨_, _, ⟨0, n, (by omega), (plyA_0 hA0 (by omega)), hA.2.1, hA.2.2, hn, rfl, rfl⟩, ?wk0⟩ ?rd0
        case wk0 =>
          exact Wk.sub (And.intro rfl (And.intro (by first | rfl | (simp)) (And.intro rfl (And.intro rfl (And.intro (by first | rfl | exact congrArg (nm _) (by omega) | exact nm_int (by omega) | exact nm_int (by simp [IntKind.wrap, IntKind.bits, IntKind.signed]; omega)) (trivial)))))) (trivial)
        rintro κ _ ⟨i, s, hi, hp, ho, hz, hs, rfl, rfl⟩
        refine awp_seq fun K11 hK11 => ?_
        refine awp_region rfl ?_
        refine n_lss (i) (k.toNat) Gd.none rfl rfl ?_
        refine aops_end ?_
        refine hK11 _ ?_
        refine awp_seq fun K12 hK12 => ?_
        refine awp_condQ (q := (i) < (k.toNat)) rfl (fun h4 => ?_) (fun h4 => ?_)
        · refine awp_skip ?_
          refine hK12 _ ?_
          refine awp_seq fun K13 hK13 => ?_
          refine awp_block ?_
          refine awp_seq fun K14 hK14 => ?_
          refine awp_region rfl ?_
          refine o_mv (nm .i64 (i)) rfl ?_
          refine o_as (nm .i64 (i)) rfl ?_
          refine aops_end ?_
          refine hK14 _ ?_
          refine awp_seq fun K15 hK15 => ?_
          refine awp_region rfl ?_
          refine o_mv (AV.sl 2 (gcells cF (l))) rfl ?_
          refine o_mv (AV.lit (.string (s))) rfl ?_
          refine o_ct (c_first (l) (s) (by assumption) (by assumption) (by assumption) (by first | assumption | decide | omega)) Gd.none Yd_tC33 rfl ?_
          refine o_mv (AV.tup [(AV.lit (.int .i64 (fstI (l) (numS (s))))), (AV.lit (.string (fstS (l) (numS (s)))))]) rfl ?_
          refine o_extract (AV.lit (.int .i64 (fstI (l) (numS (s))))) Gd.none rfl rfl ?_
          refine o_extract (AV.lit (.string (fstS (l) (numS (s))))) Gd.none rfl rfl ?_
          refine o_as (AV.lit (.int .i64 (fstI (l) (numS (s))))) rfl ?_
          refine o_as (AV.lit (.string (fstS (l) (numS (s))))) rfl ?_
          refine aops_end ?_
          refine hK15 _ ?_
          refine awp_seq fun K16 hK16 => ?_
          refine awp_seq fun K17 hK17 => ?_
          refine awp_region rfl ?_
          refine o_mv (AV.lit (.int .i64 (fstI (l) (numS (s))))) rfl ?_
          refine o_lss (a := (fstI (l) (numS (s)))) (c := (((0 : Nat) : Int))) Gd.none rfl rfl ?_
          refine aops_end ?_
          refine hK17 _ ?_
          refine awp_condQ (q := (fstI (l) (numS (s))) < (((0 : Nat) : Int))) rfl (fun h5 => ?_) (fun h5 => ?_)
          · refine awp_seq fun K18 hK18 => ?_
            refine awp_region rfl ?_
            refine o_mv (AV.lit (.string (s))) rfl ?_
            refine o_mv (nm .i64 (i)) rfl ?_
            refine o_as (AV.lit (.string (s))) rfl ?_
            refine o_as (nm .i64 (i)) rfl ?_
            refine o_as (nm .i64 (0)) rfl ?_
            refine aops_end ?_
            refine hK18 _ ?_
            refine awp_ret ?_
            refine post_ret ⟨[(AV.lit (.string (s))), (nm .i64 (i)), (nm .i64 (0))], And.intro (AV.le_refl _) (And.intro (AV.le_refl _) (And.intro (AV.le_refl _) (trivial))), rfl, ?_⟩
            first | (rw [plyA_1 h1]; rfl) | (rw [plyA_2 hA0 (by omega)]; rfl) | (rw [hp, ply_stop (by omega) (by omega), txt_numS (okS_iff.1 ho)]; rfl) | (rw [hp, ply_big (by omega) (by omega) (tld_big h6), tld_3 (tld_big h6)]; rfl) | (rw [hp, show k.toNat - i = 0 by omega, show i = k.toNat by omega]; show AV.tup [.lit (.string (txt (numS s))), _, _] = _; rw [txt_numS (okS_iff.1 ho)]; rfl)
          · have hf := fst_str hA1 (show 0 ≤ (fstI l (numS s)) by omega) hz (fit_numS (okS_iff.1 ho))
            have hd := fstI_bd (l := l) (z := numS s) (by omega)
            have hd1 := hd.1
            have hSi := (hS _ (gdm (d := default) hd1)).1
            have hr := (hA1.2 _ (gdm (d := default) hd1)).1
            have qs := txt_sz2 hf.2.1
            have hm := mul_str (a := txt (numS s / numS (l.getD (fstI l (numS s)).toNat default).den)) (b := (l.getD (fstI l (numS s)).toNat default).num) ⟨okS_iff.2 (okS_txt hf.2.1), hr.1⟩
            refine awp_skip ?_
            refine hK16 _ ?_
            refine awp_seq fun K19 hK19 => ?_
            refine awp_region rfl ?_
            refine o_mv (AV.lit (.string (fstS (l) (numS (s))))) rfl ?_
            refine n_as (v' := (AV.lit (.string (txt (numS s / numS (l.getD (fstI l (numS s)).toNat default).den))))) (by exact str_as2 hf.1) ?_
            refine o_mv (AV.sl 2 (gcells cF (l))) rfl ?_
            refine o_mv (AV.lit (.int .i64 (fstI (l) (numS (s))))) rfl ?_
            refine n_as (v' := (nm .i64 ((fstI l (numS s)).toNat))) (nm_int (by omega)) ?_
            refine g_index cF (l) ((fstI l (numS s)).toNat) cF_len rfl Gd.none Yd_tE34 rfl rfl (by omega) ?_
            refine g_field cF (l) ((fstI l (numS s)).toNat) cF_len Gd.none Yd_tF59_0 rfl (by omega) rfl ?_
            refine g_loadS cF (l) ((fstI l (numS s)).toNat) default (AV.lit (.string ((((l).getD ((fstI l (numS s)).toNat) default)).num))) cF_len Gd.none Yd_tS9 rfl (by omega) rfl ?_
            refine o_ct (c_nMul (txt (numS s / numS (l.getD (fstI l (numS s)).toNat default).den)) ((((l).getD ((fstI l (numS s)).toNat) default)).num) (by first | assumption | decide | omega) (by first | assumption | decide | omega)) Gd.none Yd_tC29 rfl ?_
            refine o_mv (AV.tup [(AV.lit (.string ((if okS (txt (numS s / numS (l.getD (fstI l (numS s)).toNat default).den)) && okS ((((l).getD ((fstI l (numS s)).toNat) default)).num) then (toldS (numS (txt (numS s / numS (l.getD (fstI l (numS s)).toNat default).den)) * numS ((((l).getD ((fstI l (numS s)).toNat) default)).num))) else (({ data := #[] } : ByteArray)))))), (nm .i64 ((if okS (txt (numS s / numS (l.getD (fstI l (numS s)).toNat default).den)) && okS ((((l).getD ((fstI l (numS s)).toNat) default)).num) then (toldE (numS (txt (numS s / numS (l.getD (fstI l (numS s)).toNat default).den)) * numS ((((l).getD ((fstI l (numS s)).toNat) default)).num))) else (1))))]) rfl ?_
            refine o_extract (AV.lit (.string ((if okS (txt (numS s / numS (l.getD (fstI l (numS s)).toNat default).den)) && okS ((((l).getD ((fstI l (numS s)).toNat) default)).num) then (toldS (numS (txt (numS s / numS (l.getD (fstI l (numS s)).toNat default).den)) * numS ((((l).getD ((fstI l (numS s)).toNat) default)).num))) else (({ data := #[] } : ByteArray)))))) Gd.none rfl rfl ?_
            refine n_as (v' := (AV.lit (.string (toldS (nxF l (numS s)))))) (by exact str_as2 (hm.1.trans (by rw [numS_txt]; rfl))) ?_
            refine o_extract (nm .i64 ((if okS (txt (numS s / numS (l.getD (fstI l (numS s)).toNat default).den)) && okS ((((l).getD ((fstI l (numS s)).toNat) default)).num) then (toldE (numS (txt (numS s / numS (l.getD (fstI l (numS s)).toNat default).den)) * numS ((((l).getD ((fstI l (numS s)).toNat) default)).num))) else (1)))) Gd.none rfl rfl ?_
            refine n_as (v' := (nm .i64 (toldE (nxF l (numS s))))) (by exact congrArg (nm _) (hm.2.trans (by rw [numS_txt]; rfl))) ?_
            refine o_as (AV.lit (.string (toldS (nxF l (numS s))))) rfl ?_
            refine o_as (nm .i64 (toldE (nxF l (numS s)))) rfl ?_
            refine aops_end ?_
            refine hK19 _ ?_
            refine awp_seq fun K20 hK20 => ?_
            refine awp_seq fun K21 hK21 => ?_
            refine awp_region rfl ?_
            refine o_mv (nm .i64 (toldE (nxF l (numS s)))) rfl ?_
            refine n_neq (toldE (nxF l (numS s))) (0) Gd.none rfl rfl ?_
            refine aops_end ?_
            refine hK21 _ ?_
            refine awp_condQ (q := (toldE (nxF l (numS s))) ≠ (0)) rfl (fun h6 => ?_) (fun h6 => ?_)
            · refine awp_seq fun K22 hK22 => ?_
              refine awp_region rfl ?_
              refine o_mv (nm .i64 (toldE (nxF l (numS s)))) rfl ?_
              refine o_as (AV.lit (.string (({data := #[]} : ByteArray)))) rfl ?_
              refine o_as (nm .i64 (0)) rfl ?_
              refine o_as (nm .i64 (toldE (nxF l (numS s)))) rfl ?_
              refine aops_end ?_
              refine hK22 _ ?_
              refine awp_ret ?_
              refine post_ret ⟨[(AV.lit (.string (({data := #[]} : ByteArray)))), (nm .i64 (0)), (nm .i64 (toldE (nxF l (numS s))))], And.intro (AV.le_refl _) (And.intro (AV.le_refl _) (And.intro (AV.le_refl _) (trivial))), rfl, ?_⟩
              first | (rw [plyA_1 h1]; rfl) | (rw [plyA_2 hA0 (by omega)]; rfl) | (rw [hp, ply_stop (by omega) (by omega), txt_numS (okS_iff.1 ho)]; rfl) | (rw [hp, ply_big (by omega) (by omega) (tld_big h6), tld_3 (tld_big h6)]; rfl) | (rw [hp, show k.toNat - i = 0 by omega, show i = k.toNat by omega]; show AV.tup [.lit (.string (txt (numS s))), _, _] = _; rw [txt_numS (okS_iff.1 ho)]; rfl)
            · have hF := tld_ok h6
              obtain ⟨w1, w2⟩ := told_fit hF
              refine awp_skip ?_
              refine hK20 _ ?_
              refine awp_region rfl ?_
              refine o_mv (AV.lit (.string (toldS (nxF l (numS s))))) rfl ?_
              refine o_as (AV.lit (.string (toldS (nxF l (numS s))))) rfl ?_
              refine aops_end ?_
              refine hK13 _ ?_
              refine awp_region rfl ?_
              refine n_add (i) (1) Gd.none rfl rfl (by simp only [topOf]; omega) ?_
              refine o_mv (nm .i64 ((i) + (1))) rfl ?_
              refine aops_end ?_
              refine ⟨_, _, ?lt, ⟨i + 1, toldS (nxF l (numS s)), (by omega), (by rw [hp, ply_next (by omega) (by omega) hF, w1, numS_txt]), (by rw [w1]; exact okS_iff.2 (okS_txt hF)), (by rw [w1, numS_txt]; exact Int.mul_pos hf.2.2 hr.2), (by rw [w1]; exact txt_sz2 hF), rfl, rfl⟩, ?wk⟩
              case lt => omega
              case wk => exact Wk.sub (And.intro rfl (And.intro (by first | rfl | (simp)) (And.intro rfl (And.intro rfl (And.intro (by first | rfl | exact congrArg (nm _) (by omega) | exact nm_int (by omega) | exact nm_int (by simp [IntKind.wrap, IntKind.bits, IntKind.signed]; omega)) (trivial)))))) (trivial)
        · refine awp_exit ?_
          refine hK9 _ ?_
          refine awp_seq fun K23 hK23 => ?_
          refine awp_region rfl ?_
          refine o_mv (AV.lit (.string (s))) rfl ?_
          refine o_mv (AV.lit (.int .i64 (k))) rfl ?_
          refine n_as (v' := (nm .i64 (k.toNat))) (nm_int (by omega)) ?_
          refine o_as (AV.lit (.string (s))) rfl ?_
          refine o_as (nm .i64 (k.toNat)) rfl ?_
          refine o_as (nm .i64 (0)) rfl ?_
          refine aops_end ?_
          refine hK23 _ ?_
          refine awp_ret ?_
          refine post_ret ⟨[(AV.lit (.string (s))), (nm .i64 (k.toNat)), (nm .i64 (0))], And.intro (AV.le_refl _) (And.intro (AV.le_refl _) (And.intro (AV.le_refl _) (trivial))), rfl, ?_⟩
          first | (rw [plyA_1 h1]; rfl) | (rw [plyA_2 hA0 (by omega)]; rfl) | (rw [hp, ply_stop (by omega) (by omega), txt_numS (okS_iff.1 ho)]; rfl) | (rw [hp, ply_big (by omega) (by omega) (tld_big h6), tld_3 (tld_big h6)]; rfl) | (rw [hp, show k.toNat - i = 0 by omega, show i = k.toNat by omega]; show AV.tup [.lit (.string (txt (numS s))), _, _] = _; rw [txt_numS (okS_iff.1 ho)]; rfl)

theorem c_Common (l : List Frc) (hS : ∀ f ∈ l, f.num.size ≤ 9223372036854775807 ∧ f.den.size ≤ 9223372036854775807) : ECalls cx 15 [(AV.sl 2 (gcells cF (l)))] (.tup [.lit (.string (comA l).1), nm .i64 (comA l).2]) := by
  refine ecalls_of_awp Tryz.func15 (c := _) rfl (Nat.le_of_ble_eq_true rfl) ?_
  show awp cx 50 _ (postF cx Tryz.f15 _) ⟨[(0, (AV.sl 2 (gcells cF (l))))], []⟩
  refine awp_seq fun K0 hK0 => ?_
  refine awp_region rfl ?_
  refine o_as (AV.lit (.string (({data := #[]} : ByteArray)))) rfl ?_
  refine o_as (nm .i64 (0)) rfl ?_
  refine aops_end ?_
  refine hK0 _ ?_
  refine awp_seq fun K1 hK1 => ?_
  refine awp_seq fun K2 hK2 => ?_
  refine awp_region rfl ?_
  refine o_mv (AV.sl 2 (gcells cF (l))) rfl ?_
  refine o_ct (c_list (l) (by assumption)) Gd.none Yd_tC34 rfl ?_
  refine o_notP (q := lstP (l)) Gd.none rfl ?_
  refine aops_end ?_
  refine hK2 _ ?_
  refine awp_condQ (q := ¬ (lstP (l))) rfl (fun h1 => ?_) (fun h1 => ?_)
  · refine awp_seq fun K3 hK3 => ?_
    refine awp_region rfl ?_
    refine o_as (AV.lit (.string (({data := #[]} : ByteArray)))) rfl ?_
    refine o_as (nm .i64 (1)) rfl ?_
    refine aops_end ?_
    refine hK3 _ ?_
    refine awp_ret ?_
    refine post_ret ⟨[(AV.lit (.string (({data := #[]} : ByteArray)))), (nm .i64 (1))], And.intro (AV.le_refl _) (And.intro (AV.le_refl _) (trivial)), rfl, ?_⟩
    rw [show comA l = ({ data := #[] }, 1) from if_neg (by assumption)]; rfl
  · have hA1 : lstP l := Decidable.not_not.1 h1
    have hl1 := hA1.1
    refine awp_skip ?_
    refine hK1 _ ?_
    refine awp_seq fun K4 hK4 => ?_
    refine awp_region rfl ?_
    refine o_as (AV.lit (.string (({data := #[49]} : ByteArray)))) rfl ?_
    refine aops_end ?_
    refine hK4 _ ?_
    refine awp_seq fun K5 hK5 => ?_
    refine awp_seq fun K6 hK6 => ?_
    refine awp_region rfl ?_
    refine o_mv (AV.sl 2 (gcells cF (l))) rfl ?_
    refine g_len cF (l) cF_len Gd.none Yd_tU34 rfl ?_
    refine o_mv (nm .i64 (0)) rfl ?_
    refine aops_end ?_
    refine hK6 _ ?_
    refine awp_block ?_
    refine awp_loopR (fun κ σ => ∃ (i : Nat), ∃ (s : ByteArray), (i ≤ l.length) ∧ (comA l = com (l.drop i) (numS s)) ∧ (okS s = true) ∧ (0 < numS s) ∧ (s.size ≤ 9223372036854775807) ∧ (l.length - i) = κ ∧ σ = ⟨[(4, (AV.lit (.string (s)))), (17, (AV.sl 2 (gcells cF (l)))), (18, (nm .i64 (l.length))), (19, (nm .i64 (i)))], []⟩) ⟨_, _, ⟨0, ⟨#[49]⟩, (by omega), (by rw [List.drop_zero, ← txt_one, numS_txt]; exact if_pos hA1), (ok_of_txt txt_one (by decide)).1, (by rw [(ok_of_txt txt_one (by decide)).2]; decide), (by decide), rfl, rfl⟩, ?wk0⟩ ?rd0
    case wk0 =>
      exact Wk.sub (And.intro (by first | rfl | (simp)) (And.intro rfl (And.intro (by first | rfl | exact congrArg (nm _) (by omega) | exact nm_int (by omega) | exact nm_int (by simp [IntKind.wrap, IntKind.bits, IntKind.signed]; omega)) (And.intro (by first | rfl | exact congrArg (nm _) (by omega) | exact nm_int (by omega) | exact nm_int (by simp [IntKind.wrap, IntKind.bits, IntKind.signed]; omega)) (trivial))))) (trivial)
    rintro κ _ ⟨i, s, hi, hp, ho, hz, hs, rfl, rfl⟩
    refine awp_seq fun K7 hK7 => ?_
    refine awp_region rfl ?_
    refine n_lss (i) (l.length) Gd.none rfl rfl ?_
    refine aops_end ?_
    refine hK7 _ ?_
    refine awp_seq fun K8 hK8 => ?_
    refine awp_condQ (q := (i) < (l.length)) rfl (fun h2 => ?_) (fun h2 => ?_)
    · have hSi := (hS _ (gdm (d := default) h2)).2
      have hr := (hA1.2 _ (gdm (d := default) h2)).2.1
      obtain ⟨g1, g2, g3, g4, g5⟩ := cm_gcd (a := s) (b := ((l).getD (i) default).den) ⟨ho, hr.1⟩ hz
      have gs := txt_sz2 g1
      have qs := txt_sz2 g4
      have hm := mul_str (a := txt (numS s / ((Int.gcd (numS s) (numS ((l).getD (i) default).den) : Nat) : Int))) (b := ((l).getD (i) default).den) ⟨okS_iff.2 (okS_txt g4), hr.1⟩
      refine awp_skip ?_
      refine hK8 _ ?_
      refine awp_seq fun K9 hK9 => ?_
      refine awp_block ?_
      refine awp_seq fun K10 hK10 => ?_
      refine awp_region rfl ?_
      refine g_index cF (l) (i) cF_len rfl Gd.none Yd_tE34 rfl rfl (by omega) ?_
      refine g_loadA cF (l) (i) default cF_len Gd.none Yd_tA59 rfl (by omega) ?_
      refine o_alloc 101 [(AV.lit (.string (({data := #[]} : ByteArray)))), (AV.lit (.string (({data := #[]} : ByteArray))))] Gd.none Yd_tO59 rfl rfl rfl ?_
      refine o_store [(101, (AO.var 59 [(AV.lit (.string ((((l).getD (i) default)).num))), (AV.lit (.string ((((l).getD (i) default)).den)))]))] Gd.none Yd_tZ59 rfl rfl rfl rfl rfl rfl ?_
      refine aops_end ?_
      refine hK10 _ ?_
      refine awp_seq fun K11 hK11 => ?_
      refine awp_region rfl ?_
      refine o_mv (AV.lit (.string (s))) rfl ?_
      refine o_fieldRef 1 Gd.none Yd_tF59_1 rfl rfl ?_
      refine o_loadS (AV.lit (.string ((((l).getD (i) default)).den))) Gd.none Yd_tS9 rfl rfl rfl ?_
      refine o_ct (c_nGcd (s) ((((l).getD (i) default)).den) (by first | assumption | decide | omega) (by first | assumption | decide | omega)) Gd.none Yd_tC35 rfl ?_
      refine o_mv (AV.tup [(AV.lit (.string ((if okS (s) && okS ((((l).getD (i) default)).den) then (toldS ((Int.gcd (numS (s)) (numS ((((l).getD (i) default)).den)) : Nat) : Int)) else (({ data := #[] } : ByteArray)))))), (nm .i64 ((if okS (s) && okS ((((l).getD (i) default)).den) then (toldE ((Int.gcd (numS (s)) (numS ((((l).getD (i) default)).den)) : Nat) : Int)) else (1))))]) rfl ?_
      refine o_extract (AV.lit (.string ((if okS (s) && okS ((((l).getD (i) default)).den) then (toldS ((Int.gcd (numS (s)) (numS ((((l).getD (i) default)).den)) : Nat) : Int)) else (({ data := #[] } : ByteArray)))))) Gd.none rfl rfl ?_
      refine n_as (v' := (AV.lit (.string (txt ((Int.gcd (numS s) (numS ((l).getD (i) default).den) : Nat) : Int))))) (by exact str_as2 (gcd_str ⟨ho, hr.1⟩)) ?_
      refine o_extract (nm .i64 ((if okS (s) && okS ((((l).getD (i) default)).den) then (toldE ((Int.gcd (numS (s)) (numS ((((l).getD (i) default)).den)) : Nat) : Int)) else (1)))) Gd.none rfl rfl ?_
      refine o_as (AV.lit (.string (txt ((Int.gcd (numS s) (numS ((l).getD (i) default).den) : Nat) : Int)))) rfl ?_
      refine o_as (nm .i64 ((if okS (s) && okS ((((l).getD (i) default)).den) then (toldE ((Int.gcd (numS (s)) (numS ((((l).getD (i) default)).den)) : Nat) : Int)) else (1)))) rfl ?_
      refine aops_end ?_
      refine hK11 _ ?_
      refine awp_seq fun K12 hK12 => ?_
      refine awp_region rfl ?_
      refine o_mv (AV.lit (.string (s))) rfl ?_
      refine o_mv (AV.lit (.string (txt ((Int.gcd (numS s) (numS ((l).getD (i) default).den) : Nat) : Int)))) rfl ?_
      refine o_ct (c_nDivide (s) (txt ((Int.gcd (numS s) (numS ((l).getD (i) default).den) : Nat) : Int)) (by first | assumption | decide | omega) (by first | assumption | decide | omega)) Gd.none Yd_tC36 rfl ?_
      refine o_mv (AV.tup [(AV.lit (.string (divQ (s) (txt ((Int.gcd (numS s) (numS ((l).getD (i) default).den) : Nat) : Int))))), (AV.lit (.string (divR (s) (txt ((Int.gcd (numS s) (numS ((l).getD (i) default).den) : Nat) : Int))))), (nm .i64 (divE (s) (txt ((Int.gcd (numS s) (numS ((l).getD (i) default).den) : Nat) : Int))))]) rfl ?_
      refine o_extract (AV.lit (.string (divQ (s) (txt ((Int.gcd (numS s) (numS ((l).getD (i) default).den) : Nat) : Int))))) Gd.none rfl rfl ?_
      refine n_as (v' := (AV.lit (.string (txt (numS s / ((Int.gcd (numS s) (numS ((l).getD (i) default).den) : Nat) : Int)))))) (by exact str_as2 g3) ?_
      refine o_extract (AV.lit (.string (divR (s) (txt ((Int.gcd (numS s) (numS ((l).getD (i) default).den) : Nat) : Int))))) Gd.none rfl rfl ?_
      refine o_extract (nm .i64 (divE (s) (txt ((Int.gcd (numS s) (numS ((l).getD (i) default).den) : Nat) : Int)))) Gd.none rfl rfl ?_
      refine o_as (AV.lit (.string (txt (numS s / ((Int.gcd (numS s) (numS ((l).getD (i) default).den) : Nat) : Int))))) rfl ?_
      refine o_as (AV.lit (.string (divR (s) (txt ((Int.gcd (numS s) (numS ((l).getD (i) default).den) : Nat) : Int))))) rfl ?_
      refine o_as (nm .i64 (divE (s) (txt ((Int.gcd (numS s) (numS ((l).getD (i) default).den) : Nat) : Int)))) rfl ?_
      refine aops_end ?_
      refine hK12 _ ?_
      refine awp_seq fun K13 hK13 => ?_
      refine awp_region rfl ?_
      refine o_mv (AV.lit (.string (txt (numS s / ((Int.gcd (numS s) (numS ((l).getD (i) default).den) : Nat) : Int))))) rfl ?_
      refine o_fieldRef 1 Gd.none Yd_tF59_1 rfl rfl ?_
      refine o_loadS (AV.lit (.string ((((l).getD (i) default)).den))) Gd.none Yd_tS9 rfl rfl rfl ?_
      refine o_ct (c_nMul (txt (numS s / ((Int.gcd (numS s) (numS ((l).getD (i) default).den) : Nat) : Int))) ((((l).getD (i) default)).den) (by first | assumption | decide | omega) (by first | assumption | decide | omega)) Gd.none Yd_tC29 rfl ?_
      refine o_mv (AV.tup [(AV.lit (.string ((if okS (txt (numS s / ((Int.gcd (numS s) (numS ((l).getD (i) default).den) : Nat) : Int))) && okS ((((l).getD (i) default)).den) then (toldS (numS (txt (numS s / ((Int.gcd (numS s) (numS ((l).getD (i) default).den) : Nat) : Int))) * numS ((((l).getD (i) default)).den))) else (({ data := #[] } : ByteArray)))))), (nm .i64 ((if okS (txt (numS s / ((Int.gcd (numS s) (numS ((l).getD (i) default).den) : Nat) : Int))) && okS ((((l).getD (i) default)).den) then (toldE (numS (txt (numS s / ((Int.gcd (numS s) (numS ((l).getD (i) default).den) : Nat) : Int))) * numS ((((l).getD (i) default)).den))) else (1))))]) rfl ?_
      refine o_extract (AV.lit (.string ((if okS (txt (numS s / ((Int.gcd (numS s) (numS ((l).getD (i) default).den) : Nat) : Int))) && okS ((((l).getD (i) default)).den) then (toldS (numS (txt (numS s / ((Int.gcd (numS s) (numS ((l).getD (i) default).den) : Nat) : Int))) * numS ((((l).getD (i) default)).den))) else (({ data := #[] } : ByteArray)))))) Gd.none rfl rfl ?_
      refine n_as (v' := (AV.lit (.string (toldS (cmX (numS s) (numS ((l).getD (i) default).den)))))) (by exact str_as2 (hm.1.trans (by rw [numS_txt]; rfl))) ?_
      refine o_extract (nm .i64 ((if okS (txt (numS s / ((Int.gcd (numS s) (numS ((l).getD (i) default).den) : Nat) : Int))) && okS ((((l).getD (i) default)).den) then (toldE (numS (txt (numS s / ((Int.gcd (numS s) (numS ((l).getD (i) default).den) : Nat) : Int))) * numS ((((l).getD (i) default)).den))) else (1)))) Gd.none rfl rfl ?_
      refine n_as (v' := (nm .i64 (toldE (cmX (numS s) (numS ((l).getD (i) default).den))))) (by exact congrArg (nm _) (hm.2.trans (by rw [numS_txt]; rfl))) ?_
      refine o_as (AV.lit (.string (toldS (cmX (numS s) (numS ((l).getD (i) default).den))))) rfl ?_
      refine o_as (nm .i64 (toldE (cmX (numS s) (numS ((l).getD (i) default).den)))) rfl ?_
      refine aops_end ?_
      refine hK13 _ ?_
      refine awp_seq fun K14 hK14 => ?_
      refine awp_seq fun K15 hK15 => ?_
      refine awp_region rfl ?_
      refine o_mv (nm .i64 (toldE (cmX (numS s) (numS ((l).getD (i) default).den)))) rfl ?_
      refine n_neq (toldE (cmX (numS s) (numS ((l).getD (i) default).den))) (0) Gd.none rfl rfl ?_
      refine aops_end ?_
      refine hK15 _ ?_
      refine awp_condQ (q := (toldE (cmX (numS s) (numS ((l).getD (i) default).den))) ≠ (0)) rfl (fun h3 => ?_) (fun h3 => ?_)
      · refine awp_seq fun K16 hK16 => ?_
        refine awp_region rfl ?_
        refine o_mv (nm .i64 (toldE (cmX (numS s) (numS ((l).getD (i) default).den)))) rfl ?_
        refine o_as (AV.lit (.string (({data := #[]} : ByteArray)))) rfl ?_
        refine o_as (nm .i64 (toldE (cmX (numS s) (numS ((l).getD (i) default).den)))) rfl ?_
        refine aops_end ?_
        refine hK16 _ ?_
        refine awp_ret ?_
        refine post_ret ⟨[(AV.lit (.string (({data := #[]} : ByteArray)))), (nm .i64 (toldE (cmX (numS s) (numS ((l).getD (i) default).den))))], And.intro (AV.le_refl _) (And.intro (AV.le_refl _) (trivial)), rfl, ?_⟩
        rw [hp, com_drop h2, if_neg (tld_big h3), tld_3 (tld_big h3)]; rfl
      · have hF := tld_ok h3
        obtain ⟨w1, w2⟩ := told_fit hF
        refine awp_skip ?_
        refine hK14 _ ?_
        refine awp_region rfl ?_
        refine o_mv (AV.lit (.string (toldS (cmX (numS s) (numS ((l).getD (i) default).den))))) rfl ?_
        refine o_as (AV.lit (.string (toldS (cmX (numS s) (numS ((l).getD (i) default).den))))) rfl ?_
        refine aops_end ?_
        refine hK9 _ ?_
        refine awp_region rfl ?_
        refine n_add (i) (1) Gd.none rfl rfl (by simp only [topOf]; omega) ?_
        refine o_mv (nm .i64 ((i) + (1))) rfl ?_
        refine aops_end ?_
        refine ⟨_, _, ?lt, ⟨i + 1, toldS (cmX (numS s) (numS ((l).getD (i) default).den)), (by omega), (by rw [hp, com_drop h2, if_pos hF, w1, numS_txt]), (by rw [w1]; exact okS_iff.2 (okS_txt hF)), (by rw [w1, numS_txt]; exact Int.mul_pos g5 hr.2), (by rw [w1]; exact txt_sz2 hF), rfl, rfl⟩, ?wk⟩
        case lt => omega
        case wk => exact Wk.sub (And.intro (by first | rfl | (simp)) (And.intro rfl (And.intro rfl (And.intro (by first | rfl | exact congrArg (nm _) (by omega) | exact nm_int (by omega) | exact nm_int (by simp [IntKind.wrap, IntKind.bits, IntKind.signed]; omega)) (trivial))))) (trivial)
    · refine awp_exit ?_
      refine hK5 _ ?_
      refine awp_seq fun K17 hK17 => ?_
      refine awp_region rfl ?_
      refine o_mv (AV.lit (.string (s))) rfl ?_
      refine o_as (AV.lit (.string (s))) rfl ?_
      refine o_as (nm .i64 (0)) rfl ?_
      refine aops_end ?_
      refine hK17 _ ?_
      refine awp_ret ?_
      refine post_ret ⟨[(AV.lit (.string (s))), (nm .i64 (0))], And.intro (AV.le_refl _) (And.intro (AV.le_refl _) (trivial)), rfl, ?_⟩
      rw [hp, com_end (by omega), txt_numS (okS_iff.1 ho)]; rfl

end Go.Proofs.YtpamhblonmpniaaGreatDoor

set_option linter.unusedVariables false
set_option linter.unusedSimpArgs false
namespace Go.Mth
open Go.Ab
theorem row_gs {α : Type} {e : TypeId} {n : Nat} {c : α → List AV} {xs ys : List α} (h : xs = ys) : (some (AO.row e n (gcells c xs)) : Option AO) = some (AO.row e n (gcells c ys)) := by rw [h]
theorem ownP_bd (m : Mac) (z : Int) : ownP m z ≤ 113 := p30_bd _
theorem twnP_bd (m : Mac) (z : Int) : twnP m z ≤ 113 := p30_bd _
def frc (a b : Nat) : Frc := ⟨txt ((a : Nat) : Int), txt ((b : Nat) : Int)⟩
def rgP (x : Ins) : Nat := P30.getD x.reg.toNat 0
def insF (m : Mac) (s : Nat) (x : Ins) : List Frc := if x.kind = 0 then [frc (twnP m x.next * rgP x) (ownP m s)] else [frc (twnP m x.next) (ownP m s * rgP x), frc (twnP m x.els) (ownP m s)]
def cmp1 (m : Mac) : Nat → List Frc
  | 0 => []
  | i + 1 => cmp1 m i ++ insF m i (m.code.getD i default)
def cmp2 (m : Mac) : Nat → List Frc
  | 0 => cmp1 m m.code.length
  | i + 1 => cmp2 m i ++ [frc (ownP m i) (twnP m i)]
def cmpR (m : Mac) : List Frc := if okMac m then cmp2 m (m.code.length + 1) else []
def cmpE (m : Mac) : Nat := if okMac m then 0 else 1
theorem cmp1_len (m : Mac) : ∀ i, (cmp1 m i).length ≤ 2 * i
  | 0 => Nat.le_refl _
  | i + 1 => by
    have := cmp1_len m i
    rw [cmp1, List.length_append]
    unfold insF
    split <;> simp <;> omega
theorem cmp2_len (m : Mac) : ∀ i, (cmp2 m i).length ≤ 2 * m.code.length + i
  | 0 => cmp1_len m _
  | i + 1 => by
    have := cmp2_len m i
    rw [cmp2, List.length_append, List.length_singleton]
    omega
theorem cmp1_a {m : Mac} {i : Nat} {x : Ins} (hx : m.code.getD i default = x) (h : x.kind = 0) : cmp1 m i ++ [frc (twnP m x.next * rgP x) (ownP m i)] = cmp1 m (i + 1) := by
  subst hx
  rw [cmp1, insF, if_pos h]
theorem cmp1_b {m : Mac} {i : Nat} {x : Ins} (hx : m.code.getD i default = x) (h : ¬ x.kind = 0) : cmp1 m i ++ [frc (twnP m x.next) (ownP m i * rgP x), frc (twnP m x.els) (ownP m i)] = cmp1 m (i + 1) := by
  subst hx
  rw [cmp1, insF, if_neg h]
def prdZ : Nat → List Int → Int
  | _, [] => 1
  | i, n :: r => ((P30.getD i 0 : Nat) : Int) ^ n.toNat * prdZ (i + 1) r
def numC (m : Mac) (c : Cfg) : Int := ((ownP m c.at' : Nat) : Int) * prdZ 0 c.regs
noncomputable def encS (m : Mac) (c : Cfg) : ByteArray := if okCfg m c then toldS (numC m c) else { data := #[] }
noncomputable def encE (m : Mac) (c : Cfg) : Nat := if okCfg m c then toldE (numC m c) else 1
theorem prd_pos : ∀ (l : List Int) (i : Nat), i + l.length ≤ 30 → 0 < prdZ i l
  | [], _, _ => by simp [prdZ]
  | n :: r, i, h => by
    have h' : i + 1 + r.length ≤ 30 := by simp at h; omega
    have h2 := p30_ge i (by simp at h; omega)
    exact Int.mul_pos (Int.pow_pos (by omega)) (prd_pos r (i + 1) h')
theorem prd_drop {l : List Int} {i j : Nat} (h : i < l.length) : prdZ j (l.drop i) = ((P30.getD j 0 : Nat) : Int) ^ (l.getD i 0).toNat * prdZ (j + 1) (l.drop (i + 1)) := by
  rw [List.drop_eq_getElem_cons h, show l.getD i 0 = l[i] by rw [List.getD_eq_getElem?_getD, List.getElem?_eq_getElem h]; rfl]
  rfl
theorem fit_113 {n : Nat} (h : n ≤ 113) : Fit ((n : Nat) : Int) := fit_of_pow (k := 3) (by rw [Int.natAbs_natCast]; omega) (by decide) (by decide)
theorem fit_mul_le {x y : Int} (hx : 0 < x) (hy : 0 < y) (h : Fit (x * y)) : Fit x ∧ Fit y := by
  have e : (x * y).natAbs = x.natAbs * y.natAbs := Int.natAbs_mul x y
  constructor
  · exact fit_le (by rw [e]; exact Nat.le_mul_of_pos_right _ (by omega)) h
  · exact fit_le (by rw [e]; exact Nat.le_mul_of_pos_left _ (by omega)) h
theorem pow_str {p : Nat} {n : Int} (hp : p ≤ 113) (h : 0 ≤ n ∧ n ≤ 1000) : powS (txt ((p : Nat) : Int)) n = toldS (((p : Nat) : Int) ^ n.toNat) ∧ powE (txt ((p : Nat) : Int)) n = toldE (((p : Nat) : Int) ^ n.toNat) := by
  have o := okS_iff.2 (okS_txt (fit_113 hp))
  have q : powIn n := by unfold powIn; omega
  unfold powS powE
  rw [if_pos ⟨o, q⟩, if_pos o, if_pos q, numS_txt]
  exact ⟨rfl, rfl⟩
end Go.Mth

set_option linter.unusedVariables false
set_option linter.unusedSimpArgs false
namespace Go.Proofs.YtpamhblonmpniaaGreatDoor
open Go Go.Ab Go.Mth
theorem Ye_tA24 : tyAgg cx.P 24 = some 2 := by kernel_rfl
theorem Ye_tC21 : callable cx.P 21 = true := by kernel_rfl
theorem Ye_tF24_1 : tyField cx.P 24 1 = some (1, 22) := by kernel_rfl
theorem Ye_tS22 : tySc cx.P 22 = true := by kernel_rfl
theorem Ye_tU22 : cx.P.underlying 22 = some (.slice 57) := by kernel_rfl
theorem Ye_tE22 : tyElem cx.P 22 = some (57, 4, 32) := by kernel_rfl
theorem Ye_tA57 : tyAgg cx.P 57 = some 4 := by kernel_rfl
theorem Ye_tO57 : tyZero cx.P 57 = some [(Go.Value.int IntKind.i64 0), (Go.Value.int IntKind.i64 0), (Go.Value.int IntKind.i64 0), (Go.Value.int IntKind.i64 0)] := by kernel_rfl
theorem Ye_tZ57 : tySize cx.P 57 = some 4 := by kernel_rfl
theorem Ye_tC22 : callable cx.P 22 = true := by kernel_rfl
theorem Ye_tF57_1 : tyField cx.P 57 1 = some (1, 3) := by kernel_rfl
theorem Ye_tS3 : tySc cx.P 3 = true := by kernel_rfl
theorem Ye_tR61 : tyArr cx.P 61 = some (30, 3, 1) := by kernel_rfl
theorem Ye_tF57_0 : tyField cx.P 57 0 = some (0, 3) := by kernel_rfl
theorem Ye_tF57_2 : tyField cx.P 57 2 = some (2, 3) := by kernel_rfl
theorem Ye_tC24 : callable cx.P 24 = true := by kernel_rfl
theorem Ye_tC25 : callable cx.P 25 = true := by kernel_rfl
theorem Ye_tC23 : callable cx.P 23 = true := by kernel_rfl
theorem Ye_tE34 : tyElem cx.P 34 = some (59, 2, 32) := by kernel_rfl
theorem Ye_tO59 : tyZero cx.P 59 = some [(Go.Value.string {data := #[]}), (Go.Value.string {data := #[]})] := by kernel_rfl
theorem Ye_tF57_3 : tyField cx.P 57 3 = some (3, 3) := by kernel_rfl
theorem Ye_tA27 : tyAgg cx.P 27 = some 2 := by kernel_rfl
theorem Ye_tC26 : callable cx.P 26 = true := by kernel_rfl
theorem Ye_tF27_0 : tyField cx.P 27 0 = some (0, 3) := by kernel_rfl
theorem Ye_tC27 : callable cx.P 27 = true := by kernel_rfl
theorem Ye_tF27_1 : tyField cx.P 27 1 = some (1, 25) := by kernel_rfl
theorem Ye_tS25 : tySc cx.P 25 = true := by kernel_rfl
theorem Ye_tU25 : cx.P.underlying 25 = some (.slice 3) := by kernel_rfl
theorem Ye_tE25 : tyElem cx.P 25 = some (3, 1, 8) := by kernel_rfl
theorem Ye_tC28 : callable cx.P 28 = true := by kernel_rfl
theorem Ye_tC29 : callable cx.P 29 = true := by kernel_rfl
theorem c_Compile (m : Mac) : ECalls cx 8 [(macV m)] (.tup [.sl 2 (gcells cF (cmpR m)), nm .i64 (cmpE m)]) := by
  refine ecalls_of_awp Tryz.func8 (c := _) rfl (Nat.le_of_ble_eq_true rfl) ?_
  show awp cx 81 _ (postF cx Tryz.f8 _) ⟨[(0, (macV m))], []⟩
  refine awp_seq fun K0 hK0 => ?_
  refine awp_region rfl ?_
  refine o_box 2 [(AV.lit (.int .i64 (m.regs))), (AV.sl 4 (gcells cI (m.code)))] Gd.none rfl rfl ?_
  refine o_as (AV.lit (.slice none 0 0)) rfl ?_
  refine o_as (nm .i64 (0)) rfl ?_
  refine aops_end ?_
  refine hK0 _ ?_
  refine awp_seq fun K1 hK1 => ?_
  refine awp_seq fun K2 hK2 => ?_
  refine awp_region rfl ?_
  refine o_loadA [(AV.lit (.int .i64 (m.regs))), (AV.sl 4 (gcells cI (m.code)))] Gd.none Ye_tA24 rfl rfl rfl rfl rfl ?_
  refine o_ct (c_fValid m) Gd.none Ye_tC21 rfl ?_
  refine o_notP (q := okMac m) Gd.none rfl ?_
  refine aops_end ?_
  refine hK2 _ ?_
  refine awp_condQ (q := ¬ (okMac m)) rfl (fun h1 => ?_) (fun h1 => ?_)
  · refine awp_seq fun K3 hK3 => ?_
    refine awp_region rfl ?_
    refine o_as (AV.lit (.slice none 0 0)) rfl ?_
    refine o_as (nm .i64 (1)) rfl ?_
    refine aops_end ?_
    refine hK3 _ ?_
    refine awp_ret ?_
    refine post_ret ⟨[(AV.sl 2 (gcells cF ([]))), (nm .i64 (1))], And.intro (AV.le_nil' (by decide) (by first | rfl | simp [digs_zero, ns, is])) (And.intro (AV.le_refl _) (trivial)), rfl, ?_⟩
    rw [cmpR, cmpE, if_neg (by assumption), if_neg (by assumption)]; rfl
  · have hM := Decidable.not_not.1 h1
    have hM2 := hM
    obtain ⟨o1, o2, o3, o4, o5⟩ := hM2
    refine awp_skip ?_
    refine hK1 _ ?_
    refine awp_seq fun K4 hK4 => ?_
    refine awp_region rfl ?_
    refine o_as (AV.lit (.slice none 0 0)) rfl ?_
    refine aops_end ?_
    refine hK4 _ ?_
    refine awp_seq fun K5 hK5 => ?_
    refine awp_seq fun K6 hK6 => ?_
    refine awp_region rfl ?_
    refine o_fieldRef 1 Gd.none Ye_tF24_1 rfl rfl ?_
    refine o_loadS (AV.sl 4 (gcells cI (m.code))) Gd.none Ye_tS22 rfl rfl rfl ?_
    refine g_len cI (m.code) cI_len Gd.none Ye_tU22 rfl ?_
    refine o_mv (nm .i64 (0)) rfl ?_
    refine aops_end ?_
    refine hK6 _ ?_
    refine awp_block ?_
    refine awp_loopR (fun κ σ => ∃ (i : Nat), (i ≤ m.code.length) ∧ (m.code.length - i) = κ ∧ σ = ⟨[(1, (AV.ref 2 (0))), (4, (AV.row 50)), (13, (AV.sl 4 (gcells cI (m.code)))), (14, (nm .i64 (m.code.length))), (15, (nm .i64 (i)))], [(2, (AO.var 24 [(AV.lit (.int .i64 (m.regs))), (AV.sl 4 (gcells cI (m.code)))])), (50, (AO.row 59 2 (gcells cF (cmp1 m i))))]⟩) ⟨_, _, ⟨0, (by omega), rfl, rfl⟩, ?wk0⟩ ?rd0
    case wk0 =>
      exact Wk.trans (Wk.newNil (i := 4) (id := 503) (e := 59) (sz := 2) rfl rfl (by decide)) (Wk.trans (Wk.sub (σ' := ⟨[(1, (AV.ref 2 (0))), (4, (AV.row 503)), (13, (AV.sl 4 (gcells cI (m.code)))), (14, (nm .i64 ((m.code).length))), (15, (nm .i64 (0)))], [(2, (AO.var 24 [(AV.lit (.int .i64 (m.regs))), (AV.sl 4 (gcells cI (m.code)))])), (503, (AO.row 59 2 (gcells cF ([]))))]⟩) (And.intro rfl (And.intro rfl (And.intro rfl (And.intro rfl (And.intro rfl (trivial)))))) (And.intro rfl (And.intro rfl (trivial)))) (Wk.trans (Wk.ren (id := 503) (id' := 50) rfl) (Wk.sub (And.intro rfl (And.intro (by first | rfl | (simp)) (And.intro rfl (And.intro (by first | rfl | exact congrArg (nm _) (by omega) | exact nm_int (by omega) | exact nm_int (by simp [IntKind.wrap, IntKind.bits, IntKind.signed]; omega)) (And.intro (by first | rfl | exact congrArg (nm _) (by omega) | exact nm_int (by omega) | exact nm_int (by simp [IntKind.wrap, IntKind.bits, IntKind.signed]; omega)) (trivial)))))) (And.intro (by first | rfl | (exact row_gs (by first | exact cmp1_a rfl (by omega) | exact cmp1_b rfl (by omega) | rfl | (rw [show i = m.code.length by omega]; rfl)))) (And.intro (by first | rfl | exact row_ns (by simp) | (exact row_gs (by first | exact cmp1_a rfl (by omega) | exact cmp1_b rfl (by omega) | rfl | (rw [show i = m.code.length by omega]; rfl)))) (trivial))))))
    rintro κ _ ⟨i, hi, rfl, rfl⟩
    have hle := cmp1_len m i
    refine awp_seq fun K7 hK7 => ?_
    refine awp_region rfl ?_
    refine n_lss (i) (m.code.length) Gd.none rfl rfl ?_
    refine aops_end ?_
    refine hK7 _ ?_
    refine awp_seq fun K8 hK8 => ?_
    refine awp_condQ (q := (i) < (m.code.length)) rfl (fun h2 => ?_) (fun h2 => ?_)
    · have hx := o5 _ (gdm (d := default) h2)
      obtain ⟨⟨x1, x2, x3⟩, x4⟩ := hx
      unfold plc at x3 x4
      have b1 := p30_bd ((m.code).getD (i) default).reg.toNat
      have b2 := twnP_bd m ((m.code).getD (i) default).next
      have b3 := ownP_bd m ((i : Nat) : Int)
      have b4 := Nat.mul_le_mul b2 b1
      have b5 := Nat.mul_le_mul b3 b1
      have b6 := twnP_bd m ((m.code).getD (i) default).els
      refine awp_skip ?_
      refine hK8 _ ?_
      refine awp_seq fun K9 hK9 => ?_
      refine awp_block ?_
      refine awp_seq fun K10 hK10 => ?_
      refine awp_region rfl ?_
      refine o_mv (nm .i64 (i)) rfl ?_
      refine g_index cI (m.code) (i) cI_len rfl Gd.none Ye_tE22 rfl rfl (by omega) ?_
      refine g_loadA cI (m.code) (i) default cI_len Gd.none Ye_tA57 rfl (by omega) ?_
      refine o_alloc 101 [(nm .i64 (0)), (nm .i64 (0)), (nm .i64 (0)), (nm .i64 (0))] Gd.none Ye_tO57 rfl rfl rfl ?_
      refine o_as (nm .i64 (i)) rfl ?_
      refine o_store [(101, (AO.var 57 [(AV.lit (.int .i64 ((((m.code).getD (i) default)).kind))), (AV.lit (.int .i64 ((((m.code).getD (i) default)).reg))), (AV.lit (.int .i64 ((((m.code).getD (i) default)).next))), (AV.lit (.int .i64 ((((m.code).getD (i) default)).els)))])), (2, (AO.var 24 [(AV.lit (.int .i64 (m.regs))), (AV.sl 4 (gcells cI (m.code)))])), (50, (AO.row 59 2 (gcells cF (cmp1 m i))))] Gd.none Ye_tZ57 rfl rfl rfl rfl rfl rfl ?_
      refine aops_end ?_
      refine hK10 _ ?_
      refine awp_seq fun K11 hK11 => ?_
      refine awp_regionD rfl ?_
      refine o_ct c_primes Gd.none Ye_tC22 rfl ?_
      refine o_fieldRef 1 Gd.none Ye_tF57_1 rfl rfl ?_
      refine o_loadS (AV.lit (.int .i64 ((((m.code).getD (i) default)).reg))) Gd.none Ye_tS3 rfl rfl rfl ?_
      refine n_as (v' := (nm .i64 (((m.code).getD (i) default).reg.toNat))) (nm_int (by omega)) ?_
      refine n_indexAgg (P30) (((m.code).getD (i) default).reg.toNat) Gd.none Ye_tR61 Ye_tS3 rfl rfl (by rfl) (by omega) ?_
      refine o_as (nm .i64 ((P30).getD (((m.code).getD (i) default).reg.toNat) 0)) rfl ?_
      refine aops_end ⟨by kernel_rfl, ?_⟩
      refine hK11 _ ?_
      refine awp_seq fun K12 hK12 => ?_
      refine awp_seq fun K13 hK13 => ?_
      refine awp_region rfl ?_
      refine o_fieldRef 0 Gd.none Ye_tF57_0 rfl rfl ?_
      refine o_loadS (AV.lit (.int .i64 ((((m.code).getD (i) default)).kind))) Gd.none Ye_tS3 rfl rfl rfl ?_
      refine o_eql (a := ((((m.code).getD (i) default)).kind)) (c := (((0 : Nat) : Int))) Gd.none rfl rfl ?_
      refine aops_end ?_
      refine hK13 _ ?_
      refine awp_condQ (q := ((((m.code).getD (i) default)).kind) = (((0 : Nat) : Int))) rfl (fun h3 => ?_) (fun h3 => ?_)
      · refine awp_seq fun K14 hK14 => ?_
        refine awp_regionD rfl ?_
        refine o_mv (AV.row 50) rfl ?_
        refine o_loadA [(AV.lit (.int .i64 (m.regs))), (AV.sl 4 (gcells cI (m.code)))] Gd.none Ye_tA24 rfl rfl rfl rfl rfl ?_
        refine o_fieldRef 2 Gd.none Ye_tF57_2 rfl rfl ?_
        refine o_loadS (AV.lit (.int .i64 ((((m.code).getD (i) default)).next))) Gd.none Ye_tS3 rfl rfl rfl ?_
        refine o_ct (c_twin m ((((m.code).getD (i) default)).next) (by omega) (by omega) (by omega) (by omega)) Gd.none Ye_tC24 rfl ?_
        refine o_mv (nm .i64 ((P30).getD (((m.code).getD (i) default).reg.toNat) 0)) rfl ?_
        refine n_mul (twnP m ((((m.code).getD (i) default)).next)) ((P30).getD (((m.code).getD (i) default).reg.toNat) 0) Gd.none rfl rfl (by simp only [topOf]; omega) ?_
        refine o_loadA [(AV.lit (.int .i64 (m.regs))), (AV.sl 4 (gcells cI (m.code)))] Gd.none Ye_tA24 rfl rfl rfl rfl rfl ?_
        refine o_mv (nm .i64 (i)) rfl ?_
        refine o_ct (c_own m (((i : Nat) : Int)) (by omega) (by omega) (by omega) (by omega)) Gd.none Ye_tC25 rfl ?_
        refine o_ct (c_frac ((twnP m ((((m.code).getD (i) default)).next)) * ((P30).getD (((m.code).getD (i) default).reg.toNat) 0)) (ownP m (((i : Nat) : Int))) (by omega) (by omega)) Gd.none Ye_tC23 rfl ?_
        refine o_buildSlice 102 (gcells cF ([(Frc.mk (txt (((twnP m ((((m.code).getD (i) default)).next)) * ((P30).getD (((m.code).getD (i) default).reg.toNat) 0) : Nat) : Int)) (txt ((ownP m (((i : Nat) : Int)) : Nat) : Int)))])) [(0, [(AV.lit (.string (txt (((twnP m ((((m.code).getD (i) default)).next)) * ((P30).getD (((m.code).getD (i) default).reg.toNat) 0) : Nat) : Int)))), (AV.lit (.string (txt ((ownP m (((i : Nat) : Int)) : Nat) : Int))))])] Gd.none Ye_tE34 rfl Ye_tO59 rfl rfl rfl rfl rfl rfl rfl ?_
        refine g_append cF 103 (cmp1 m i) ([(Frc.mk (txt (((twnP m ((((m.code).getD (i) default)).next)) * ((P30).getD (((m.code).getD (i) default).reg.toNat) 0) : Nat) : Int)) (txt ((ownP m (((i : Nat) : Int)) : Nat) : Int)))]) [(102, (AO.row 59 2 (gcells cF ([(Frc.mk (txt (((twnP m ((((m.code).getD (i) default)).next)) * ((P30).getD (((m.code).getD (i) default).reg.toNat) 0) : Nat) : Int)) (txt ((ownP m (((i : Nat) : Int)) : Nat) : Int)))])))), (101, (AO.var 57 [(AV.lit (.int .i64 ((((m.code).getD (i) default)).kind))), (AV.lit (.int .i64 ((((m.code).getD (i) default)).reg))), (AV.lit (.int .i64 ((((m.code).getD (i) default)).next))), (AV.lit (.int .i64 ((((m.code).getD (i) default)).els)))])), (2, (AO.var 24 [(AV.lit (.int .i64 (m.regs))), (AV.sl 4 (gcells cI (m.code)))]))] cF_len rfl Gd.none Ye_tE34 Ye_tO59 rfl rfl rfl rfl rfl (by simp only [List.length_append, List.length_cons, List.length_nil]; omega) (by simp only [List.length_append, List.length_cons, List.length_nil]; omega) rfl rfl ?_
        refine o_as (AV.row 103) rfl ?_
        refine aops_end ⟨by kernel_rfl, ?_⟩
        refine hK14 _ ?_
        refine awp_exit ?_
        refine hK9 _ ?_
        refine awp_region rfl ?_
        refine n_add (i) (1) Gd.none rfl rfl (by simp only [topOf]; omega) ?_
        refine o_mv (nm .i64 ((i) + (1))) rfl ?_
        refine aops_end ?_
        refine ⟨_, _, ?lt, ⟨i + 1, (by omega), rfl, rfl⟩, ?wk⟩
        case lt => omega
        case wk => exact Wk.trans (Wk.sub (σ' := ⟨[(1, (AV.ref 2 (0))), (4, (AV.row 103)), (13, (AV.sl 4 (gcells cI (m.code)))), (14, (nm .i64 (m.code.length))), (15, (nm .i64 ((i) + (1))))], [(2, (AO.var 24 [(AV.lit (.int .i64 (m.regs))), (AV.sl 4 (gcells cI (m.code)))])), (103, (AO.row 59 2 (gcells cF ((cmp1 m i) ++ ([(Frc.mk (txt (((twnP m ((((m.code).getD (i) default)).next)) * ((P30).getD (((m.code).getD (i) default).reg.toNat) 0) : Nat) : Int)) (txt ((ownP m (((i : Nat) : Int)) : Nat) : Int)))])))))]⟩) (And.intro rfl (And.intro rfl (And.intro rfl (And.intro rfl (And.intro rfl (trivial)))))) (And.intro rfl (And.intro rfl (trivial)))) (Wk.trans (Wk.ren (id := 103) (id' := 50) rfl) (Wk.sub (And.intro rfl (And.intro (by first | rfl | (simp)) (And.intro rfl (And.intro rfl (And.intro (by first | rfl | exact congrArg (nm _) (by omega) | exact nm_int (by omega) | exact nm_int (by simp [IntKind.wrap, IntKind.bits, IntKind.signed]; omega)) (trivial)))))) (And.intro rfl (And.intro (by first | rfl | exact row_ns (by simp) | (exact row_gs (by first | exact cmp1_a rfl (by omega) | exact cmp1_b rfl (by omega) | rfl | (rw [show i = m.code.length by omega]; rfl)))) (trivial)))))
      · refine awp_skip ?_
        refine hK12 _ ?_
        refine awp_regionD rfl ?_
        refine o_mv (AV.row 50) rfl ?_
        refine o_loadA [(AV.lit (.int .i64 (m.regs))), (AV.sl 4 (gcells cI (m.code)))] Gd.none Ye_tA24 rfl rfl rfl rfl rfl ?_
        refine o_fieldRef 2 Gd.none Ye_tF57_2 rfl rfl ?_
        refine o_loadS (AV.lit (.int .i64 ((((m.code).getD (i) default)).next))) Gd.none Ye_tS3 rfl rfl rfl ?_
        refine o_ct (c_twin m ((((m.code).getD (i) default)).next) (by omega) (by omega) (by omega) (by omega)) Gd.none Ye_tC24 rfl ?_
        refine o_loadA [(AV.lit (.int .i64 (m.regs))), (AV.sl 4 (gcells cI (m.code)))] Gd.none Ye_tA24 rfl rfl rfl rfl rfl ?_
        refine o_mv (nm .i64 (i)) rfl ?_
        refine o_ct (c_own m (((i : Nat) : Int)) (by omega) (by omega) (by omega) (by omega)) Gd.none Ye_tC25 rfl ?_
        refine o_mv (nm .i64 ((P30).getD (((m.code).getD (i) default).reg.toNat) 0)) rfl ?_
        refine n_mul (ownP m (((i : Nat) : Int))) ((P30).getD (((m.code).getD (i) default).reg.toNat) 0) Gd.none rfl rfl (by simp only [topOf]; omega) ?_
        refine o_ct (c_frac (twnP m ((((m.code).getD (i) default)).next)) ((ownP m (((i : Nat) : Int))) * ((P30).getD (((m.code).getD (i) default).reg.toNat) 0)) (by omega) (by omega)) Gd.none Ye_tC23 rfl ?_
        refine o_loadA [(AV.lit (.int .i64 (m.regs))), (AV.sl 4 (gcells cI (m.code)))] Gd.none Ye_tA24 rfl rfl rfl rfl rfl ?_
        refine o_fieldRef 3 Gd.none Ye_tF57_3 rfl rfl ?_
        refine o_loadS (AV.lit (.int .i64 ((((m.code).getD (i) default)).els))) Gd.none Ye_tS3 rfl rfl rfl ?_
        refine o_ct (c_twin m ((((m.code).getD (i) default)).els) (by omega) (by omega) (by omega) (by omega)) Gd.none Ye_tC24 rfl ?_
        refine o_loadA [(AV.lit (.int .i64 (m.regs))), (AV.sl 4 (gcells cI (m.code)))] Gd.none Ye_tA24 rfl rfl rfl rfl rfl ?_
        refine o_mv (nm .i64 (i)) rfl ?_
        refine o_ct (c_own m (((i : Nat) : Int)) (by omega) (by omega) (by omega) (by omega)) Gd.none Ye_tC25 rfl ?_
        refine o_ct (c_frac (twnP m ((((m.code).getD (i) default)).els)) (ownP m (((i : Nat) : Int))) (by omega) (by omega)) Gd.none Ye_tC23 rfl ?_
        refine o_buildSlice 102 (gcells cF ([(Frc.mk (txt ((twnP m ((((m.code).getD (i) default)).next) : Nat) : Int)) (txt (((ownP m (((i : Nat) : Int))) * ((P30).getD (((m.code).getD (i) default).reg.toNat) 0) : Nat) : Int))), (Frc.mk (txt ((twnP m ((((m.code).getD (i) default)).els) : Nat) : Int)) (txt ((ownP m (((i : Nat) : Int)) : Nat) : Int)))])) [(0, [(AV.lit (.string (txt ((twnP m ((((m.code).getD (i) default)).next) : Nat) : Int)))), (AV.lit (.string (txt (((ownP m (((i : Nat) : Int))) * ((P30).getD (((m.code).getD (i) default).reg.toNat) 0) : Nat) : Int))))]), (1, [(AV.lit (.string (txt ((twnP m ((((m.code).getD (i) default)).els) : Nat) : Int)))), (AV.lit (.string (txt ((ownP m (((i : Nat) : Int)) : Nat) : Int))))])] Gd.none Ye_tE34 rfl Ye_tO59 rfl rfl rfl rfl rfl rfl rfl ?_
        refine g_append cF 103 (cmp1 m i) ([(Frc.mk (txt ((twnP m ((((m.code).getD (i) default)).next) : Nat) : Int)) (txt (((ownP m (((i : Nat) : Int))) * ((P30).getD (((m.code).getD (i) default).reg.toNat) 0) : Nat) : Int))), (Frc.mk (txt ((twnP m ((((m.code).getD (i) default)).els) : Nat) : Int)) (txt ((ownP m (((i : Nat) : Int)) : Nat) : Int)))]) [(102, (AO.row 59 2 (gcells cF ([(Frc.mk (txt ((twnP m ((((m.code).getD (i) default)).next) : Nat) : Int)) (txt (((ownP m (((i : Nat) : Int))) * ((P30).getD (((m.code).getD (i) default).reg.toNat) 0) : Nat) : Int))), (Frc.mk (txt ((twnP m ((((m.code).getD (i) default)).els) : Nat) : Int)) (txt ((ownP m (((i : Nat) : Int)) : Nat) : Int)))])))), (101, (AO.var 57 [(AV.lit (.int .i64 ((((m.code).getD (i) default)).kind))), (AV.lit (.int .i64 ((((m.code).getD (i) default)).reg))), (AV.lit (.int .i64 ((((m.code).getD (i) default)).next))), (AV.lit (.int .i64 ((((m.code).getD (i) default)).els)))])), (2, (AO.var 24 [(AV.lit (.int .i64 (m.regs))), (AV.sl 4 (gcells cI (m.code)))]))] cF_len rfl Gd.none Ye_tE34 Ye_tO59 rfl rfl rfl rfl rfl (by simp only [List.length_append, List.length_cons, List.length_nil]; omega) (by simp only [List.length_append, List.length_cons, List.length_nil]; omega) rfl rfl ?_
        refine o_as (AV.row 103) rfl ?_
        refine aops_end ⟨by kernel_rfl, ?_⟩
        refine hK9 _ ?_
        refine awp_region rfl ?_
        refine n_add (i) (1) Gd.none rfl rfl (by simp only [topOf]; omega) ?_
        refine o_mv (nm .i64 ((i) + (1))) rfl ?_
        refine aops_end ?_
        refine ⟨_, _, ?lt, ⟨i + 1, (by omega), rfl, rfl⟩, ?wk⟩
        case lt => omega
        case wk => exact Wk.trans (Wk.sub (σ' := ⟨[(1, (AV.ref 2 (0))), (4, (AV.row 103)), (13, (AV.sl 4 (gcells cI (m.code)))), (14, (nm .i64 (m.code.length))), (15, (nm .i64 ((i) + (1))))], [(2, (AO.var 24 [(AV.lit (.int .i64 (m.regs))), (AV.sl 4 (gcells cI (m.code)))])), (103, (AO.row 59 2 (gcells cF ((cmp1 m i) ++ ([(Frc.mk (txt ((twnP m ((((m.code).getD (i) default)).next) : Nat) : Int)) (txt (((ownP m (((i : Nat) : Int))) * ((P30).getD (((m.code).getD (i) default).reg.toNat) 0) : Nat) : Int))), (Frc.mk (txt ((twnP m ((((m.code).getD (i) default)).els) : Nat) : Int)) (txt ((ownP m (((i : Nat) : Int)) : Nat) : Int)))])))))]⟩) (And.intro rfl (And.intro rfl (And.intro rfl (And.intro rfl (And.intro rfl (trivial)))))) (And.intro rfl (And.intro rfl (trivial)))) (Wk.trans (Wk.ren (id := 103) (id' := 50) rfl) (Wk.sub (And.intro rfl (And.intro (by first | rfl | (simp)) (And.intro rfl (And.intro rfl (And.intro (by first | rfl | exact congrArg (nm _) (by omega) | exact nm_int (by omega) | exact nm_int (by simp [IntKind.wrap, IntKind.bits, IntKind.signed]; omega)) (trivial)))))) (And.intro rfl (And.intro (by first | rfl | exact row_ns (by simp) | (exact row_gs (by first | exact cmp1_a rfl (by omega) | exact cmp1_b rfl (by omega) | rfl | (rw [show i = m.code.length by omega]; rfl)))) (trivial)))))
    · refine awp_exit ?_
      refine hK5 _ ?_
      refine awp_seq fun K15 hK15 => ?_
      refine awp_seq fun K16 hK16 => ?_
      refine awp_region rfl ?_
      refine o_fieldRef 1 Gd.none Ye_tF24_1 rfl rfl ?_
      refine o_loadS (AV.sl 4 (gcells cI (m.code))) Gd.none Ye_tS22 rfl rfl rfl ?_
      refine g_len cI (m.code) cI_len Gd.none Ye_tU22 rfl ?_
      refine n_add ((m.code).length) (1) Gd.none rfl rfl (by simp only [topOf]; omega) ?_
      refine o_mv (nm .i64 (0)) rfl ?_
      refine aops_end ?_
      refine hK16 _ ?_
      refine awp_block ?_
      refine awp_loopR (fun κ σ => ∃ (j : Nat), (j ≤ m.code.length + 1) ∧ (m.code.length + 1 - j) = κ ∧ σ = ⟨[(1, (AV.ref 2 (0))), (4, (AV.row 50)), (65, (nm .i64 (m.code.length + 1))), (66, (nm .i64 (j)))], [(2, (AO.var 24 [(AV.lit (.int .i64 (m.regs))), (AV.sl 4 (gcells cI (m.code)))])), (50, (AO.row 59 2 (gcells cF (cmp2 m j))))]⟩) ⟨_, _, ⟨0, (by omega), rfl, rfl⟩, ?wk1⟩ ?rd1
      case wk1 =>
        exact Wk.sub (And.intro rfl (And.intro rfl (And.intro (by first | rfl | exact congrArg (nm _) (by omega) | exact nm_int (by omega) | exact nm_int (by simp [IntKind.wrap, IntKind.bits, IntKind.signed]; omega)) (And.intro (by first | rfl | exact congrArg (nm _) (by omega) | exact nm_int (by omega) | exact nm_int (by simp [IntKind.wrap, IntKind.bits, IntKind.signed]; omega)) (trivial))))) (And.intro rfl (And.intro (by first | rfl | exact row_ns (by simp) | (exact row_gs (by first | exact cmp1_a rfl (by omega) | exact cmp1_b rfl (by omega) | rfl | (rw [show i = m.code.length by omega]; rfl)))) (trivial)))
      rintro κ _ ⟨j, hj, rfl, rfl⟩
      have hle := cmp2_len m j
      refine awp_seq fun K17 hK17 => ?_
      refine awp_region rfl ?_
      refine n_lss (j) (m.code.length + 1) Gd.none rfl rfl ?_
      refine aops_end ?_
      refine hK17 _ ?_
      refine awp_seq fun K18 hK18 => ?_
      refine awp_condQ (q := (j) < (m.code.length + 1)) rfl (fun h4 => ?_) (fun h4 => ?_)
      · have b7 := ownP_bd m ((j : Nat) : Int)
        have b8 := twnP_bd m ((j : Nat) : Int)
        refine awp_skip ?_
        refine hK18 _ ?_
        refine awp_seq fun K19 hK19 => ?_
        refine awp_block ?_
        refine awp_seq fun K20 hK20 => ?_
        refine awp_region rfl ?_
        refine o_mv (nm .i64 (j)) rfl ?_
        refine o_as (nm .i64 (j)) rfl ?_
        refine aops_end ?_
        refine hK20 _ ?_
        refine awp_regionD rfl ?_
        refine o_mv (AV.row 50) rfl ?_
        refine o_loadA [(AV.lit (.int .i64 (m.regs))), (AV.sl 4 (gcells cI (m.code)))] Gd.none Ye_tA24 rfl rfl rfl rfl rfl ?_
        refine o_mv (nm .i64 (j)) rfl ?_
        refine o_ct (c_own m (((j : Nat) : Int)) (by omega) (by omega) (by omega) (by omega)) Gd.none Ye_tC25 rfl ?_
        refine o_loadA [(AV.lit (.int .i64 (m.regs))), (AV.sl 4 (gcells cI (m.code)))] Gd.none Ye_tA24 rfl rfl rfl rfl rfl ?_
        refine o_mv (nm .i64 (j)) rfl ?_
        refine o_ct (c_twin m (((j : Nat) : Int)) (by omega) (by omega) (by omega) (by omega)) Gd.none Ye_tC24 rfl ?_
        refine o_ct (c_frac (ownP m (((j : Nat) : Int))) (twnP m (((j : Nat) : Int))) (by omega) (by omega)) Gd.none Ye_tC23 rfl ?_
        refine o_buildSlice 201 (gcells cF ([(Frc.mk (txt ((ownP m (((j : Nat) : Int)) : Nat) : Int)) (txt ((twnP m (((j : Nat) : Int)) : Nat) : Int)))])) [(0, [(AV.lit (.string (txt ((ownP m (((j : Nat) : Int)) : Nat) : Int)))), (AV.lit (.string (txt ((twnP m (((j : Nat) : Int)) : Nat) : Int))))])] Gd.none Ye_tE34 rfl Ye_tO59 rfl rfl rfl rfl rfl rfl rfl ?_
        refine g_append cF 202 (cmp2 m j) ([(Frc.mk (txt ((ownP m (((j : Nat) : Int)) : Nat) : Int)) (txt ((twnP m (((j : Nat) : Int)) : Nat) : Int)))]) [(201, (AO.row 59 2 (gcells cF ([(Frc.mk (txt ((ownP m (((j : Nat) : Int)) : Nat) : Int)) (txt ((twnP m (((j : Nat) : Int)) : Nat) : Int)))])))), (2, (AO.var 24 [(AV.lit (.int .i64 (m.regs))), (AV.sl 4 (gcells cI (m.code)))]))] cF_len rfl Gd.none Ye_tE34 Ye_tO59 rfl rfl rfl rfl rfl (by simp only [List.length_append, List.length_cons, List.length_nil]; omega) (by simp only [List.length_append, List.length_cons, List.length_nil]; omega) rfl rfl ?_
        refine o_as (AV.row 202) rfl ?_
        refine aops_end ⟨by kernel_rfl, ?_⟩
        refine hK19 _ ?_
        refine awp_region rfl ?_
        refine n_add (j) (1) Gd.none rfl rfl (by simp only [topOf]; omega) ?_
        refine o_mv (nm .i64 ((j) + (1))) rfl ?_
        refine aops_end ?_
        refine ⟨_, _, ?lt, ⟨j + 1, (by omega), rfl, rfl⟩, ?wk⟩
        case lt => omega
        case wk => exact Wk.trans (Wk.sub (σ' := ⟨[(1, (AV.ref 2 (0))), (4, (AV.row 202)), (65, (nm .i64 (m.code.length + 1))), (66, (nm .i64 ((j) + (1))))], [(2, (AO.var 24 [(AV.lit (.int .i64 (m.regs))), (AV.sl 4 (gcells cI (m.code)))])), (202, (AO.row 59 2 (gcells cF ((cmp2 m j) ++ ([(Frc.mk (txt ((ownP m (((j : Nat) : Int)) : Nat) : Int)) (txt ((twnP m (((j : Nat) : Int)) : Nat) : Int)))])))))]⟩) (And.intro rfl (And.intro rfl (And.intro rfl (And.intro rfl (trivial))))) (And.intro rfl (And.intro rfl (trivial)))) (Wk.trans (Wk.ren (id := 202) (id' := 50) rfl) (Wk.sub (And.intro rfl (And.intro (by first | rfl | (simp)) (And.intro rfl (And.intro (by first | rfl | exact congrArg (nm _) (by omega) | exact nm_int (by omega) | exact nm_int (by simp [IntKind.wrap, IntKind.bits, IntKind.signed]; omega)) (trivial))))) (And.intro rfl (And.intro (by first | rfl | exact row_ns (by simp) | (exact row_gs (by first | exact cmp1_a rfl (by omega) | exact cmp1_b rfl (by omega) | rfl | (rw [show i = m.code.length by omega]; rfl)))) (trivial)))))
      · refine awp_exit ?_
        refine hK15 _ ?_
        refine awp_seq fun K21 hK21 => ?_
        refine awp_region rfl ?_
        refine o_mv (AV.row 50) rfl ?_
        refine o_as (AV.row 50) rfl ?_
        refine o_as (nm .i64 (0)) rfl ?_
        refine aops_end ?_
        refine hK21 _ ?_
        refine awp_wk (σ' := ⟨[(2, (AV.row 50)), (3, (nm .i64 (0)))], [(50, (AO.row 59 2 (gcells cF (cmp2 m j))))]⟩) (Wk.sub (And.intro rfl (And.intro rfl (trivial))) (And.intro rfl (trivial))) ?_
        refine awp_wk (σ' := ⟨[(2, (AV.sl 2 (gcells cF (cmp2 m j)))), (3, (nm .i64 (0)))], []⟩) (Wk.freeze (id := 50) (e := 59) (sz := 2) (cs := (gcells cF (cmp2 m j))) rfl) ?_
        refine awp_ret ?_
        refine post_ret ⟨[(AV.sl 2 (gcells cF (cmp2 m j))), (nm .i64 (0))], And.intro (AV.le_refl _) (And.intro (AV.le_refl _) (trivial)), rfl, ?_⟩
        rw [cmpR, cmpE, if_pos hM, if_pos hM, show m.code.length + 1 = j by omega]; rfl

theorem c_Encode (m : Mac) (c : Cfg) : ECalls cx 9 [(macV m), (cfgV c)] (.tup [.lit (.string (encS m c)), nm .i64 (encE m c)]) := by
  refine ecalls_of_awp Tryz.func9 (c := _) rfl (Nat.le_of_ble_eq_true rfl) ?_
  show awp cx 50 _ (postF cx Tryz.f9 _) ⟨[(0, (macV m)), (1, (cfgV c))], []⟩
  refine awp_seq fun K0 hK0 => ?_
  refine awp_region rfl ?_
  refine o_box 2 [(AV.lit (.int .i64 (m.regs))), (AV.sl 4 (gcells cI (m.code)))] Gd.none rfl rfl ?_
  refine o_box 3 [(AV.lit (.int .i64 (c.at'))), (AV.sl 1 (is .i64 (c.regs)))] Gd.none rfl rfl ?_
  refine o_as (AV.lit (.string (({data := #[]} : ByteArray)))) rfl ?_
  refine o_as (nm .i64 (0)) rfl ?_
  refine aops_end ?_
  refine hK0 _ ?_
  refine awp_seq fun K1 hK1 => ?_
  refine awp_seq fun K2 hK2 => ?_
  refine awp_region rfl ?_
  refine o_loadA [(AV.lit (.int .i64 (m.regs))), (AV.sl 4 (gcells cI (m.code)))] Gd.none Ye_tA24 rfl rfl rfl rfl rfl ?_
  refine o_loadA [(AV.lit (.int .i64 (c.at'))), (AV.sl 1 (is .i64 (c.regs)))] Gd.none Ye_tA27 rfl rfl rfl rfl rfl ?_
  refine o_ct (c_fFits m c) Gd.none Ye_tC26 rfl ?_
  refine o_notP (q := okCfg m c) Gd.none rfl ?_
  refine aops_end ?_
  refine hK2 _ ?_
  refine awp_condQ (q := ¬ (okCfg m c)) rfl (fun h1 => ?_) (fun h1 => ?_)
  · refine awp_seq fun K3 hK3 => ?_
    refine awp_region rfl ?_
    refine o_as (AV.lit (.string (({data := #[]} : ByteArray)))) rfl ?_
    refine o_as (nm .i64 (1)) rfl ?_
    refine aops_end ?_
    refine hK3 _ ?_
    refine awp_ret ?_
    refine post_ret ⟨[(AV.lit (.string (({data := #[]} : ByteArray)))), (nm .i64 (1))], And.intro (AV.le_refl _) (And.intro (AV.le_refl _) (trivial)), rfl, ?_⟩
    first | (rw [encS, encE, if_neg (by assumption), if_neg (by assumption)]; rfl) | (have hN : ¬ Fit (numC m c) := (by rw [hp, hdr]; intro hf; first | exact tld_big (by assumption) (fit_mul_le pp pr (fit_mul_le hz (Int.mul_pos pp pr) hf).2).1 | exact tld_big (by assumption) (fit_mul_le (Int.mul_pos hz pp) pr (by rw [Int.mul_assoc]; exact hf)).1); rw [encS, encE, if_pos hC, if_pos hC, tld_3 hN, show toldS (numC m c) = { data := #[] } from if_neg hN]; rw [tld_3 (tld_big (by assumption))]; rfl) | (have hE : numC m c = numS s := (by rw [hp, List.drop_of_length_le (by omega)]; exact Int.mul_one _); have hf := fit_numS (okS_iff.1 ho); rw [encS, encE, if_pos hC, if_pos hC, hE, (told_fit hf).1, (told_fit hf).2, txt_numS (okS_iff.1 ho)]; rfl)
  · have hC := Decidable.not_not.1 h1
    have hC2 := hC
    obtain ⟨⟨o1, o2, o3, o4, o5⟩, q1, q2, q3⟩ := hC2
    unfold plc at q1
    have b0 := ownP_bd m c.at'
    have os := txt_sz2 (fit_113 b0)
    have ow : 2 ≤ ownP m c.at' := p30_ge _ (by omega)
    refine awp_skip ?_
    refine hK1 _ ?_
    refine awp_seq fun K4 hK4 => ?_
    refine awp_region rfl ?_
    refine o_loadA [(AV.lit (.int .i64 (m.regs))), (AV.sl 4 (gcells cI (m.code)))] Gd.none Ye_tA24 rfl rfl rfl rfl rfl ?_
    refine o_fieldRef 0 Gd.none Ye_tF27_0 rfl rfl ?_
    refine o_loadS (AV.lit (.int .i64 (c.at'))) Gd.none Ye_tS3 rfl rfl rfl ?_
    refine o_ct (c_own m (c.at') (by omega) (by omega) (by omega) (by omega)) Gd.none Ye_tC25 rfl ?_
    refine o_ct (c_itoa (ownP m (c.at')) (by omega)) Gd.none Ye_tC27 rfl ?_
    refine o_as (AV.lit (.string (txt ((ownP m (c.at') : Nat) : Int)))) rfl ?_
    refine aops_end ?_
    refine hK4 _ ?_
    refine awp_seq fun K5 hK5 => ?_
    refine awp_seq fun K6 hK6 => ?_
    refine awp_region rfl ?_
    refine o_fieldRef 1 Gd.none Ye_tF27_1 rfl rfl ?_
    refine o_loadS (AV.sl 1 (is .i64 (c.regs))) Gd.none Ye_tS25 rfl rfl rfl ?_
    refine i_len (c.regs) Gd.none Ye_tU25 rfl ?_
    refine o_mv (nm .i64 (0)) rfl ?_
    refine aops_end ?_
    refine hK6 _ ?_
    refine awp_block ?_
    refine awp_loopR (fun κ σ => ∃ (i : Nat), ∃ (s : ByteArray), (i ≤ c.regs.length) ∧ (numC m c = numS s * prdZ i (c.regs.drop i)) ∧ (okS s = true) ∧ (0 < numS s) ∧ (s.size ≤ 9223372036854775807) ∧ (c.regs.length - i) = κ ∧ σ = ⟨[(6, (AV.lit (.string (s)))), (21, (AV.sl 1 (is .i64 (c.regs)))), (22, (nm .i64 (c.regs.length))), (23, (nm .i64 (i)))], []⟩) ⟨_, _, ⟨0, txt ((ownP m c.at' : Nat) : Int), (by omega), (by rw [numS_txt]; rfl), (okS_iff.2 (okS_txt (fit_113 b0))), (by rw [numS_txt]; omega), os, rfl, rfl⟩, ?wk0⟩ ?rd0
    case wk0 =>
      exact Wk.sub (And.intro (by first | rfl | (simp)) (And.intro rfl (And.intro (by first | rfl | exact congrArg (nm _) (by omega) | exact nm_int (by omega) | exact nm_int (by simp [IntKind.wrap, IntKind.bits, IntKind.signed]; omega)) (And.intro (by first | rfl | exact congrArg (nm _) (by omega) | exact nm_int (by omega) | exact nm_int (by simp [IntKind.wrap, IntKind.bits, IntKind.signed]; omega)) (trivial))))) (trivial)
    rintro κ _ ⟨i, s, hi, hp, ho, hz, hs, rfl, rfl⟩
    refine awp_seq fun K7 hK7 => ?_
    refine awp_region rfl ?_
    refine n_lss (i) (c.regs.length) Gd.none rfl rfl ?_
    refine aops_end ?_
    refine hK7 _ ?_
    refine awp_seq fun K8 hK8 => ?_
    refine awp_condQ (q := (i) < (c.regs.length)) rfl (fun h2 => ?_) (fun h2 => ?_)
    · have hr := q3 _ (gdm (d := 0) h2)
      unfold regP at hr
      have b1 := p30_bd i
      have ps := txt_sz2 (fit_113 b1)
      have hw := pow_str b1 hr
      have p2 := p30_ge i (by omega)
      have pp : 0 < (((P30.getD (i) 0 : Nat) : Int) ^ ((c.regs).getD (i) 0).toNat) := Int.pow_pos (by omega)
      have tz := told_sz (((P30.getD (i) 0 : Nat) : Int) ^ ((c.regs).getD (i) 0).toNat)
      have hdr := prd_drop (j := i) h2
      have pr := prd_pos (c.regs.drop (i + 1)) (i + 1) (by rw [List.length_drop]; omega)
      refine awp_skip ?_
      refine hK8 _ ?_
      refine awp_seq fun K9 hK9 => ?_
      refine awp_block ?_
      refine awp_seq fun K10 hK10 => ?_
      refine awp_region rfl ?_
      refine o_mv (nm .i64 (i)) rfl ?_
      refine i_index (c.regs) (i) Gd.none Ye_tE25 rfl rfl (by omega) ?_
      refine i_loadI (c.regs) (i) Gd.none Ye_tS3 rfl (by omega) ?_
      refine o_as (nm .i64 (i)) rfl ?_
      refine o_as (AV.lit (.int .i64 ((c.regs).getD (i) 0))) rfl ?_
      refine aops_end ?_
      refine hK10 _ ?_
      refine awp_seq fun K11 hK11 => ?_
      refine awp_region rfl ?_
      refine o_ct c_primes Gd.none Ye_tC22 rfl ?_
      refine o_mv (nm .i64 (i)) rfl ?_
      refine n_indexAgg (P30) (i) Gd.none Ye_tR61 Ye_tS3 rfl rfl (by rfl) (by omega) ?_
      refine o_ct (c_itoa ((P30).getD (i) 0) (by omega)) Gd.none Ye_tC27 rfl ?_
      refine o_mv (AV.lit (.int .i64 ((c.regs).getD (i) 0))) rfl ?_
      refine o_ct (c_nPower (txt (((P30).getD (i) 0 : Nat) : Int)) ((c.regs).getD (i) 0) (by first | assumption | decide | omega)) Gd.none Ye_tC28 rfl ?_
      refine o_mv (AV.tup [(AV.lit (.string (powS (txt (((P30).getD (i) 0 : Nat) : Int)) ((c.regs).getD (i) 0)))), (nm .i64 (powE (txt (((P30).getD (i) 0 : Nat) : Int)) ((c.regs).getD (i) 0)))]) rfl ?_
      refine o_extract (AV.lit (.string (powS (txt (((P30).getD (i) 0 : Nat) : Int)) ((c.regs).getD (i) 0)))) Gd.none rfl rfl ?_
      refine n_as (v' := (AV.lit (.string (toldS (((P30.getD (i) 0 : Nat) : Int) ^ ((c.regs).getD (i) 0).toNat))))) (by exact str_as2 hw.1) ?_
      refine o_extract (nm .i64 (powE (txt (((P30).getD (i) 0 : Nat) : Int)) ((c.regs).getD (i) 0))) Gd.none rfl rfl ?_
      refine n_as (v' := (nm .i64 (toldE (((P30.getD (i) 0 : Nat) : Int) ^ ((c.regs).getD (i) 0).toNat)))) (by exact congrArg (nm _) hw.2) ?_
      refine o_as (AV.lit (.string (toldS (((P30.getD (i) 0 : Nat) : Int) ^ ((c.regs).getD (i) 0).toNat)))) rfl ?_
      refine o_as (nm .i64 (toldE (((P30.getD (i) 0 : Nat) : Int) ^ ((c.regs).getD (i) 0).toNat))) rfl ?_
      refine aops_end ?_
      refine hK11 _ ?_
      refine awp_seq fun K12 hK12 => ?_
      refine awp_seq fun K13 hK13 => ?_
      refine awp_region rfl ?_
      refine o_mv (nm .i64 (toldE (((P30.getD (i) 0 : Nat) : Int) ^ ((c.regs).getD (i) 0).toNat))) rfl ?_
      refine n_eql (toldE (((P30.getD (i) 0 : Nat) : Int) ^ ((c.regs).getD (i) 0).toNat)) (0) Gd.none rfl rfl ?_
      refine aops_end ?_
      refine hK13 _ ?_
      refine awp_condQ (q := (toldE (((P30.getD (i) 0 : Nat) : Int) ^ ((c.regs).getD (i) 0).toNat)) = (0)) rfl (fun h3 => ?_) (fun h3 => ?_)
      · have hF : Fit (((P30.getD (i) 0 : Nat) : Int) ^ ((c.regs).getD (i) 0).toNat) := tld_ok (fun e => e (by assumption))
        obtain ⟨w1, w2⟩ := told_fit hF
        have hm := mul_str (a := s) (b := toldS (((P30.getD (i) 0 : Nat) : Int) ^ ((c.regs).getD (i) 0).toNat)) ⟨ho, by rw [w1]; exact okS_iff.2 (okS_txt hF)⟩
        have hn1 : numS (toldS (((P30.getD (i) 0 : Nat) : Int) ^ ((c.regs).getD (i) 0).toNat)) = (((P30.getD (i) 0 : Nat) : Int) ^ ((c.regs).getD (i) 0).toNat) := by rw [w1, numS_txt]
        refine awp_region rfl ?_
        refine o_mv (AV.lit (.string (s))) rfl ?_
        refine o_mv (AV.lit (.string (toldS (((P30.getD (i) 0 : Nat) : Int) ^ ((c.regs).getD (i) 0).toNat)))) rfl ?_
        refine o_ct (c_nMul (s) (toldS (((P30.getD (i) 0 : Nat) : Int) ^ ((c.regs).getD (i) 0).toNat)) (by first | assumption | decide | omega) (by first | assumption | decide | omega)) Gd.none Ye_tC29 rfl ?_
        refine o_mv (AV.tup [(AV.lit (.string ((if okS (s) && okS (toldS (((P30.getD (i) 0 : Nat) : Int) ^ ((c.regs).getD (i) 0).toNat)) then (toldS (numS (s) * numS (toldS (((P30.getD (i) 0 : Nat) : Int) ^ ((c.regs).getD (i) 0).toNat)))) else (({ data := #[] } : ByteArray)))))), (nm .i64 ((if okS (s) && okS (toldS (((P30.getD (i) 0 : Nat) : Int) ^ ((c.regs).getD (i) 0).toNat)) then (toldE (numS (s) * numS (toldS (((P30.getD (i) 0 : Nat) : Int) ^ ((c.regs).getD (i) 0).toNat)))) else (1))))]) rfl ?_
        refine o_extract (AV.lit (.string ((if okS (s) && okS (toldS (((P30.getD (i) 0 : Nat) : Int) ^ ((c.regs).getD (i) 0).toNat)) then (toldS (numS (s) * numS (toldS (((P30.getD (i) 0 : Nat) : Int) ^ ((c.regs).getD (i) 0).toNat)))) else (({ data := #[] } : ByteArray)))))) Gd.none rfl rfl ?_
        refine n_as (v' := (AV.lit (.string (toldS (numS s * (((P30.getD (i) 0 : Nat) : Int) ^ ((c.regs).getD (i) 0).toNat)))))) (by exact str_as2 (hm.1.trans (by rw [hn1]))) ?_
        refine o_extract (nm .i64 ((if okS (s) && okS (toldS (((P30.getD (i) 0 : Nat) : Int) ^ ((c.regs).getD (i) 0).toNat)) then (toldE (numS (s) * numS (toldS (((P30.getD (i) 0 : Nat) : Int) ^ ((c.regs).getD (i) 0).toNat)))) else (1)))) Gd.none rfl rfl ?_
        refine n_as (v' := (nm .i64 (toldE (numS s * (((P30.getD (i) 0 : Nat) : Int) ^ ((c.regs).getD (i) 0).toNat))))) (by exact congrArg (nm _) (hm.2.trans (by rw [hn1]))) ?_
        refine o_as (AV.lit (.string (toldS (numS s * (((P30.getD (i) 0 : Nat) : Int) ^ ((c.regs).getD (i) 0).toNat))))) rfl ?_
        refine o_as (nm .i64 (toldE (numS s * (((P30.getD (i) 0 : Nat) : Int) ^ ((c.regs).getD (i) 0).toNat)))) rfl ?_
        refine aops_end ?_
        refine hK12 _ ?_
        refine awp_seq fun K14 hK14 => ?_
        refine awp_region rfl ?_
        refine o_mv (nm .i64 (toldE (numS s * (((P30.getD (i) 0 : Nat) : Int) ^ ((c.regs).getD (i) 0).toNat)))) rfl ?_
        refine n_neq (toldE (numS s * (((P30.getD (i) 0 : Nat) : Int) ^ ((c.regs).getD (i) 0).toNat))) (0) Gd.none rfl rfl ?_
        refine aops_end ?_
        refine hK14 _ ?_
        refine awp_condQ (q := (toldE (numS s * (((P30.getD (i) 0 : Nat) : Int) ^ ((c.regs).getD (i) 0).toNat))) ≠ (0)) rfl (fun h4 => ?_) (fun h4 => ?_)
        · refine awp_seq fun K15 hK15 => ?_
          refine awp_region rfl ?_
          refine o_mv (nm .i64 (toldE (numS s * (((P30.getD (i) 0 : Nat) : Int) ^ ((c.regs).getD (i) 0).toNat)))) rfl ?_
          refine o_as (AV.lit (.string (({data := #[]} : ByteArray)))) rfl ?_
          refine o_as (nm .i64 (toldE (numS s * (((P30.getD (i) 0 : Nat) : Int) ^ ((c.regs).getD (i) 0).toNat)))) rfl ?_
          refine aops_end ?_
          refine hK15 _ ?_
          refine awp_ret ?_
          refine post_ret ⟨[(AV.lit (.string (({data := #[]} : ByteArray)))), (nm .i64 (toldE (numS s * (((P30.getD (i) 0 : Nat) : Int) ^ ((c.regs).getD (i) 0).toNat))))], And.intro (AV.le_refl _) (And.intro (AV.le_refl _) (trivial)), rfl, ?_⟩
          first | (rw [encS, encE, if_neg (by assumption), if_neg (by assumption)]; rfl) | (have hN : ¬ Fit (numC m c) := (by rw [hp, hdr]; intro hf; first | exact tld_big (by assumption) (fit_mul_le pp pr (fit_mul_le hz (Int.mul_pos pp pr) hf).2).1 | exact tld_big (by assumption) (fit_mul_le (Int.mul_pos hz pp) pr (by rw [Int.mul_assoc]; exact hf)).1); rw [encS, encE, if_pos hC, if_pos hC, tld_3 hN, show toldS (numC m c) = { data := #[] } from if_neg hN]; rw [tld_3 (tld_big (by assumption))]; rfl) | (have hE : numC m c = numS s := (by rw [hp, List.drop_of_length_le (by omega)]; exact Int.mul_one _); have hf := fit_numS (okS_iff.1 ho); rw [encS, encE, if_pos hC, if_pos hC, hE, (told_fit hf).1, (told_fit hf).2, txt_numS (okS_iff.1 ho)]; rfl)
        · refine awp_skip ?_
          refine hK9 _ ?_
          refine awp_region rfl ?_
          refine n_add (i) (1) Gd.none rfl rfl (by simp only [topOf]; omega) ?_
          refine o_mv (nm .i64 ((i) + (1))) rfl ?_
          refine aops_end ?_
          have hG := tld_ok (by assumption)
          obtain ⟨v1, v2⟩ := told_fit hG
          refine ⟨_, _, ?lt, ⟨i + 1, toldS (numS s * (((P30.getD (i) 0 : Nat) : Int) ^ ((c.regs).getD (i) 0).toNat)), (by omega), (by rw [hp, hdr, v1, numS_txt, Int.mul_assoc]), (by rw [v1]; exact okS_iff.2 (okS_txt hG)), (by rw [v1, numS_txt]; exact Int.mul_pos hz pp), (told_sz _), rfl, rfl⟩, ?wk⟩
          case lt => omega
          case wk => exact Wk.sub (And.intro (by first | rfl | (simp)) (And.intro rfl (And.intro rfl (And.intro (by first | rfl | exact congrArg (nm _) (by omega) | exact nm_int (by omega) | exact nm_int (by simp [IntKind.wrap, IntKind.bits, IntKind.signed]; omega)) (trivial))))) (trivial)
      · refine awp_skip ?_
        refine hK12 _ ?_
        refine awp_seq fun K16 hK16 => ?_
        refine awp_region rfl ?_
        refine o_mv (nm .i64 (toldE (((P30.getD (i) 0 : Nat) : Int) ^ ((c.regs).getD (i) 0).toNat))) rfl ?_
        refine n_neq (toldE (((P30.getD (i) 0 : Nat) : Int) ^ ((c.regs).getD (i) 0).toNat)) (0) Gd.none rfl rfl ?_
        refine aops_end ?_
        refine hK16 _ ?_
        refine awp_condB (b := decide ((toldE (((P30.getD (i) 0 : Nat) : Int) ^ ((c.regs).getD (i) 0).toNat)) ≠ (0))) rfl (fun _ => ?_) (fun hh => absurd (hh.symm.trans (decide_eq_true h3)) (by decide))
        refine awp_seq fun K17 hK17 => ?_
        refine awp_region rfl ?_
        refine o_mv (nm .i64 (toldE (((P30.getD (i) 0 : Nat) : Int) ^ ((c.regs).getD (i) 0).toNat))) rfl ?_
        refine o_as (AV.lit (.string (({data := #[]} : ByteArray)))) rfl ?_
        refine o_as (nm .i64 (toldE (((P30.getD (i) 0 : Nat) : Int) ^ ((c.regs).getD (i) 0).toNat))) rfl ?_
        refine aops_end ?_
        refine hK17 _ ?_
        refine awp_ret ?_
        refine post_ret ⟨[(AV.lit (.string (({data := #[]} : ByteArray)))), (nm .i64 (toldE (((P30.getD (i) 0 : Nat) : Int) ^ ((c.regs).getD (i) 0).toNat)))], And.intro (AV.le_refl _) (And.intro (AV.le_refl _) (trivial)), rfl, ?_⟩
        first | (rw [encS, encE, if_neg (by assumption), if_neg (by assumption)]; rfl) | (have hN : ¬ Fit (numC m c) := (by rw [hp, hdr]; intro hf; first | exact tld_big (by assumption) (fit_mul_le pp pr (fit_mul_le hz (Int.mul_pos pp pr) hf).2).1 | exact tld_big (by assumption) (fit_mul_le (Int.mul_pos hz pp) pr (by rw [Int.mul_assoc]; exact hf)).1); rw [encS, encE, if_pos hC, if_pos hC, tld_3 hN, show toldS (numC m c) = { data := #[] } from if_neg hN]; rw [tld_3 (tld_big (by assumption))]; rfl) | (have hE : numC m c = numS s := (by rw [hp, List.drop_of_length_le (by omega)]; exact Int.mul_one _); have hf := fit_numS (okS_iff.1 ho); rw [encS, encE, if_pos hC, if_pos hC, hE, (told_fit hf).1, (told_fit hf).2, txt_numS (okS_iff.1 ho)]; rfl)
    · refine awp_exit ?_
      refine hK5 _ ?_
      refine awp_seq fun K18 hK18 => ?_
      refine awp_region rfl ?_
      refine o_mv (AV.lit (.string (s))) rfl ?_
      refine o_as (AV.lit (.string (s))) rfl ?_
      refine o_as (nm .i64 (0)) rfl ?_
      refine aops_end ?_
      refine hK18 _ ?_
      refine awp_ret ?_
      refine post_ret ⟨[(AV.lit (.string (s))), (nm .i64 (0))], And.intro (AV.le_refl _) (And.intro (AV.le_refl _) (trivial)), rfl, ?_⟩
      first | (rw [encS, encE, if_neg (by assumption), if_neg (by assumption)]; rfl) | (have hN : ¬ Fit (numC m c) := (by rw [hp, hdr]; intro hf; first | exact tld_big (by assumption) (fit_mul_le pp pr (fit_mul_le hz (Int.mul_pos pp pr) hf).2).1 | exact tld_big (by assumption) (fit_mul_le (Int.mul_pos hz pp) pr (by rw [Int.mul_assoc]; exact hf)).1); rw [encS, encE, if_pos hC, if_pos hC, tld_3 hN, show toldS (numC m c) = { data := #[] } from if_neg hN]; rw [tld_3 (tld_big (by assumption))]; rfl) | (have hE : numC m c = numS s := (by rw [hp, List.drop_of_length_le (by omega)]; exact Int.mul_one _); have hf := fit_numS (okS_iff.1 ho); rw [encS, encE, if_pos hC, if_pos hC, hE, (told_fit hf).1, (told_fit hf).2, txt_numS (okS_iff.1 ho)]; rfl)

end Go.Proofs.YtpamhblonmpniaaGreatDoor

set_option linter.unusedVariables false
set_option linter.unusedSimpArgs false
namespace Go.Proofs.YtpamhblonmpniaaGreatDoor
open Go Go.Ab Go.Mth
theorem fieldsFrac : Tryz.prog.fieldsOf 59 = #[{ name := "Num", type := 9, offset := 0, embedded := false, tag := "", pkgPath := "", byteOffset := 0 }, { name := "Den", type := 9, offset := 1, embedded := false, tag := "", pkgPath := "", byteOffset := 16 }] := by kernel_rfl
theorem eq_api_Frac (a1 a2 b1 b2 : ByteArray) : AggEq cx.P 59 [.string a1, .string a2] [.string b1, .string b2] (decide (a1 = b1 ∧ a2 = b2)) := by
  refine ⟨by kernel_rfl, fun w => ?_⟩
  have hS : Tryz.prog.underlying 59 = some (.struct (Tryz.prog.fieldsOf 59)) := by kernel_rfl
  show (Op.equalIn 10000 59 _ _).run Tryz.prog w = _
  rw [show (10000 : Nat) = 9998 + 1 + 1 from rfl, run_equalIn_agg w (9998 + 1) _ _ _ hS (by kernel_rfl), fieldsFrac]
  have uS : Tryz.prog.underlying 9 = some .string := by kernel_rfl
  simp only [Op.eqFields, part_str uS, Sem.run_bind, Sem.run_ite, run_equalIn_string _ _ _ _ _ uS]
  by_cases h1 : a1 = b1 <;> by_cases h2 : a2 = b2 <;> simp [ba_eq, run_equalIn_string _ _ _ _ _ uS, h1, h2]
end Go.Proofs.YtpamhblonmpniaaGreatDoor

set_option linter.unusedVariables false
namespace Go.Mth
open Go.Ab
def iterZ (m : MapM) : Nat → Int → Int
  | 0, z => z
  | k + 1, z => stepZ m (iterZ m k z)
def sbs (l : List ByteArray) : List AV := l.map fun s => .lit (.string s)
def strs (zs : List Int) : List AV := sbs (zs.map txt)
section
variable {C : Ctx} {ops : Array Oper} {s : List (Nat × AV)} {m : List (Nat × AO)} {os : List Oper} {K : List Eff → St → Prop} {d : Nat} {t : TypeId} {p : String} {af : Array Edge} {g : Option (Nat × Bool)}
theorem s_len {ty e : TypeId} {x : Operand} (xs : List ByteArray) (hg : Gd ops s g) (ht : C.P.underlying ty = some (.slice e)) (hx : ev s x = .sl 1 (sbs xs)) (kk : aops C ops ⟨(d, nm .i64 xs.length) :: s, m⟩ os fun es σ' => K ({ val := nm .i64 xs.length } :: es) σ') :
    aops C ops ⟨s, m⟩ (⟨some d, .call { callee := .builtin .len, args := #[x], argTypes := #[ty] }, t, p, af, g⟩ :: os) K := o_lenSl xs.length hg ht hx (by simp [sbs]) kk
theorem s_index {ty : TypeId} {x y : Operand} {e by' : Nat} {kk' : IntKind} (xs : List ByteArray) (i : Nat) (hg : Gd ops s g) (ht : tyElem C.P ty = some (e, 1, by')) (hx : ev s x = .sl 1 (sbs xs)) (hy : ev s y = nm kk' i) (h1 : i < xs.length)
    (kk : aops C ops ⟨(d, .ip ((sbs xs).drop i)) :: s, m⟩ os fun es σ' => K ({ val := .ip ((sbs xs).drop i) } :: es) σ') : aops C ops ⟨s, m⟩ (⟨some d, .indexAddr ty x y, t, p, af, g⟩ :: os) K :=
  o_index1 (i := (i : Int)) hg ht hx hy (by omega) (by simpa [sbs] using h1) kk
theorem s_loadI {ty : TypeId} {x : Operand} (xs : List ByteArray) (i : Nat) (hg : Gd ops s g) (ht : tySc C.P ty = true) (hx : ev s x = .ip ((sbs xs).drop i)) (h1 : i < xs.length)
    (kk : aops C ops ⟨(d, .lit (.string (xs.getD i { data := #[] }))) :: s, m⟩ os fun es σ' => K ({ val := .lit (.string (xs.getD i { data := #[] })) } :: es) σ') : aops C ops ⟨s, m⟩ (⟨some d, .load ty x, t, p, af, g⟩ :: os) K :=
  o_loadIS (.lit (.string (xs.getD i { data := #[] }))) hg ht hx (dropMap0 (f := fun s => AV.lit (.string s)) { data := #[] } h1) kk
end
def orbQ (m : MapM) (a : ByteArray) (k : Int) : Prop := okM m = true ∧ okS a = true ∧ 0 ≤ k ∧ k ≤ 1000
open Classical in
noncomputable def orbS (m : MapM) (a : ByteArray) (k : Int) : List Int := if okM m = true ∧ okS a = true ∧ 0 ≤ k ∧ k ≤ 1000 ∧ Fit (runZ m k.toNat (numS a)) then orbZ m k.toNat (numS a) else []
open Classical in
noncomputable def orbE (m : MapM) (a : ByteArray) (k : Int) : Nat := if okM m = true ∧ okS a = true then if 0 ≤ k ∧ k ≤ 1000 then if Fit (runZ m k.toNat (numS a)) then 0 else 3 else 2 else 1
noncomputable def runS (m : MapM) (a : ByteArray) (k : Int) : ByteArray := if okM m = true ∧ okS a = true ∧ 0 ≤ k ∧ k ≤ 20000 then toldS (runZ m k.toNat (numS a)) else { data := #[] }
noncomputable def runE (m : MapM) (a : ByteArray) (k : Int) : Nat := if okM m = true ∧ okS a = true then if 0 ≤ k ∧ k ≤ 20000 then toldE (runZ m k.toNat (numS a)) else 2 else 1
def fallF (m : MapM) (a : ByteArray) (k : Int) : Nat × Int × Nat := fallZ m (numS a) k.toNat (numS a) 1
noncomputable def fallK (m : MapM) (a : ByteArray) (k : Int) : Nat := if okM m = true ∧ okS a = true ∧ 1 ≤ k ∧ k ≤ 20000 then (fallF m a k).1 else 0
noncomputable def fallT (m : MapM) (a : ByteArray) (k : Int) : ByteArray := if okM m = true ∧ okS a = true ∧ 1 ≤ k ∧ k ≤ 20000 ∧ (fallF m a k).2.2 = 0 then txt (fallF m a k).2.1 else { data := #[] }
noncomputable def fallE (m : MapM) (a : ByteArray) (k : Int) : Nat := if okM m = true ∧ okS a = true then if 1 ≤ k ∧ k ≤ 20000 then (fallF m a k).2.2 else 2 else 1
end Go.Mth

set_option linter.unusedVariables false
namespace Go.Mth
open Go.Ab
end Go.Mth

set_option linter.unusedVariables false
namespace Go.Mth
open Go.Ab
def prodZ (m : MapM) (z : Int) : Nat → Int
  | 0 => 1
  | i + 1 => prodZ m z i * m.mul.getD (iterZ m i z % m.mod).toNat 0
end Go.Mth

set_option linter.unusedVariables false
set_option linter.unusedSimpArgs false
namespace Go.Mth
open Go.Ab
def freeM (m : MapM) : Prop := ∀ i, i < m.mul.length → Nat.gcd (m.mul.getD i 0).toNat m.mod.toNat ≤ 1
noncomputable instance (m : MapM) : Decidable (freeM m) := Classical.propDecidable _
def primeN (a b : Nat) : Prop := ∀ d, 2 ≤ d → d ≤ a → d ≤ b → ¬ (a % d = 0 ∧ b % d = 0)
noncomputable instance (a b : Nat) : Decidable (primeN a b) := Classical.propDecidable _
end Go.Mth

set_option linter.unusedVariables false
set_option linter.unusedSimpArgs false
namespace Go.Mth
open Go.Ab
def wordZ (m : MapM) (z : Int) : Nat → List Int
  | 0 => []
  | k + 1 => wordZ m z k ++ [iterZ m k z % m.mod]
structure LinZ where
  mul : Int
  add : Int
  div : Int
def oneZ : LinZ := ⟨1, 0, 1⟩
def mulM (m : MapM) (r : Int) : Int := m.mul.getD r.toNat 0
def addM (m : MapM) (r : Int) : Int := m.add.getD r.toNat 0
def thenZ (m : MapM) (l : LinZ) (r : Int) : LinZ := ⟨mulM m r * l.mul, mulM m r * l.add + addM m r * l.div, l.div * m.mod⟩
def lineZ (m : MapM) (w : List Int) : LinZ := w.foldl (thenZ m) oneZ
def lookT (p n a r : Int) : Nat := ((List.range n.toNat).find? fun (t : Nat) => decide ((a + (t : Int) * p) % n = r)).getD 0
def nextR (m : MapM) (s : Int × LinZ) (r : Int) : Int × LinZ := (s.1 + (lookT s.2.mul m.mod ((s.2.mul * s.1 + s.2.add) / s.2.div) r : Int) * s.2.div, thenZ m s.2 r)
def restZ (m : MapM) (w : List Int) : Int × LinZ := w.foldl (nextR m) (0, oneZ)
def IsW (m : MapM) (w : List Int) : Prop := ∀ r ∈ w, 0 ≤ r ∧ r < m.mod
end Go.Mth

set_option linter.unusedVariables false
set_option linter.unusedSimpArgs false
namespace Go.Mth
open Go.Ab
def linK (k : IntKind) (l : LinZ) : AV := .agg [bp (l.mul < 0), .sl 1 (ns k (digs l.mul.natAbs)), bp (l.add < 0), .sl 1 (ns k (digs l.add.natAbs)), bp (l.div < 0), .sl 1 (ns k (digs l.div.natAbs))]
def linW (l : LinZ) : AV := linK .u32 l
def linR (l : LinZ) : AV := linK .i64 l
structure LineS where
  mul : ByteArray
  add : ByteArray
  div : ByteArray
def lineV (l : LineS) : AV := .agg [.lit (.string l.mul), .lit (.string l.add), .lit (.string l.div)]
def noS : ByteArray := { data := #[] }
def lineT (l : LinZ) : LineS := ⟨txt l.mul, txt l.add, txt l.div⟩
def OkW (m : MapM) (w : List Int) : Prop := IsW m w ∧ w.length ≤ 200
noncomputable instance (m : MapM) (w : List Int) : Decidable (OkW m w) := Classical.propDecidable _
def FitK (m : MapM) (z : Int) (k : Nat) : Prop := ∀ j, j < k → Fit (iterZ m j z)
noncomputable instance (m : MapM) (z : Int) (k : Nat) : Decidable (FitK m z k) := Classical.propDecidable _
noncomputable def wordE (m : MapM) (a : ByteArray) (K : Int) : Nat := if okM m = true ∧ okS a = true then if 0 ≤ K ∧ K ≤ 200 then if FitK m (numS a) K.toNat then 0 else 3 else 2 else 1
noncomputable def wordL (m : MapM) (a : ByteArray) (K : Int) : List Int := if wordE m a K = 0 then wordZ m (numS a) K.toNat else []
noncomputable def lineE (m : MapM) (w : List Int) : Nat := if okM m = true then if OkW m w then 0 else 2 else 1
noncomputable def lineS (m : MapM) (w : List Int) : LineS := if okM m = true ∧ OkW m w then lineT (lineZ m w) else ⟨noS, noS, noS⟩
noncomputable def restE (m : MapM) (w : List Int) : Nat := if okM m = true then if OkW m w ∧ freeM m then 0 else 2 else 1
noncomputable def restS (m : MapM) (w : List Int) : ByteArray := if okM m = true ∧ OkW m w ∧ freeM m then txt (restZ m w).1 else noS
noncomputable def restD (m : MapM) (w : List Int) : ByteArray := if okM m = true ∧ OkW m w ∧ freeM m then txt (m.mod ^ w.length) else noS
noncomputable def okL (l : LineS) : Bool := okS l.mul && okS l.add && okS l.div
noncomputable def appV (l : LineS) (a : ByteArray) : Int := numS l.mul * numS a + numS l.add
noncomputable def appE (l : LineS) (a : ByteArray) : Nat := if okL l = true ∧ okS a = true then if 0 < numS l.div then if Fit (appV l a) then 0 else 3 else 2 else 1
def AppB (l : LineS) (a : ByteArray) : Prop := okL l = true ∧ okS a = true ∧ 0 < numS l.div ∧ Fit (appV l a) ∧ appV l a % numS l.div = 0
noncomputable instance (l : LineS) (a : ByteArray) : Decidable (AppB l a) := Classical.propDecidable _
noncomputable def appS (l : LineS) (a : ByteArray) : ByteArray := if AppB l a then txt (appV l a / numS l.div) else noS
end Go.Mth

set_option linter.unusedVariables false
set_option linter.unusedSimpArgs false
namespace Go.Mth
open Go.Ab
theorem fit_of_pow' {z : Int} {k : Nat} (h : z.natAbs < 10 ^ k) (hk : k ≤ 2000) (h1 : 1 ≤ k) : Fit z := fit_of_pow h hk h1
end Go.Mth

set_option linter.unusedVariables false
set_option linter.unusedSimpArgs false
namespace Go.Mth
open Go.Ab
theorem getD_mem {α : Type} {l : List α} {i : Nat} {d : α} (h : i < l.length) : l.getD i d ∈ l := by
  rw [List.getD_eq_getElem?_getD, List.getElem?_eq_getElem h]
  exact List.getElem_mem h
noncomputable def shortB (a : ByteArray) : Bool := decide (a.size ≤ 601) && okS a
def ShortS (l : List ByteArray) : Prop := ∀ k, k < l.length → shortB (l.getD k { data := #[] }) = true
noncomputable instance (l : List ByteArray) : Decidable (ShortS l) := Classical.propDecidable _
theorem shortB_yes {a : ByteArray} (h : a.size ≤ 601) (h2 : okS a = true) : shortB a = true := by unfold shortB; rw [h2, decide_eq_true h]; rfl
theorem shortB_le {a : ByteArray} (h : shortB a = true) : a.size ≤ 601 := by unfold shortB at h; simp at h; exact h.1
theorem shortB_ok {a : ByteArray} (h : shortB a = true) : okS a = true := by unfold shortB at h; simp at h; exact h.2
def propN (m : MapM) (w : List Int) : Nat → List Int
  | 0 => []
  | i + 1 => propN m w i ++ [w.getD i 0 % m.mod]
def propW (m : MapM) (w : List Int) : List Int := propN m w (min w.length 40)
end Go.Mth

set_option linter.unusedVariables false
set_option linter.unusedSimpArgs false
namespace Go.Proofs.YtpamhblonmpniaaGreatDoor
open Go Go.Ab Go.Mth
theorem Zx_tU31 : cx.P.underlying 31 = some (.slice 9) := by kernel_rfl
theorem Zx_tE31 : tyElem cx.P 31 = some (9, 1, 16) := by kernel_rfl
theorem Zx_tS9 : tySc cx.P 9 = true := by kernel_rfl
theorem Zx_tT9 : cx.P.underlying 9 = some .string := by kernel_rfl
theorem Zx_tC17 : callable cx.P 17 = true := by kernel_rfl
theorem Zx_tO41 : tyZero cx.P 41 = some [(Go.Value.bool false), (Go.Value.slice none 0 0)] := by kernel_rfl
theorem Zx_tC30 : callable cx.P 30 = true := by kernel_rfl
theorem Zx_tZ41 : tySize cx.P 41 = some 2 := by kernel_rfl
theorem Zx_tA41 : tyAgg cx.P 41 = some 2 := by kernel_rfl
theorem Zx_tC20 : callable cx.P 20 = true := by kernel_rfl
theorem c_tShort (l : List ByteArray) (hl : l.length ≤ 17592186044416) (hs : ∀ a ∈ l, a.size ≤ 9223372036854775807) : ECalls cx 5 [(AV.sl 1 (sbs (l)))] (bp (ShortS l)) := by
  refine ecalls_of_awp Tryz.func5 (c := _) rfl (Nat.le_of_ble_eq_true rfl) ?_
  show awp cx 24 _ (postF cx Tryz.f5 _) ⟨[(0, (AV.sl 1 (sbs (l))))], []⟩
  refine awp_seq fun K0 hK0 => ?_
  refine awp_region rfl ?_
  refine o_as (AV.lit (.bool false)) rfl ?_
  refine aops_end ?_
  refine hK0 _ ?_
  refine awp_seq fun K1 hK1 => ?_
  refine awp_seq fun K2 hK2 => ?_
  refine awp_region rfl ?_
  refine o_as (nm .i64 (0)) rfl ?_
  refine aops_end ?_
  refine hK2 _ ?_
  refine awp_block ?_
  refine awp_loopR (fun κ σ => ∃ (i : Nat), (i ≤ l.length) ∧ (∀ k, k < i → shortB (l.getD k { data := #[] }) = true) ∧ (l.length - i) = κ ∧ σ = ⟨[(0, (AV.sl 1 (sbs (l)))), (3, (nm .i64 (i)))], []⟩) ⟨_, _, ⟨0, (by omega), (fun k hk => by omega), rfl, rfl⟩, ?wk0⟩ ?rd0
  case wk0 =>
    exact Wk.sub (And.intro rfl (And.intro (by first | rfl | exact congrArg (nm _) (by omega) | exact nm_int (by omega) | exact nm_int (by simp [IntKind.wrap, IntKind.bits, IntKind.signed]; omega)) (trivial))) (trivial)
  rintro κ _ ⟨i, hi, hf, rfl, rfl⟩
  refine awp_seq fun K3 hK3 => ?_
  refine awp_seq fun K4 hK4 => ?_
  refine awp_region rfl ?_
  refine o_mv (nm .i64 (i)) rfl ?_
  refine o_mv (AV.sl 1 (sbs (l))) rfl ?_
  refine s_len (l) Gd.none Zx_tU31 rfl ?_
  refine n_lss (i) ((l).length) Gd.none rfl rfl ?_
  refine aops_end ?_
  refine hK4 _ ?_
  refine awp_condQ (q := (i) < ((l).length)) rfl (fun h1 => ?_) (fun h1 => ?_)
  · have hsi := hs _ (getD_mem (l := l) (i := i) (d := { data := #[] }) (by omega))
    refine awp_skip ?_
    refine hK3 _ ?_
    refine awp_seq fun K5 hK5 => ?_
    refine awp_block ?_
    refine awp_seq fun K6 hK6 => ?_
    refine awp_region rfl ?_
    refine o_mv (AV.sl 1 (sbs (l))) rfl ?_
    refine o_mv (nm .i64 (i)) rfl ?_
    refine s_index (l) (i) Gd.none Zx_tE31 rfl rfl (by omega) ?_
    refine s_loadI (l) (i) Gd.none Zx_tS9 rfl (by omega) ?_
    refine n_lenS ((l).getD (i) { data := #[] }) Gd.none rfl Zx_tT9 ?_
    refine n_gtr (((l).getD (i) { data := #[] }).size) (601) Gd.none rfl rfl ?_
    refine o_mv (bp ((601) < (((l).getD (i) { data := #[] }).size))) rfl ?_
    refine o_splitP (q := (601) < (((l).getD (i) { data := #[] }).size)) 16 rfl (fun h2 => ?_) (fun h2 => ?_)
    · refine o_skip rfl rfl (decide_eq_true h2) ?_
      refine o_skip rfl rfl (decide_eq_true h2) ?_
      refine o_skip rfl rfl (decide_eq_true h2) ?_
      refine o_skip rfl rfl (decide_eq_true h2) ?_
      refine o_skip rfl rfl (decide_eq_true h2) ?_
      refine o_skip rfl rfl (decide_eq_true h2) ?_
      refine o_pickT (AV.lit (.bool true)) Gd.none rfl (decide_eq_true h2) rfl ?_
      refine aops_end ?_
      refine hK6 _ ?_
      refine awp_condB (b := true) rfl (fun _ => ?_) (fun hh => absurd (hh.symm.trans rfl) (by decide))
      refine awp_seq fun K7 hK7 => ?_
      refine awp_region rfl ?_
      refine o_as (AV.lit (.bool false)) rfl ?_
      refine aops_end ?_
      refine hK7 _ ?_
      refine awp_ret ?_
      refine post_ret ⟨[(AV.lit (.bool false))], And.intro (AV.le_refl _) (trivial), rfl, ?_⟩
      exact (bl_bp (b := false) ⟨fun h => (by cases h), fun h => absurd h (fun hh => absurd (shortB_le (hh i (by omega))) (by omega))⟩).symm
    · refine o_move (AV.sl 1 (sbs (l))) (Gd.yes rfl rfl (decide_eq_false h2)) rfl ?_
      refine o_move (nm .i64 (i)) (Gd.yes rfl rfl (decide_eq_false h2)) rfl ?_
      refine s_index (l) (i) (Gd.yes rfl rfl (decide_eq_false h2)) Zx_tE31 rfl rfl (by omega) ?_
      refine s_loadI (l) (i) (Gd.yes rfl rfl (decide_eq_false h2)) Zx_tS9 rfl (by omega) ?_
      refine o_ct (c_rValid ((l).getD (i) { data := #[] }) (by first | assumption | decide | omega)) (Gd.yes rfl rfl (decide_eq_false h2)) Zx_tC17 rfl ?_
      refine o_not (b := okS ((l).getD (i) { data := #[] })) (Gd.yes rfl rfl (decide_eq_false h2)) rfl ?_
      refine o_pickF (AV.lit (.bool (!(okS ((l).getD (i) { data := #[] }))))) Gd.none rfl (decide_eq_false h2) rfl ?_
      refine aops_end ?_
      refine hK6 _ ?_
      refine awp_condB (b := !(okS ((l).getD (i) { data := #[] }))) rfl (fun h3 => ?_) (fun h3 => ?_)
      · refine awp_seq fun K8 hK8 => ?_
        refine awp_region rfl ?_
        refine o_as (AV.lit (.bool false)) rfl ?_
        refine aops_end ?_
        refine hK8 _ ?_
        refine awp_ret ?_
        refine post_ret ⟨[(AV.lit (.bool false))], And.intro (AV.le_refl _) (trivial), rfl, ?_⟩
        exact (bl_bp (b := false) ⟨fun h => (by cases h), fun h => absurd h (fun hh => absurd (shortB_ok (hh i (by omega))) (by simpa using h3))⟩).symm
      · refine awp_skip ?_
        refine hK5 _ ?_
        refine awp_region rfl ?_
        refine o_mv (nm .i64 (i)) rfl ?_
        refine n_add (i) (1) Gd.none rfl rfl (by simp only [topOf]; omega) ?_
        refine o_as (nm .i64 ((i) + (1))) rfl ?_
        refine aops_end ?_
        refine ⟨_, _, ?lt, ⟨i + 1, (by omega), (fun k hk => by rcases Nat.lt_or_ge k i with e | e; exact hf k e; rw [show k = i by omega]; exact shortB_yes (by omega) (by simpa using h3)), rfl, rfl⟩, ?wk⟩
        case lt => omega
        case wk => exact Wk.sub (And.intro rfl (And.intro (by first | rfl | exact congrArg (nm _) (by omega) | exact nm_int (by omega) | exact nm_int (by simp [IntKind.wrap, IntKind.bits, IntKind.signed]; omega)) (trivial))) (trivial)
  · refine awp_exit ?_
    refine hK1 _ ?_
    refine awp_seq fun K9 hK9 => ?_
    refine awp_region rfl ?_
    refine o_as (AV.lit (.bool true)) rfl ?_
    refine aops_end ?_
    refine hK9 _ ?_
    refine awp_ret ?_
    refine post_ret ⟨[(AV.lit (.bool true))], And.intro (AV.le_refl _) (trivial), rfl, ?_⟩
    exact (bl_bp (b := true) ⟨fun _ => (show ShortS l from fun k hk => hf k (by omega)), fun _ => rfl⟩).symm

theorem c_tPower (b : Int) (k : Nat) (hb : 0 ≤ b) (hb2 : b ≤ 999999) (hk : k ≤ 1000000) : ECalls cx 31 [(AV.lit (.int .i64 (b))), (nm .i64 (k))] (intR (b ^ k)) := by
  refine ecalls_of_awp Tryz.func31 (c := _) rfl (Nat.le_of_ble_eq_true rfl) ?_
  show awp cx 18 _ (postF cx Tryz.f31 _) ⟨[(0, (AV.lit (.int .i64 (b)))), (1, (nm .i64 (k)))], []⟩
  have hb1 := small_len (z := b) (by omega)
  refine awp_seq fun K0 hK0 => ?_
  refine awp_region rfl ?_
  refine o_alloc 2 [(AV.lit (.bool false)), (AV.lit (.slice none 0 0))] Gd.none Zx_tO41 rfl rfl rfl ?_
  refine aops_end ?_
  refine hK0 _ ?_
  refine awp_seq fun K1 hK1 => ?_
  refine awp_region rfl ?_
  refine o_ct (c_rOf ((1 : Int)) (by first | decide | omega) (by first | decide | omega)) Gd.none Zx_tC30 rfl ?_
  refine o_alloc 3 [(AV.lit (.bool false)), (AV.lit (.slice none 0 0))] Gd.none Zx_tO41 rfl rfl rfl ?_
  refine o_store [(3, (oZ 41 .i64 ((1 : Int)))), (2, (AO.var 41 [(AV.lit (.bool false)), (AV.lit (.slice none 0 0))]))] Gd.none Zx_tZ41 rfl rfl rfl rfl rfl rfl ?_
  refine aops_end ?_
  refine hK1 _ ?_
  refine awp_seq fun K2 hK2 => ?_
  refine awp_seq fun K3 hK3 => ?_
  refine awp_region rfl ?_
  refine o_as (nm .i64 (0)) rfl ?_
  refine aops_end ?_
  refine hK3 _ ?_
  refine awp_block ?_
  refine awp_loopR (fun κ σ => ∃ (i : Nat), (i ≤ k) ∧ ((digs (b ^ i).natAbs).length ≤ i + 1) ∧ (k - i) = κ ∧ σ = ⟨[(0, (AV.lit (.int .i64 (b)))), (1, (nm .i64 (k))), (4, (AV.ref 2 (0))), (5, (AV.ref 3 (0))), (6, (nm .i64 (i)))], [(2, (AO.var 41 [(AV.lit (.bool false)), (AV.lit (.slice none 0 0))])), (3, (oZ 41 .i64 ((b ^ i))))]⟩) ⟨_, _, ⟨0, (by omega), (by rw [Int.pow_zero]; have := small_len (z := 1) (by decide); omega), rfl, rfl⟩, ?wk0⟩ ?rd0
  case wk0 =>
    exact Wk.sub (And.intro rfl (And.intro rfl (And.intro rfl (And.intro rfl (And.intro (by first | rfl | exact congrArg (nm _) (by omega) | exact nm_int (by omega) | exact nm_int (by simp [IntKind.wrap, IntKind.bits, IntKind.signed]; omega)) (trivial)))))) (And.intro (by first | rfl | (simp only [Int.pow_zero, Int.pow_succ]; rfl)) (And.intro (by first | rfl | (simp only [Int.pow_zero, Int.pow_succ]; rfl)) (trivial)))
  rintro κ _ ⟨i, hi, hl, rfl, rfl⟩
  refine awp_seq fun K4 hK4 => ?_
  refine awp_seq fun K5 hK5 => ?_
  refine awp_region rfl ?_
  refine o_mv (nm .i64 (i)) rfl ?_
  refine o_mv (nm .i64 (k)) rfl ?_
  refine n_lss (i) (k) Gd.none rfl rfl ?_
  refine aops_end ?_
  refine hK5 _ ?_
  refine awp_condQ (q := (i) < (k)) rfl (fun h1 => ?_) (fun h1 => ?_)
  · refine awp_skip ?_
    refine hK4 _ ?_
    refine awp_seq fun K6 hK6 => ?_
    refine awp_block ?_
    refine awp_regionD rfl ?_
    refine o_loadA [(bp ((b ^ i) < 0)), (AV.sl 1 (ns .i64 (digs ((b ^ i)).natAbs)))] Gd.none Zx_tA41 rfl rfl rfl rfl rfl ?_
    refine o_mv (AV.lit (.int .i64 (b))) rfl ?_
    refine o_ct (c_rOf (b) (by first | decide | omega) (by first | decide | omega)) Gd.none Zx_tC30 rfl ?_
    refine o_ct (c_rMul ((b ^ i)) ((b)) (by first | omega | assumption | (simp only [Int.natAbs_neg]; omega)) (by first | omega | assumption | (simp only [Int.natAbs_neg]; omega))) Gd.none Zx_tC20 rfl ?_
    refine o_store [(2, (AO.var 41 [(AV.lit (.bool false)), (AV.lit (.slice none 0 0))])), (3, (oZ 41 .i64 (((b ^ i) * (b)))))] Gd.none Zx_tZ41 rfl rfl rfl rfl rfl rfl ?_
    refine aops_end ⟨by kernel_rfl, ?_⟩
    refine hK6 _ ?_
    refine awp_region rfl ?_
    refine o_mv (nm .i64 (i)) rfl ?_
    refine n_add (i) (1) Gd.none rfl rfl (by simp only [topOf]; omega) ?_
    refine o_as (nm .i64 ((i) + (1))) rfl ?_
    refine aops_end ?_
    refine ⟨_, _, ?lt, ⟨i + 1, (by omega), (by have := len_mulZ (b ^ i) b; rw [Int.pow_succ]; omega), rfl, rfl⟩, ?wk⟩
    case lt => omega
    case wk => exact Wk.sub (And.intro rfl (And.intro rfl (And.intro rfl (And.intro rfl (And.intro (by first | rfl | exact congrArg (nm _) (by omega) | exact nm_int (by omega) | exact nm_int (by simp [IntKind.wrap, IntKind.bits, IntKind.signed]; omega)) (trivial)))))) (And.intro rfl (And.intro (by first | rfl | (simp only [Int.pow_zero, Int.pow_succ]; rfl)) (trivial)))
  · refine awp_exit ?_
    refine hK2 _ ?_
    refine awp_seq fun K7 hK7 => ?_
    refine awp_region rfl ?_
    refine o_loadA [(bp ((b ^ i) < 0)), (AV.sl 1 (ns .i64 (digs ((b ^ i)).natAbs)))] Gd.none Zx_tA41 rfl rfl rfl rfl rfl ?_
    refine o_store [(2, (oZ 41 .i64 ((b ^ i)))), (3, (oZ 41 .i64 ((b ^ i))))] Gd.none Zx_tZ41 rfl rfl rfl rfl rfl rfl ?_
    refine aops_end ?_
    refine hK7 _ ?_
    refine awp_ret ?_
    refine post_ret ⟨[(intR ((b ^ i)))], And.intro ⟨2, (oZ 41 .i64 ((b ^ i))), rfl, rfl, rfl, Or.inl ⟨Zx_tA41, AV.le_refl _⟩⟩ (trivial), rfl, ?_⟩
    exact congrArg intR (by rw [show k = i by omega])

end Go.Proofs.YtpamhblonmpniaaGreatDoor

set_option linter.unusedVariables false
set_option linter.unusedSimpArgs false
namespace Go.Mth
open Go Go.Ab
def digW (l : List Frc) : Nat → Int
  | 0 => 0
  | i + 1 => IntKind.wrap .i64 (IntKind.wrap .i64 (digW l i + (((l.getD i default).num.size : Nat) : Int)) + (((l.getD i default).den.size : Nat) : Int))
def lightP (l : List Frc) : Prop := l.length ≤ 2000 ∧ (100 < l.length ∨ digW l l.length ≤ 8000)
instance (l : List Frc) : Decidable (lightP l) := by unfold lightP; infer_instance
def adM : Mac := ⟨2, [⟨1, 0, 1, 2⟩, ⟨0, 1, 0, 0⟩]⟩
def exC : Cfg := ⟨0, [2, 1]⟩
def exP : List (Nat × Nat) := [(13, 10), (19, 5), (21, 11), (5, 7), (11, 13), (17, 19)]
def exF : List Frc := exP.map fun p => frc p.1 p.2
def exL : List Frc := [⟨⟨#[49, 51]⟩, ⟨#[49, 48]⟩⟩, ⟨⟨#[49, 57]⟩, ⟨#[53]⟩⟩, ⟨⟨#[50, 49]⟩, ⟨#[49, 49]⟩⟩, ⟨⟨#[53]⟩, ⟨#[55]⟩⟩, ⟨⟨#[49, 49]⟩, ⟨#[49, 51]⟩⟩, ⟨⟨#[49, 55]⟩, ⟨#[49, 57]⟩⟩]
theorem tx5 : txt 5 = ⟨#[53]⟩ := by simp [txt, txtL, decs, strN]; rfl
theorem tx7 : txt 7 = ⟨#[55]⟩ := by simp [txt, txtL, decs, strN]; rfl
theorem tx10 : txt 10 = ⟨#[49, 48]⟩ := by simp [txt, txtL, decs, strN]; rfl
theorem tx11 : txt 11 = ⟨#[49, 49]⟩ := by simp [txt, txtL, decs, strN]; rfl
theorem tx13 : txt 13 = ⟨#[49, 51]⟩ := by simp [txt, txtL, decs, strN]; rfl
theorem tx17 : txt 17 = ⟨#[49, 55]⟩ := by simp [txt, txtL, decs, strN]; rfl
theorem tx19 : txt 19 = ⟨#[49, 57]⟩ := by simp [txt, txtL, decs, strN]; rfl
theorem tx21 : txt 21 = ⟨#[50, 49]⟩ := by simp [txt, txtL, decs, strN]; rfl
theorem tx60 : txt 60 = ⟨#[54, 48]⟩ := by simp [txt, txtL, decs, strN]; rfl
theorem tx90 : txt 90 = ⟨#[57, 48]⟩ := by simp [txt, txtL, decs, strN]; rfl
theorem exF_L : exF = exL := by
  show [(⟨txt 13, txt 10⟩ : Frc), ⟨txt 19, txt 5⟩, ⟨txt 21, txt 11⟩, ⟨txt 5, txt 7⟩, ⟨txt 11, txt 13⟩, ⟨txt 17, txt 19⟩] = exL
  rw [tx13, tx10, tx19, tx5, tx21, tx11, tx7, tx17]
  rfl
theorem ad_ok : okMac adM := by decide
theorem ex_cmp : cmpR adM = exL ∧ cmpE adM = 0 := by
  refine ⟨?_, if_pos ad_ok⟩
  rw [← exF_L]
  exact (if_pos ad_ok).trans rfl
theorem red_frc {a b : Nat} (ha : 0 < a ∧ a ≤ 113) (hb : 0 < b ∧ b ≤ 113) (hg : Nat.gcd a b = 1) : redP (frc a b) := by
  unfold redP frc
  simp only [numS_txt]
  exact ⟨⟨okS_iff.2 (okS_txt (fit_113 ha.2)), by omega⟩, ⟨okS_iff.2 (okS_txt (fit_113 hb.2)), by omega⟩, by rw [Int.gcd_natCast_natCast]; exact hg⟩
theorem ex_lst : lstP exL := by
  rw [← exF_L]
  refine ⟨by decide, fun f hf => ?_⟩
  obtain ⟨p, hp, rfl⟩ := List.mem_map.1 hf
  have : ∀ p ∈ exP, (0 < p.1 ∧ p.1 ≤ 113) ∧ (0 < p.2 ∧ p.2 ≤ 113) ∧ Nat.gcd p.1 p.2 = 1 := by decide
  exact red_frc (this p hp).1 (this p hp).2.1 (this p hp).2.2
theorem ex_sz : ∀ f ∈ exL, f.num.size ≤ 9223372036854775807 ∧ f.den.size ≤ 9223372036854775807 := by decide
theorem hit_frc (z : Int) (a b : Nat) : hitP z (frc a b) ↔ z % ((b : Nat) : Int) = 0 := by unfold hitP frc; simp only [numS_txt]
theorem ply_s {l : List Frc} {k c : Nat} {z w : Int} (h : 0 ≤ fstI l z) (e : nxF l z = w) (hF : Fit w) : ply l (k + 1) z c = ply l k w (c + 1) := by
  subst e
  exact (if_pos h).trans (if_pos hF)
theorem ex_hit {z w : Int} {i : Nat} (hi : i < 6) (h : z % (((exP.getD i (0, 0)).2 : Nat) : Int) = 0) (hb : ∀ k, k < i → ¬ z % (((exP.getD k (0, 0)).2 : Nat) : Int) = 0) (hw : z / (((exP.getD i (0, 0)).2 : Nat) : Int) * (((exP.getD i (0, 0)).1 : Nat) : Int) = w) : 0 ≤ fstI exF z ∧ nxF exF z = w := by
  have e : ∀ k, k < 6 → exF.getD k default = frc (exP.getD k (0, 0)).1 (exP.getD k (0, 0)).2 := by
    intro k hk
    match k, hk with
    | 0, _ => rfl
    | 1, _ => rfl
    | 2, _ => rfl
    | 3, _ => rfl
    | 4, _ => rfl
    | 5, _ => rfl
  obtain ⟨h1, h2⟩ := fst_hit (l := exF) (z := z) (i := i) (by rw [show exF.length = 6 from rfl]; exact hi) (by rw [e i hi, hit_frc]; exact h) (fun k hk => by rw [e k (by omega), hit_frc]; exact hb k hk)
  refine ⟨by rw [h1]; omega, ?_⟩
  unfold nxF
  rw [h1, Int.toNat_natCast, e i hi]
  show z / numS (txt _) * numS (txt _) = w
  rw [numS_txt, numS_txt]
  exact hw
theorem ex_ply : ply exF 4 60 0 = (txt 90, 4, 0) := by
  obtain ⟨a1, a2⟩ := ex_hit (z := 60) (w := 78) (i := 0) (by decide) (by decide) (by decide) (by decide)
  obtain ⟨b1, b2⟩ := ex_hit (z := 78) (w := 66) (i := 4) (by decide) (by decide) (by decide) (by decide)
  obtain ⟨c1, c2⟩ := ex_hit (z := 66) (w := 126) (i := 2) (by decide) (by decide) (by decide) (by decide)
  obtain ⟨d1, d2⟩ := ex_hit (z := 126) (w := 90) (i := 3) (by decide) (by decide) (by decide) (by decide)
  rw [ply_s a1 a2 (fit_113 (n := 78) (by decide)), ply_s b1 b2 (fit_113 (n := 66) (by decide)), ply_s c1 c2 (fit_of_pow (k := 3) (by decide) (by decide) (by decide)), ply_s d1 d2 (fit_113 (n := 90) (by decide))]
  rfl
theorem ex_play : plyA exL ⟨#[54, 48]⟩ 4 = (⟨#[57, 48]⟩, 4, 0) := by
  have h := ok_of_txt tx60 (by decide)
  rw [plyA_0 (askE_0.2 ⟨ex_lst, h.1, by rw [h.2]; decide⟩) (by decide), h.2, ← exF_L, ← tx90]
  exact ex_ply
end Go.Mth

set_option linter.unusedVariables false
set_option linter.unusedSimpArgs false
namespace Go.Mth
open Go Go.Ab
def redV (f : Frc) : Prop := (okS f.num = true ∧ okS f.den = true) ∧ 0 < numS f.den ∧ Int.gcd (numS f.num) (numS f.den) = 1
noncomputable instance (f : Frc) : Decidable (redV f) := by unfold redV; infer_instance
def nxV (l : List Frc) (z : Int) : Int := if 0 ≤ fstI l z then nxF l z else 0
def plyV (l : List Frc) : Nat → Int → Nat → Int → Int × Nat × Nat × Bool
  | 0, z, c, _ => (z, c, 0, true)
  | k + 1, z, c, w => if w - ((l.length : Int) + 1) * ((ndig z.natAbs : Int) + 20) < 0 then (0, 0, 0, false) else if 0 ≤ fstI l z then (if Fit (nxF l z) then plyV l k (nxF l z) (c + 1) (w - ((l.length : Int) + 1) * ((ndig z.natAbs : Int) + 20)) else (0, 0, 3, true)) else (z, c, 0, true)
def comR : List Frc → Int → Int
  | [], o => o
  | f :: r, o => if Fit o then comR r (cmX o (numS f.den)) else o
theorem comR_big : ∀ (l : List Frc) {o : Int}, ¬ Fit o → comR l o = o
  | [], _, _ => rfl
  | f :: r, o, h => if_neg h
theorem comR_com : ∀ (l : List Frc) (o : Int), Fit o → com l o = if Fit (comR l o) then (txt (comR l o), 0) else ({ data := #[] }, 3)
  | [], o, h => by rw [com, comR, if_pos h]
  | f :: r, o, h => by
    rw [com, comR, if_pos h]
    by_cases h2 : Fit (cmX o (numS f.den))
    · rw [if_pos h2]; exact comR_com r _ h2
    · rw [if_neg h2, comR_big r h2, if_neg h2]
theorem comA_R {l : List Frc} (hl : lstP l) : comA l = if Fit (comR l 1) then (txt (comR l 1), 0) else ({ data := #[] }, 3) := by
  rw [comA, if_pos hl]
  exact comR_com l 1 (fit_of_pow (k := 1) (by decide) (by decide) (by decide))
theorem cmX_eq {o d : Int} (ho : 0 < o) (hd : 0 < d) : o * (d / ((Int.gcd o d : Nat) : Int)) = cmX o d := by
  unfold cmX
  have a : ((Int.gcd o d : Nat) : Int) ∣ o := Int.gcd_dvd_left ..
  have b : ((Int.gcd o d : Nat) : Int) ∣ d := Int.gcd_dvd_right ..
  rw [← Int.mul_ediv_assoc _ b, Int.mul_comm (o / _), ← Int.mul_ediv_assoc _ a, Int.mul_comm]
theorem cmX_pos {o d : Int} (ho : 0 < o) (hd : 0 < d) : 0 < cmX o d := by
  have p : 0 < ((Int.gcd o d : Nat) : Int) := by
    have : 0 < Int.gcd o d := Int.gcd_pos_of_ne_zero_left _ (by omega)
    omega
  exact Int.mul_pos (Int.ediv_pos_of_pos_of_dvd ho (by omega) (Int.gcd_dvd_left ..)) hd
end Go.Mth

set_option linter.unusedVariables false
set_option linter.unusedSimpArgs false
namespace Go.Mth
open Go Go.Ab
def nodiv (p d : Nat) : Prop := ∀ e, e < d → 2 ≤ e → p % e ≠ 0
instance (p d : Nat) : Decidable (nodiv p d) := by unfold nodiv; infer_instance
theorem p30_cop : ∀ i < 30, ∀ j < 30, i ≠ j → Nat.gcd (P30.getD i 0) (P30.getD j 0) = 1 := by decide +kernel
theorem fit_k {n : Nat} (h : n ≤ 99999) : Fit ((n : Nat) : Int) := fit_of_pow (k := 5) (by rw [Int.natAbs_natCast]; omega) (by decide) (by decide)
theorem red_frc2 {a b : Nat} (ha : 0 < a ∧ a ≤ 99999) (hb : 0 < b ∧ b ≤ 99999) (hg : Nat.gcd a b = 1) : redP (frc a b) := by
  unfold redP frc
  simp only [numS_txt]
  exact ⟨⟨okS_iff.2 (okS_txt (fit_k ha.2)), by omega⟩, ⟨okS_iff.2 (okS_txt (fit_k hb.2)), by omega⟩, by rw [Int.gcd_natCast_natCast]; exact hg⟩
theorem frc_sz {a b : Nat} (ha : a ≤ 99999) (hb : b ≤ 99999) : (frc a b).num.size ≤ 9223372036854775807 ∧ (frc a b).den.size ≤ 9223372036854775807 := ⟨txt_sz2 (fit_k ha), txt_sz2 (fit_k hb)⟩
def fineF (f : Frc) : Prop := redP f ∧ f.num.size ≤ 9223372036854775807 ∧ f.den.size ≤ 9223372036854775807
theorem fine_frc {a b : Nat} (ha : 0 < a ∧ a ≤ 99999) (hb : 0 < b ∧ b ≤ 99999) (hg : Nat.gcd a b = 1) : fineF (frc a b) := ⟨red_frc2 ha hb hg, frc_sz ha.2 hb.2⟩
theorem own_spec {m : Mac} {z : Int} (h0 : 0 ≤ m.regs + 2 * z) (h1 : m.regs + 2 * z < 30) : 2 ≤ ownP m z ∧ ownP m z ≤ 113 := ⟨p30_ge _ (by omega), p30_bd _⟩
theorem twn_spec {m : Mac} {z : Int} (h0 : 0 ≤ m.regs + 2 * z) (h1 : m.regs + 2 * z < 29) : 2 ≤ twnP m z ∧ twnP m z ≤ 113 := ⟨p30_ge _ (by omega), p30_bd _⟩
theorem insF_fine {m : Mac} (hM : okMac m) {s : Nat} {x : Ins} (hs : s < m.code.length) (hx : insP m x) : ∀ f ∈ insF m s x, fineF f := by
  obtain ⟨o1, o2, o3, o4, _⟩ := hM
  obtain ⟨⟨x1, x2, x3⟩, x4⟩ := hx
  unfold plc at x3 x4
  have a1 := own_spec (m := m) (z := (s : Nat)) (by omega) (by omega)
  have a2 := twn_spec (m := m) (z := x.next) (by omega) (by omega)
  have a3 : 2 ≤ rgP x := p30_ge _ (by omega)
  have a4 : rgP x ≤ 113 := p30_bd _
  have m1 : twnP m x.next * rgP x ≤ 113 * 113 := Nat.mul_le_mul a2.2 a4
  have m2 : ownP m (s : Nat) * rgP x ≤ 113 * 113 := Nat.mul_le_mul a1.2 a4
  have m3 : 0 < twnP m x.next * rgP x := Nat.mul_pos (by omega) (by omega)
  have m4 : 0 < ownP m (s : Nat) * rgP x := Nat.mul_pos (by omega) (by omega)
  have c1 : Nat.gcd (twnP m x.next) (ownP m (s : Nat)) = 1 := p30_cop _ (by omega) _ (by omega) (by omega)
  have c2 : Nat.gcd (rgP x) (ownP m (s : Nat)) = 1 := p30_cop _ (by omega) _ (by omega) (by omega)
  have c3 : Nat.gcd (twnP m x.next) (rgP x) = 1 := p30_cop _ (by omega) _ (by omega) (by omega)
  intro f hf
  unfold insF at hf
  split at hf
  · rw [List.mem_singleton] at hf
    subst hf
    exact fine_frc ⟨m3, by omega⟩ ⟨by omega, by omega⟩ (Nat.Coprime.mul_left (show Nat.Coprime _ _ from c1) c2)
  · rename_i hk
    simp only [List.mem_cons, List.not_mem_nil, or_false] at hf
    have x5 : plc m x.els := by unfold plc; omega
    unfold plc at x5
    have a5 := twn_spec (m := m) (z := x.els) (by omega) (by omega)
    have c4 : Nat.gcd (twnP m x.els) (ownP m (s : Nat)) = 1 := p30_cop _ (by omega) _ (by omega) (by omega)
    rcases hf with rfl | rfl
    · exact fine_frc ⟨by omega, by omega⟩ ⟨m4, by omega⟩ (Nat.Coprime.mul_right (show Nat.Coprime _ _ from c1) c3)
    · exact fine_frc ⟨by omega, by omega⟩ ⟨by omega, by omega⟩ c4
theorem cmp1_fine {m : Mac} (hM : okMac m) : ∀ i, i ≤ m.code.length → ∀ f ∈ cmp1 m i, fineF f
  | 0, _, f, hf => by simp [cmp1] at hf
  | i + 1, h, f, hf => by
    rw [cmp1] at hf
    rcases List.mem_append.1 hf with hf | hf
    · exact cmp1_fine hM i (by omega) f hf
    · exact insF_fine hM (by omega) (hM.2.2.2.2 _ (gdm (by omega))) f hf
theorem cmp2_fine {m : Mac} (hM : okMac m) : ∀ i, i ≤ m.code.length + 1 → ∀ f ∈ cmp2 m i, fineF f
  | 0, _, f, hf => cmp1_fine hM _ (Nat.le_refl _) f hf
  | i + 1, h, f, hf => by
    obtain ⟨o1, o2, o3, o4, _⟩ := id hM
    rw [cmp2] at hf
    rcases List.mem_append.1 hf with hf | hf
    · exact cmp2_fine hM i (by omega) f hf
    · rw [List.mem_singleton] at hf
      subst hf
      have a1 := own_spec (m := m) (z := (i : Nat)) (by omega) (by omega)
      have a2 := twn_spec (m := m) (z := (i : Nat)) (by omega) (by omega)
      exact fine_frc ⟨by omega, by omega⟩ ⟨by omega, by omega⟩ (p30_cop _ (by omega) _ (by omega) (by omega))
theorem cmpR_fine (m : Mac) : ∀ f ∈ cmpR m, fineF f := by
  unfold cmpR
  split
  · rename_i h; exact cmp2_fine h _ (Nat.le_refl _)
  · intro f hf; simp at hf
theorem cmpR_sz (m : Mac) : ∀ f ∈ cmpR m, f.num.size ≤ 9223372036854775807 ∧ f.den.size ≤ 9223372036854775807 := fun f hf => (cmpR_fine m f hf).2
theorem cmpR_len (m : Mac) : (cmpR m).length ≤ 37 := by
  unfold cmpR
  split
  · rename_i h; have := cmp2_len m (m.code.length + 1); have := h.2.2.2.1; omega
  · simp
theorem cmpR_lst (m : Mac) : lstP (cmpR m) := ⟨by have := cmpR_len m; omega, fun f hf => (cmpR_fine m f hf).1⟩
end Go.Mth

set_option linter.unusedVariables false
set_option linter.unusedSimpArgs false
namespace Go.Mth
open Go Go.Ab
def insAt (m : Mac) (c : Cfg) : Ins := m.code.getD c.at'.toNat default
def regAt (m : Mac) (c : Cfg) : Int := c.regs.getD (insAt m c).reg.toNat 0
def stpE (m : Mac) (c : Cfg) : Nat := if c.at' = (m.code.length : Int) then 6 else if (insAt m c).kind = 0 ∧ regAt m c = 1000 then 3 else 0
def stpC (m : Mac) (c : Cfg) : Cfg := if (insAt m c).kind = 0 then ⟨(insAt m c).next, c.regs.set (insAt m c).reg.toNat (regAt m c + 1)⟩ else if 0 < regAt m c then ⟨(insAt m c).next, c.regs.set (insAt m c).reg.toNat (regAt m c - 1)⟩ else ⟨(insAt m c).els, c.regs⟩
def resC (m : Mac) (c : Cfg) : Cfg := if stpE m c = 0 then stpC m c else ⟨0, []⟩
def nxC (m : Mac) (c : Cfg) : Cfg := if stpE m c = 0 then stpC m c else c
theorem okC_at {m : Mac} {c : Cfg} (h : okCfg m c) (hn : ¬ c.at' = (m.code.length : Int)) : c.at'.toNat < m.code.length ∧ insP m (insAt m c) ∧ (insAt m c).reg.toNat < c.regs.length ∧ 0 ≤ regAt m c ∧ regAt m c ≤ 1000 := by
  obtain ⟨hM, h1, h2, h3⟩ := h
  unfold plc at h1
  have hi : c.at'.toNat < m.code.length := by omega
  have hx : insP m (insAt m c) := hM.2.2.2.2 _ (gdm hi)
  have hr : (insAt m c).reg.toNat < c.regs.length := by obtain ⟨⟨a, b, _⟩, _⟩ := hx; omega
  have hg := h3 _ (gdm (d := 0) hr)
  exact ⟨hi, hx, hr, hg.1, hg.2⟩
theorem mem_set {l : List Int} {i : Nat} {v : Int} {p : Int → Prop} (h : ∀ x ∈ l, p x) (hv : p v) : ∀ x ∈ l.set i v, p x := fun x hx => by
  rcases List.mem_or_eq_of_mem_set hx with h1 | h1
  · exact h x h1
  · rw [h1]; exact hv
theorem stp_ok {m : Mac} {c : Cfg} (h : okCfg m c) (he : stpE m c = 0) : okCfg m (stpC m c) := by
  have hn : ¬ c.at' = (m.code.length : Int) := fun e => by unfold stpE at he; rw [if_pos e] at he; cases he
  obtain ⟨a1, a2, a3, a4, a5⟩ := okC_at h hn
  have hk : ¬ ((insAt m c).kind = 0 ∧ regAt m c = 1000) := fun e => by unfold stpE at he; rw [if_neg hn, if_pos e] at he; cases he
  obtain ⟨hM, h1, h2, h3⟩ := h
  obtain ⟨⟨b1, b2, b3⟩, b4⟩ := a2
  unfold stpC
  split
  · rename_i k0
    exact ⟨hM, b3, by simp only [List.length_set]; exact h2, mem_set h3 ⟨by omega, by omega⟩⟩
  · rename_i k0
    split
    · exact ⟨hM, b3, by simp only [List.length_set]; exact h2, mem_set h3 ⟨by omega, by omega⟩⟩
    · exact ⟨hM, b4.elim (fun e => absurd e.1 k0) (fun e => e.2), h2, h3⟩
theorem getD_set {l : List Int} {i : Nat} {v : Int} (h : i < l.length) : (l.set i v).getD i 0 = v := by
  rw [List.getD_eq_getElem?_getD, List.getElem?_set_self h]; rfl
section
variable {m : Mac} {c : Cfg}
theorem stp_e (h : c.at' = (m.code.length : Int)) : stpE m c = 6 := if_pos h
theorem stp_d (h : ¬ c.at' = (m.code.length : Int)) (k : (insAt m c).kind = 0) (g : regAt m c = 1000) : stpE m c = 3 := (if_neg h).trans (if_pos ⟨k, g⟩)
theorem stp_a (h : ¬ c.at' = (m.code.length : Int)) (k : (insAt m c).kind = 0) (g : ¬ regAt m c = 1000) : stpE m c = 0 ∧ stpC m c = ⟨(insAt m c).next, c.regs.set (insAt m c).reg.toNat (regAt m c + 1)⟩ := ⟨(if_neg h).trans (if_neg fun e => g e.2), if_pos k⟩
theorem stp_b (h : ¬ c.at' = (m.code.length : Int)) (k : ¬ (insAt m c).kind = 0) (g : 0 < regAt m c) : stpE m c = 0 ∧ stpC m c = ⟨(insAt m c).next, c.regs.set (insAt m c).reg.toNat (regAt m c - 1)⟩ := ⟨(if_neg h).trans (if_neg fun e => k e.1), (if_neg k).trans (if_pos g)⟩
theorem stp_c (h : ¬ c.at' = (m.code.length : Int)) (k : ¬ (insAt m c).kind = 0) (g : ¬ 0 < regAt m c) : stpE m c = 0 ∧ stpC m c = ⟨(insAt m c).els, c.regs⟩ := ⟨(if_neg h).trans (if_neg fun e => k e.1), (if_neg k).trans (if_neg g)⟩
end
noncomputable def stA (m : Mac) (c : Cfg) : Cfg := if okCfg m c then resC m c else ⟨0, []⟩
noncomputable def stAE (m : Mac) (c : Cfg) : Nat := if okCfg m c then stpE m c else 1
def rnm (m : Mac) : Nat → Cfg → Nat → Cfg × Nat × Nat
  | 0, c, i => (c, i, 0)
  | k + 1, c, i => if stpE m c = 6 then (c, i, 0) else if stpE m c = 0 then rnm m k (stpC m c) (i + 1) else (⟨0, []⟩, 0, stpE m c)
noncomputable def rnA (m : Mac) (c : Cfg) (k : Int) : Cfg × Nat × Nat := if okCfg m c then (if 0 ≤ k ∧ k ≤ 20000 then rnm m k.toNat c 0 else (⟨0, []⟩, 0, 2)) else (⟨0, []⟩, 0, 1)
def zC : Cfg := ⟨0, []⟩
theorem stpE_0 {m : Mac} {c : Cfg} (h : ¬ stpE m c = 3) (h6 : ¬ stpE m c = 6) : stpE m c = 0 := Decidable.byContradiction fun e => h (by
  unfold stpE at e h6 ⊢
  by_cases a : c.at' = (m.code.length : Int)
  · rw [if_pos a] at h6; exact absurd rfl h6
  · rw [if_neg a] at e ⊢
    by_cases b : (insAt m c).kind = 0 ∧ regAt m c = 1000
    · rw [if_pos b]
    · rw [if_neg b] at e; exact absurd rfl e)
end Go.Mth

set_option linter.unusedVariables false
set_option linter.unusedSimpArgs false
namespace Go.Mth
open Go Go.Ab
def spN (p z : Nat) : Nat × Nat := if h : 2 ≤ p ∧ 0 < z ∧ z % p = 0 then ((spN p (z / p)).1 + 1, (spN p (z / p)).2) else (0, z)
termination_by z
decreasing_by all_goals exact Nat.div_lt_self h.2.1 (by omega)
def dcL : Nat → Nat → Nat → List Int × Nat
  | 0, _, z => ([], z)
  | r + 1, i, z => ((((spN (P30.getD i 0) z).1 : Nat) : Int) :: (dcL r (i + 1) (spN (P30.getD i 0) z).2).1, (dcL r (i + 1) (spN (P30.getD i 0) z).2).2)
def srch (m : Mac) (r : Nat) : Int := ixP (fun s : Nat => r = ownP m ((s : Nat) : Int)) (List.range (m.code.length + 1))
def smallR (l : List Int) : Prop := ∀ n ∈ l, n ≤ 1000
instance (l : List Int) : Decidable (smallR l) := by unfold smallR; infer_instance
def decC (m : Mac) (w : Nat) : Cfg := if smallR (dcL m.regs.toNat 0 w).1 ∧ 0 ≤ srch m (dcL m.regs.toNat 0 w).2 then ⟨srch m (dcL m.regs.toNat 0 w).2, (dcL m.regs.toNat 0 w).1⟩ else zC
def decB (m : Mac) (w : Nat) : Prop := smallR (dcL m.regs.toNat 0 w).1 ∧ 0 ≤ srch m (dcL m.regs.toNat 0 w).2
instance (m : Mac) (w : Nat) : Decidable (decB m w) := by unfold decB; infer_instance
noncomputable def decV (m : Mac) (n : ByteArray) : Cfg := if okMac m then (if posE n = 0 then decC m (numS n).toNat else zC) else zC
noncomputable def decE (m : Mac) (n : ByteArray) : Nat := if okMac m then (if posE n = 0 then (if decB m (numS n).toNat then 0 else 4) else posE n) else 1
end Go.Mth

set_option linter.unusedVariables false
set_option linter.unusedSimpArgs false
namespace Go.Mth
open Go Go.Ab
theorem len_pw {p : Nat} (hp : p ≤ 113) : ∀ n : Nat, (digs ((((p : Nat) : Int)) ^ n).natAbs).length ≤ n + 1
  | 0 => by rw [Int.pow_zero]; have := small_len (z := 1) (by decide); omega
  | n + 1 => by
    have a := len_pw hp n
    have b := small_len (z := ((p : Nat) : Int)) (by omega)
    have c := len_mulZ (((p : Nat) : Int) ^ n) ((p : Nat) : Int)
    rw [Int.pow_succ]
    omega
end Go.Mth

set_option linter.unusedVariables false
set_option linter.unusedSimpArgs false
namespace Go.Mth
open Go Go.Ab
def prN : Nat → List Int → Nat
  | _, [] => 1
  | i, n :: r => (P30.getD i 0) ^ n.toNat * prN (i + 1) r
theorem prN_Z : ∀ (l : List Int) (i : Nat), prdZ i l = ((prN i l : Nat) : Int)
  | [], _ => rfl
  | n :: r, i => by
    show ((P30.getD i 0 : Nat) : Int) ^ n.toNat * prdZ (i + 1) r = _
    rw [prN_Z r (i + 1), prN, Int.natCast_mul, Int.natCast_pow]
theorem cop30 {i j : Nat} (hi : i < 30) (hj : j < 30) (h : i ≠ j) : Nat.Coprime (P30.getD i 0) (P30.getD j 0) := p30_cop i hi j hj h
theorem not_mod {p r : Nat} (hp : 2 ≤ p) (h : Nat.Coprime p r) : ¬ r % p = 0 := fun e => by
  have d := Nat.dvd_of_mod_eq_zero e
  have : Nat.gcd p r = p := Nat.gcd_eq_left d
  rw [Nat.Coprime, this] at h
  omega
theorem numC_N (m : Mac) (c : Cfg) : numC m c = ((prN 0 c.regs * ownP m c.at' : Nat) : Int) := by
  unfold numC
  rw [prN_Z, Int.natCast_mul, Int.mul_comm]
end Go.Mth

set_option linter.unusedVariables false
set_option linter.unusedSimpArgs false
namespace Go.Mth
open Go Go.Ab
theorem numC_pos {m : Mac} {c : Cfg} (h : okCfg m c) : 0 < numC m c := by
  obtain ⟨⟨o1, o2, o3, o4, o5⟩, q1, q2, q3⟩ := h
  unfold plc at q1
  have ow : 2 ≤ ownP m c.at' := p30_ge _ (by omega)
  exact Int.mul_pos (by omega) (prd_pos c.regs 0 (by omega))
end Go.Mth

set_option linter.unusedVariables false
set_option linter.unusedSimpArgs false
namespace Go.Mth
open Go Go.Ab
theorem cop_gen {q : Nat} (hq : q < 30) : ∀ (l : List Int) (i : Nat), i + l.length ≤ 30 → (∀ j, j < l.length → q = i + j → (l.getD j 0).toNat = 0) → Nat.Coprime (P30.getD q 0) (prN i l)
  | [], _, _, _ => Nat.coprime_one_right _
  | n :: r, i, hl, h => by
    have hl' : i + 1 + r.length ≤ 30 := by simp at hl; omega
    have ih := cop_gen hq r (i + 1) hl' fun j hj e => by have := h (j + 1) (by simp; omega) (by omega); simpa using this
    refine Nat.Coprime.mul_right ?_ ih
    by_cases e : q = i
    · have h0 : n.toNat = 0 := by have := h 0 (by simp) (by omega); simpa using this
      rw [h0, Nat.pow_zero]
      exact Nat.coprime_one_right _
    · exact Nat.Coprime.pow_right _ (cop30 hq (by omega) e)
theorem dvd_prN {q : Nat} : ∀ (l : List Int) (i j : Nat), j < l.length → q = i + j → 0 < (l.getD j 0).toNat → P30.getD q 0 ∣ prN i l
  | [], _, j, h, _, _ => by simp at h
  | n :: r, i, 0, _, e, h => by
    rw [e, Nat.add_zero]
    have h' : 0 < n.toNat := by simpa using h
    have e2 : prN i (n :: r) = P30.getD i 0 ^ ((n.toNat - 1) + 1) * prN (i + 1) r := by rw [prN, show (n.toNat - 1) + 1 = n.toNat by omega]
    rw [e2, Nat.pow_succ]
    exact Nat.dvd_trans (Nat.dvd_mul_left _ _) (Nat.dvd_mul_right _ _)
  | n :: r, i, j + 1, hj, e, h => by
    exact Nat.dvd_trans (dvd_prN r (i + 1) j (by simpa using hj) (by omega) (by simpa using h)) (Nat.dvd_mul_left _ _)
theorem num_dvd {m : Mac} {c : Cfg} (h : okCfg m c) {q : Nat} (hq : q < 30) : P30.getD q 0 ∣ (numC m c).toNat ↔ q = (m.regs + 2 * c.at').toNat ∨ (q < c.regs.length ∧ 0 < c.regs.getD q 0) := by
  obtain ⟨⟨o1, o2, o3, o4, o5⟩, q1, q2, q3⟩ := h
  unfold plc at q1
  rw [numC_N, Int.toNat_natCast]
  constructor
  · intro d
    refine Decidable.byContradiction fun hn => ?_
    have hn1 : q ≠ (m.regs + 2 * c.at').toNat := fun e => hn (.inl e)
    have c1 : Nat.Coprime (P30.getD q 0) (prN 0 c.regs) := cop_gen hq c.regs 0 (by omega) fun j hj e => by
      have : ¬ 0 < c.regs.getD q 0 := fun g => hn (.inr ⟨by omega, g⟩)
      rw [show j = q by omega]
      omega
    have c2 : Nat.Coprime (P30.getD q 0) (ownP m c.at') := cop30 hq (by omega) hn1
    exact not_mod (p30_ge q hq) (Nat.Coprime.mul_right c1 c2) (Nat.mod_eq_zero_of_dvd d)
  · rintro (e | ⟨a, b⟩)
    · rw [e]
      exact Nat.dvd_mul_left _ _
    · exact Nat.dvd_trans (dvd_prN c.regs 0 q a (by omega) (by omega)) (Nat.dvd_mul_right _ _)
theorem hit_num {m : Mac} {c : Cfg} (h : okCfg m c) (a b : Nat) : hitP (numC m c) (frc a b) ↔ b ∣ (numC m c).toNat := by
  have h0 := numC_pos h
  rw [hit_frc, ← Int.dvd_iff_emod_eq_zero, ← Int.natCast_dvd_natCast, Int.toNat_of_nonneg (by omega)]
theorem hit_own {m : Mac} {c : Cfg} (h : okCfg m c) {s a : Nat} (hs : s ≤ m.code.length) : hitP (numC m c) (frc a (ownP m ((s : Nat) : Int))) ↔ ((s : Nat) : Int) = c.at' := by
  obtain ⟨⟨o1, o2, o3, o4, o5⟩, q1, q2, q3⟩ := id h
  unfold plc at q1
  rw [hit_num h]
  have := num_dvd h (q := (m.regs + 2 * ((s : Nat) : Int)).toNat) (by omega)
  rw [show ownP m ((s : Nat) : Int) = P30.getD (m.regs + 2 * ((s : Nat) : Int)).toNat 0 from rfl, this]
  constructor
  · rintro (e | ⟨e, _⟩) <;> omega
  · intro e; exact .inl (by omega)
theorem hit_twn {m : Mac} {c : Cfg} (h : okCfg m c) {s a : Nat} (hs : s ≤ m.code.length) : ¬ hitP (numC m c) (frc a (twnP m ((s : Nat) : Int))) := by
  obtain ⟨⟨o1, o2, o3, o4, o5⟩, q1, q2, q3⟩ := id h
  unfold plc at q1
  rw [hit_num h]
  have := num_dvd h (q := (m.regs + 2 * ((s : Nat) : Int) + 1).toNat) (by omega)
  rw [show twnP m ((s : Nat) : Int) = P30.getD (m.regs + 2 * ((s : Nat) : Int) + 1).toNat 0 from rfl, this]
  rintro (e | ⟨e, _⟩) <;> omega
theorem hit_dec {m : Mac} {c : Cfg} (h : okCfg m c) {s a : Nat} {x : Ins} (hs : s ≤ m.code.length) (hx : 0 ≤ x.reg ∧ x.reg < m.regs) : hitP (numC m c) (frc a (ownP m ((s : Nat) : Int) * rgP x)) ↔ ((s : Nat) : Int) = c.at' ∧ 0 < c.regs.getD x.reg.toNat 0 := by
  obtain ⟨⟨o1, o2, o3, o4, o5⟩, q1, q2, q3⟩ := id h
  unfold plc at q1
  have e1 := hit_own h (s := s) (a := a) hs
  rw [hit_num h] at e1 ⊢
  have e2 := num_dvd h (q := x.reg.toNat) (by omega)
  have e3 : rgP x ∣ (numC m c).toNat ↔ 0 < c.regs.getD x.reg.toNat 0 := by
    rw [show rgP x = P30.getD x.reg.toNat 0 from rfl, e2]
    constructor
    · rintro (e | ⟨_, e⟩)
      · omega
      · exact e
    · intro e; exact .inr ⟨by omega, e⟩
  have co : Nat.Coprime (ownP m ((s : Nat) : Int)) (rgP x) := cop30 (by omega) (by omega) (by omega)
  rw [← e1, ← e3]
  constructor
  · intro d
    exact ⟨Nat.dvd_trans (Nat.dvd_mul_right _ _) d, Nat.dvd_trans (Nat.dvd_mul_left _ _) d⟩
  · rintro ⟨a1, a2⟩
    exact Nat.Coprime.mul_dvd_of_dvd_of_dvd co a1 a2
end Go.Mth

set_option linter.unusedVariables false
set_option linter.unusedSimpArgs false
namespace Go.Mth
open Go Go.Ab
theorem fst_app {A B : List Frc} {f : Frc} {z : Int} (hA : ∀ g ∈ A, ¬ hitP z g) (hf : hitP z f) : fstI (A ++ f :: B) z = (A.length : Int) ∧ (A ++ f :: B).getD A.length default = f := by
  have e : (A ++ f :: B).getD A.length default = f := by
    rw [List.getD_eq_getElem?_getD, List.getElem?_append_right (Nat.le_refl _), Nat.sub_self]; rfl
  refine ⟨ixP_hit (d := default) (by simp) (by rw [e]; exact hf) fun k hk => ?_, e⟩
  rw [List.getD_eq_getElem?_getD, List.getElem?_append_left hk, List.getElem?_eq_getElem hk]
  exact hA _ (List.getElem_mem hk)
theorem fst_no {A : List Frc} {z : Int} (hA : ∀ g ∈ A, ¬ hitP z g) : fstI A z = -1 := if_neg fun ⟨g, hg, hh⟩ => hA g hg hh
theorem cmp1_split (m : Mac) : ∀ (d i : Nat), ∃ U, cmp1 m (i + d) = cmp1 m i ++ U
  | 0, i => ⟨[], by simp⟩
  | d + 1, i => by
    obtain ⟨U, hU⟩ := cmp1_split m d i
    exact ⟨U ++ insF m (i + d) (m.code.getD (i + d) default), by rw [show i + (d + 1) = (i + d) + 1 by omega, cmp1, hU, List.append_assoc]⟩
theorem cmp2_split (m : Mac) : ∀ i, ∃ U, cmp2 m i = cmp1 m m.code.length ++ U
  | 0 => ⟨[], by simp [cmp2]⟩
  | i + 1 => by
    obtain ⟨U, hU⟩ := cmp2_split m i
    exact ⟨U ++ [frc (ownP m ((i : Nat) : Int)) (twnP m ((i : Nat) : Int))], by rw [cmp2, hU, List.append_assoc]⟩
theorem cmpR_split {m : Mac} (hM : okMac m) {s : Nat} (hs : s < m.code.length) : ∃ U, cmpR m = cmp1 m s ++ (insF m s (m.code.getD s default) ++ U) := by
  obtain ⟨U, hU⟩ := cmp2_split m (m.code.length + 1)
  obtain ⟨V, hV⟩ := cmp1_split m (m.code.length - (s + 1)) (s + 1)
  rw [show s + 1 + (m.code.length - (s + 1)) = m.code.length by omega] at hV
  refine ⟨V ++ U, ?_⟩
  rw [show cmpR m = cmp2 m (m.code.length + 1) from if_pos hM, hU, hV, cmp1]
  simp only [List.append_assoc]
theorem ins_miss {m : Mac} {c : Cfg} (h : okCfg m c) {s : Nat} (hs : s < m.code.length) (hn : ((s : Nat) : Int) ≠ c.at') : ∀ g ∈ insF m s (m.code.getD s default), ¬ hitP (numC m c) g := by
  have hx : insP m (m.code.getD s default) := h.1.2.2.2.2 _ (gdm hs)
  intro g hg
  unfold insF at hg
  split at hg
  · rw [List.mem_singleton] at hg
    rw [hg, hit_own h (by omega)]
    exact hn
  · simp only [List.mem_cons, List.not_mem_nil, or_false] at hg
    rcases hg with rfl | rfl
    · rw [hit_dec h (by omega) ⟨hx.1.1, hx.1.2.1⟩]
      exact fun e => hn e.1
    · rw [hit_own h (by omega)]
      exact hn
theorem cmp1_miss {m : Mac} {c : Cfg} (h : okCfg m c) : ∀ s : Nat, s ≤ m.code.length → ((s : Nat) : Int) ≤ c.at' → ∀ g ∈ cmp1 m s, ¬ hitP (numC m c) g
  | 0, _, _, g, hg => by simp [cmp1] at hg
  | s + 1, h1, h2, g, hg => by
    rw [cmp1] at hg
    rcases List.mem_append.1 hg with hg | hg
    · exact cmp1_miss h s (by omega) (by omega) g hg
    · exact ins_miss h (by omega) (by omega) g hg
def frcC (m : Mac) (c : Cfg) : Frc := if (insAt m c).kind = 0 then frc (twnP m (insAt m c).next * rgP (insAt m c)) (ownP m c.at') else if 0 < regAt m c then frc (twnP m (insAt m c).next) (ownP m c.at' * rgP (insAt m c)) else frc (twnP m (insAt m c).els) (ownP m c.at')
theorem fst_cfg {m : Mac} {c : Cfg} (h : okCfg m c) (hn : ¬ c.at' = (m.code.length : Int)) : 0 ≤ fstI (cmpR m) (numC m c) ∧ (cmpR m).getD (fstI (cmpR m) (numC m c)).toNat default = frcC m c := by
  obtain ⟨a1, a2, a3, a4, a5⟩ := okC_at h hn
  have q1 := h.2.1
  unfold plc at q1
  obtain ⟨U, hU⟩ := cmpR_split h.1 a1
  have hm := cmp1_miss h c.at'.toNat (by omega) (by omega)
  have es : ((c.at'.toNat : Nat) : Int) = c.at' := Int.toNat_of_nonneg q1.1
  have ho : ∀ a, hitP (numC m c) (frc a (ownP m c.at')) := fun a => by
    have := (hit_own h (s := c.at'.toNat) (a := a) (by omega)).2 es
    rwa [es] at this
  have hd : ∀ a, hitP (numC m c) (frc a (ownP m c.at' * rgP (insAt m c))) ↔ 0 < regAt m c := fun a => by
    have := hit_dec h (s := c.at'.toNat) (a := a) (x := insAt m c) (by omega) ⟨a2.1.1, a2.1.2.1⟩
    rw [es] at this
    rw [this]
    exact ⟨fun e => e.2, fun e => ⟨rfl, e⟩⟩
  have fin : ∀ (A B : List Frc) (f : Frc), cmpR m = A ++ f :: B → (∀ g ∈ A, ¬ hitP (numC m c) g) → hitP (numC m c) f → 0 ≤ fstI (cmpR m) (numC m c) ∧ (cmpR m).getD (fstI (cmpR m) (numC m c)).toNat default = f := fun A B f e hA hf => by
    obtain ⟨e1, e2⟩ := fst_app (B := B) hA hf
    rw [e, e1, Int.toNat_natCast]
    exact ⟨Int.natCast_nonneg _, e2⟩
  have hi : insF m c.at'.toNat (m.code.getD c.at'.toNat default) = insF m c.at'.toNat (insAt m c) := rfl
  rw [hi] at hU
  unfold frcC
  by_cases k : (insAt m c).kind = 0
  · rw [if_pos k]
    refine fin _ U _ (by rw [hU, insF, if_pos k, es]; rfl) hm (ho _)
  · rw [if_neg k]
    by_cases g : 0 < regAt m c
    · rw [if_pos g]
      exact fin _ _ _ (by rw [hU, insF, if_neg k, es]; rfl) hm ((hd _).2 g)
    · rw [if_neg g]
      refine fin (cmp1 m c.at'.toNat ++ [frc (twnP m (insAt m c).next) (ownP m c.at' * rgP (insAt m c))]) U _ (by rw [hU, insF, if_neg k, es]; simp) (fun f hf => ?_) (ho _)
      rcases List.mem_append.1 hf with hf | hf
      · exact hm f hf
      · rw [List.mem_singleton] at hf
        rw [hf, hd]
        exact g
theorem fst_end {m : Mac} {c : Cfg} (h : okCfg m c) (hn : c.at' = (m.code.length : Int)) : fstI (cmpR m) (numC m c) = -1 := by
  refine fst_no fun g hg => ?_
  rw [show cmpR m = cmp2 m (m.code.length + 1) from if_pos h.1] at hg
  have : ∀ i, i ≤ m.code.length + 1 → ∀ g ∈ cmp2 m i, ¬ hitP (numC m c) g := by
    intro i
    induction i with
    | zero => intro _ g hg; exact cmp1_miss h m.code.length (Nat.le_refl _) (by omega) g hg
    | succ i ih =>
      intro hi g hg
      rw [cmp2] at hg
      rcases List.mem_append.1 hg with hg | hg
      · exact ih (by omega) g hg
      · rw [List.mem_singleton] at hg
        rw [hg]
        exact hit_twn h (by omega)
  exact this _ (Nat.le_refl _) g hg
end Go.Mth

set_option linter.unusedVariables false
set_option linter.unusedSimpArgs false
namespace Go.Mth
open Go Go.Ab
theorem prN_inc : ∀ (l : List Int) (i j : Nat), j < l.length → 0 ≤ l.getD j 0 → prN i (l.set j (l.getD j 0 + 1)) = prN i l * P30.getD (i + j) 0
  | [], _, j, h, _ => by simp at h
  | n :: r, i, 0, _, h => by
    have h' : 0 ≤ n := by simpa using h
    show P30.getD i 0 ^ (n + 1).toNat * prN (i + 1) r = P30.getD i 0 ^ n.toNat * prN (i + 1) r * P30.getD (i + 0) 0
    rw [show (n + 1).toNat = n.toNat + 1 by omega, Nat.pow_succ, Nat.add_zero, Nat.mul_assoc, Nat.mul_comm (P30.getD i 0), Nat.mul_assoc]
    rfl
  | n :: r, i, j + 1, hj, h => by
    have ih := prN_inc r (i + 1) j (by simpa using hj) (by simpa using h)
    show P30.getD i 0 ^ n.toNat * prN (i + 1) (r.set j (r.getD j 0 + 1)) = P30.getD i 0 ^ n.toNat * prN (i + 1) r * P30.getD (i + (j + 1)) 0
    rw [ih, show i + 1 + j = i + (j + 1) by omega, Nat.mul_assoc]
theorem prN_dec {l : List Int} {i j : Nat} (hj : j < l.length) (h : 0 < l.getD j 0) : prN i l = prN i (l.set j (l.getD j 0 - 1)) * P30.getD (i + j) 0 := by
  have e := prN_inc (l.set j (l.getD j 0 - 1)) i j (by simpa using hj) (by rw [getD_set hj]; omega)
  rw [getD_set hj, List.set_set, show l.getD j 0 - 1 + 1 = l.getD j 0 by omega] at e
  rw [← e]
  congr 1
  refine (List.ext_getElem (by simp) fun k h1 h2 => ?_)
  rw [List.getElem_set]
  split
  · rename_i hk; subst hk; rw [List.getD_eq_getElem?_getD, List.getElem?_eq_getElem hj]; rfl
  · rfl
def half (m : Mac) (c : Cfg) : Nat := prN 0 c.regs * twnP m c.at'
theorem step_half {m : Mac} {c : Cfg} (h : okCfg m c) (he : stpE m c = 0) : nxF (cmpR m) (numC m c) = ((half m (stpC m c) : Nat) : Int) := by
  have hn : ¬ c.at' = (m.code.length : Int) := fun e => by rw [stp_e e] at he; cases he
  obtain ⟨a1, a2, a3, a4, a5⟩ := okC_at h hn
  have q1 := h.2.1
  unfold plc at q1
  have ow : 0 < ownP m c.at' := by have := p30_ge (m.regs + 2 * c.at').toNat (by have := h.1.2.1; have := h.1.2.2.2.1; omega); unfold ownP; omega
  have rp : 0 < rgP (insAt m c) := by have := p30_ge (insAt m c).reg.toNat (by have := h.1.2.1; have := a2.1; omega); unfold rgP; omega
  obtain ⟨_, e2⟩ := fst_cfg h hn
  have key : ∀ (a b q : Nat), 0 < b → prN 0 c.regs * ownP m c.at' = b * q → numC m c / ((b : Nat) : Int) * ((a : Nat) : Int) = ((q * a : Nat) : Int) := fun a b q hb e => by
    rw [numC_N, e, Int.natCast_mul, Int.natCast_mul, Int.mul_ediv_cancel_left _ (by omega)]
  unfold nxF
  rw [e2]
  unfold frcC
  by_cases k : (insAt m c).kind = 0
  · rw [if_pos k]
    have hk : ¬ regAt m c = 1000 := fun e => by rw [stp_d hn k e] at he; cases he
    rw [(stp_a hn k hk).2]
    show numC m c / numS (txt _) * numS (txt _) = _
    rw [numS_txt, numS_txt, key _ _ (prN 0 c.regs) ow (Nat.mul_comm _ _)]
    congr 1
    show prN 0 c.regs * (twnP m (insAt m c).next * rgP (insAt m c)) = prN 0 (c.regs.set _ _) * twnP m (insAt m c).next
    rw [show c.regs.set (insAt m c).reg.toNat (regAt m c + 1) = c.regs.set (insAt m c).reg.toNat (c.regs.getD (insAt m c).reg.toNat 0 + 1) from rfl, prN_inc c.regs 0 _ a3 a4, Nat.zero_add, Nat.mul_comm (twnP m _), ← Nat.mul_assoc]
    rfl
  · rw [if_neg k]
    by_cases g : 0 < regAt m c
    · rw [if_pos g, (stp_b hn k g).2]
      show numC m c / numS (txt _) * numS (txt _) = _
      have e5 := prN_dec (i := 0) a3 g
      rw [Nat.zero_add] at e5
      rw [numS_txt, numS_txt, key _ _ (prN 0 (c.regs.set (insAt m c).reg.toNat (regAt m c - 1))) (Nat.mul_pos ow rp) (by rw [e5]; show _ * rgP (insAt m c) * ownP m c.at' = _; rw [Nat.mul_assoc, Nat.mul_comm (rgP (insAt m c)), Nat.mul_comm]; rfl)]
      rfl
    · rw [if_neg g, (stp_c hn k g).2]
      show numC m c / numS (txt _) * numS (txt _) = _
      rw [numS_txt, numS_txt, key _ _ (prN 0 c.regs) ow (Nat.mul_comm _ _)]
      rfl
end Go.Mth

set_option linter.unusedVariables false
set_option linter.unusedSimpArgs false
namespace Go.Mth
open Go Go.Ab
theorem half_dvd {m : Mac} {c : Cfg} (h : okCfg m c) {q : Nat} (hq : q < 30) : P30.getD q 0 ∣ half m c ↔ q = (m.regs + 2 * c.at' + 1).toNat ∨ (q < c.regs.length ∧ 0 < c.regs.getD q 0) := by
  obtain ⟨⟨o1, o2, o3, o4, o5⟩, q1, q2, q3⟩ := h
  unfold plc at q1
  unfold half
  constructor
  · intro d
    refine Decidable.byContradiction fun hn => ?_
    have hn1 : q ≠ (m.regs + 2 * c.at' + 1).toNat := fun e => hn (.inl e)
    have c1 : Nat.Coprime (P30.getD q 0) (prN 0 c.regs) := cop_gen hq c.regs 0 (by omega) fun j hj e => by
      have : ¬ 0 < c.regs.getD q 0 := fun g => hn (.inr ⟨by omega, g⟩)
      rw [show j = q by omega]
      omega
    have c2 : Nat.Coprime (P30.getD q 0) (twnP m c.at') := cop30 hq (by omega) hn1
    exact not_mod (p30_ge q hq) (Nat.Coprime.mul_right c1 c2) (Nat.mod_eq_zero_of_dvd d)
  · rintro (e | ⟨a, b⟩)
    · rw [e]
      exact Nat.dvd_mul_left _ _
    · exact Nat.dvd_trans (dvd_prN c.regs 0 q a (by omega) (by omega)) (Nat.dvd_mul_right _ _)
theorem hit_half {m : Mac} {c : Cfg} (a b : Nat) : hitP ((half m c : Nat) : Int) (frc a b) ↔ b ∣ half m c := by
  rw [hit_frc, ← Int.dvd_iff_emod_eq_zero, Int.natCast_dvd_natCast]
theorem half_own {m : Mac} {c : Cfg} (h : okCfg m c) {s a : Nat} (hs : s ≤ m.code.length) : ¬ hitP ((half m c : Nat) : Int) (frc a (ownP m ((s : Nat) : Int))) := by
  obtain ⟨⟨o1, o2, o3, o4, o5⟩, q1, q2, q3⟩ := id h
  unfold plc at q1
  rw [hit_half]
  have := half_dvd h (q := (m.regs + 2 * ((s : Nat) : Int)).toNat) (by omega)
  rw [show ownP m ((s : Nat) : Int) = P30.getD (m.regs + 2 * ((s : Nat) : Int)).toNat 0 from rfl, this]
  rintro (e | ⟨e, _⟩) <;> omega
theorem half_twn {m : Mac} {c : Cfg} (h : okCfg m c) {s a : Nat} (hs : s ≤ m.code.length) : hitP ((half m c : Nat) : Int) (frc a (twnP m ((s : Nat) : Int))) ↔ ((s : Nat) : Int) = c.at' := by
  obtain ⟨⟨o1, o2, o3, o4, o5⟩, q1, q2, q3⟩ := id h
  unfold plc at q1
  rw [hit_half]
  have := half_dvd h (q := (m.regs + 2 * ((s : Nat) : Int) + 1).toNat) (by omega)
  rw [show twnP m ((s : Nat) : Int) = P30.getD (m.regs + 2 * ((s : Nat) : Int) + 1).toNat 0 from rfl, this]
  constructor
  · rintro (e | ⟨e, _⟩) <;> omega
  · intro e; exact .inl (by omega)
theorem half_mul {m : Mac} {c : Cfg} (h : okCfg m c) {s a b : Nat} (hs : s ≤ m.code.length) : ¬ hitP ((half m c : Nat) : Int) (frc a (ownP m ((s : Nat) : Int) * b)) := fun e => by
  rw [hit_half] at e
  exact half_own h (a := a) hs ((hit_half _ _).2 (Nat.dvd_trans (Nat.dvd_mul_right _ _) e))
theorem half_cmp1 {m : Mac} {c : Cfg} (h : okCfg m c) : ∀ s : Nat, s ≤ m.code.length → ∀ g ∈ cmp1 m s, ¬ hitP ((half m c : Nat) : Int) g
  | 0, _, g, hg => by simp [cmp1] at hg
  | s + 1, h1, g, hg => by
    rw [cmp1] at hg
    rcases List.mem_append.1 hg with hg | hg
    · exact half_cmp1 h s (by omega) g hg
    · unfold insF at hg
      split at hg
      · rw [List.mem_singleton] at hg
        rw [hg]
        exact half_own h (by omega)
      · simp only [List.mem_cons, List.not_mem_nil, or_false] at hg
        rcases hg with rfl | rfl
        · exact half_mul h (by omega)
        · exact half_own h (by omega)
theorem half_cmp2 {m : Mac} {c : Cfg} (h : okCfg m c) : ∀ s : Nat, ((s : Nat) : Int) ≤ c.at' → ∀ g ∈ cmp2 m s, ¬ hitP ((half m c : Nat) : Int) g
  | 0, _, g, hg => half_cmp1 h _ (Nat.le_refl _) g hg
  | s + 1, h1, g, hg => by
    have q1 := h.2.1
    unfold plc at q1
    rw [cmp2] at hg
    rcases List.mem_append.1 hg with hg | hg
    · exact half_cmp2 h s (by omega) g hg
    · rw [List.mem_singleton] at hg
      rw [hg, half_twn h (by omega)]
      omega
theorem cmp2_more (m : Mac) : ∀ (d i : Nat), ∃ U, cmp2 m (i + d) = cmp2 m i ++ U
  | 0, i => ⟨[], by simp⟩
  | d + 1, i => by
    obtain ⟨U, hU⟩ := cmp2_more m d i
    exact ⟨U ++ [frc (ownP m ((i + d : Nat) : Int)) (twnP m ((i + d : Nat) : Int))], by rw [show i + (d + 1) = (i + d) + 1 by omega, cmp2, hU, List.append_assoc]⟩
theorem step_whole {m : Mac} {c : Cfg} (h : okCfg m c) : 0 ≤ fstI (cmpR m) ((half m c : Nat) : Int) ∧ nxF (cmpR m) ((half m c : Nat) : Int) = numC m c := by
  have q1 := h.2.1
  have o4 := h.1.2.2.2.1
  have o2 := h.1.2.1
  have o1 := h.1.1
  unfold plc at q1
  obtain ⟨U, hU⟩ := cmp2_more m (m.code.length - c.at'.toNat) (c.at'.toNat + 1)
  rw [show c.at'.toNat + 1 + (m.code.length - c.at'.toNat) = m.code.length + 1 by omega, show cmp2 m (c.at'.toNat + 1) = cmp2 m c.at'.toNat ++ [frc (ownP m ((c.at'.toNat : Nat) : Int)) (twnP m ((c.at'.toNat : Nat) : Int))] from rfl, List.append_assoc] at hU
  have es : ((c.at'.toNat : Nat) : Int) = c.at' := Int.toNat_of_nonneg q1.1
  obtain ⟨e1, e2⟩ := fst_app (B := U) (half_cmp2 h c.at'.toNat (by omega)) ((half_twn h (s := c.at'.toNat) (a := ownP m ((c.at'.toNat : Nat) : Int)) (by omega)).2 es)
  have eR : cmpR m = cmp2 m c.at'.toNat ++ frc (ownP m ((c.at'.toNat : Nat) : Int)) (twnP m ((c.at'.toNat : Nat) : Int)) :: U := (if_pos h.1).trans hU
  have tp : 0 < twnP m c.at' := by have := p30_ge (m.regs + 2 * c.at' + 1).toNat (by omega); unfold twnP; omega
  rw [← eR] at e1 e2
  refine ⟨by rw [e1]; exact Int.natCast_nonneg _, ?_⟩
  unfold nxF
  rw [e1, Int.toNat_natCast, e2, es]
  show ((half m c : Nat) : Int) / numS (txt _) * numS (txt _) = _
  rw [numS_txt, numS_txt, numC_N]
  unfold half
  rw [Int.natCast_mul, Int.natCast_mul, Int.mul_ediv_cancel _ (by omega)]
end Go.Mth

set_option linter.unusedVariables false
set_option linter.unusedSimpArgs false
namespace Go.Mth
open Go Go.Ab
def shf (m : Nat) (r : ByteArray × Nat × Nat) : ByteArray × Nat × Nat := if r.2.2 = 0 then (r.1, m + r.2.1, 0) else ({ data := #[] }, 0, 3)
theorem ply_none {l : List Frc} {z : Int} (h : ¬ 0 ≤ fstI l z) : ∀ (k c : Nat), ply l k z c = (txt z, c, 0)
  | 0, _ => rfl
  | k + 1, c => if_neg h
theorem ply_succ (l : List Frc) (k : Nat) (z : Int) (c : Nat) : ply l (k + 1) z c = if 0 ≤ fstI l z then (if Fit (nxF l z) then ply l k (nxF l z) (c + 1) else ({ data := #[] }, 0, 3)) else (txt z, c, 0) := rfl
section
variable {l : List Frc} {n : ByteArray} {k j : Int} (h : askE l n = 0) (hk : 0 ≤ k ∧ k ≤ 100) (hj : 0 ≤ j ∧ j ≤ 100)
include h hk hj
end
theorem comR_dvd : ∀ (l : List Frc) (o : Int), 0 < o → (∀ f ∈ l, 0 < numS f.den) → Fit (comR l o) → o ∣ comR l o ∧ (∀ f ∈ l, numS f.den ∣ comR l o) ∧ 0 < comR l o
  | [], o, ho, _, _ => ⟨Int.dvd_refl _, fun f hf => by simp at hf, ho⟩
  | f :: r, o, ho, hd, hF => by
    unfold comR at hF ⊢
    by_cases h : Fit o
    · rw [if_pos h] at hF ⊢
      have hf := hd f (by simp)
      obtain ⟨a, b, c⟩ := comR_dvd r (cmX o (numS f.den)) (cmX_pos ho hf) (fun g hg => hd g (by simp [hg])) hF
      have d1 : numS f.den ∣ cmX o (numS f.den) := Int.dvd_mul_left _ _
      have d2 : o ∣ cmX o (numS f.den) := by rw [← cmX_eq ho hf]; exact Int.dvd_mul_right _ _
      refine ⟨Int.dvd_trans d2 a, fun g hg => ?_, c⟩
      rcases List.mem_cons.1 hg with rfl | hg
      · exact Int.dvd_trans d1 a
      · exact b g hg
    · rw [if_neg h] at hF; exact absurd hF h
theorem fstI_lt {l : List Frc} {z : Int} {k : Nat} (h : 0 ≤ fstI l z) (hk : k < (fstI l z).toNat) : ¬ hitP z (l.getD k default) := by
  have hx : ∃ x ∈ l, hitP z x := fstI_nn.2 h
  have e : fstI l z = (l.findIdx (fun x => decide (hitP z x)) : Int) := if_pos hx
  have hb := (fstI_bd h).1
  rw [e, Int.toNat_natCast] at hk hb
  have := List.not_of_lt_findIdx hk
  rw [List.getD_eq_getElem?_getD, List.getElem?_eq_getElem (by omega)]
  simpa using this
theorem fstI_congr {l : List Frc} {z w : Int} (h : ∀ f ∈ l, (hitP z f ↔ hitP w f)) : fstI l z = fstI l w := by
  by_cases hz : 0 ≤ fstI l z
  · obtain ⟨a, b⟩ := fstI_bd hz
    have := (fst_hit (l := l) (z := w) a ((h _ (gdm a)).1 b) (fun k hk e => fstI_lt hz hk ((h _ (gdm (by omega))).2 e))).1
    rw [this]; omega
  · have hw : ¬ 0 ≤ fstI l w := fun e => hz (fstI_nn.1 (by obtain ⟨f, hf, hp⟩ := fstI_nn.2 e; exact ⟨f, hf, (h f hf).2 hp⟩))
    have e1 : fstI l z = -1 := if_neg (fun e => hz (fstI_nn.1 e))
    have e2 : fstI l w = -1 := if_neg (fun e => hw (fstI_nn.1 e))
    rw [e1, e2]
theorem comA_yes {l : List Frc} (hl : lstP l) (h : (comA l).2 = 0) : (comA l).1 = txt (comR l 1) ∧ Fit (comR l 1) ∧ 0 < comR l 1 ∧ ∀ f ∈ l, numS f.den ∣ comR l 1 := by
  have e := comA_R hl
  have hF : Fit (comR l 1) := Decidable.not_not.1 fun hn => by rw [e, if_neg hn] at h; cases h
  obtain ⟨_, b, c⟩ := comR_dvd l 1 (by decide) (fun f hf => (hl.2 f hf).2.1.2) hF
  exact ⟨by rw [e, if_pos hF], hF, c, b⟩
theorem rests {l : List Frc} {z c b : Int} (h : ∀ f ∈ l, numS f.den ∣ c) : fstI l (z + c * b) = fstI l z :=
  fstI_congr fun f hf => by
    unfold hitP
    obtain ⟨q, hq⟩ := h f hf
    rw [hq, Int.mul_assoc, Int.add_mul_emod_self_left]
theorem fir_same {l : List Frc} {n x : ByteArray} (h1 : askE l n = 0) (h2 : askE l x = 0) (h : fstI l (numS x) = fstI l (numS n)) : firI l n = firI l x ∧ firE l n = firE l x ∧ (firE l n = 0 ∨ firE l n = 4) := by
  unfold firI firE
  rw [h1, h2, h]
  refine ⟨rfl, rfl, ?_⟩
  rw [if_pos rfl]
  split
  · exact .inl rfl
  · exact .inr rfl
end Go.Mth

set_option linter.unusedVariables false
set_option linter.unusedSimpArgs false
namespace Go.Mth
open Go Go.Ab
theorem ask_cfg {m : Mac} {c : Cfg} (h : okCfg m c) (hF : Fit (numC m c)) : encS m c = txt (numC m c) ∧ encE m c = 0 ∧ askE (cmpR m) (encS m c) = 0 ∧ numS (encS m c) = numC m c := by
  have e : encS m c = txt (numC m c) := (if_pos h).trans (told_fit hF).1
  have e2 : encE m c = 0 := (if_pos h).trans (told_fit hF).2
  refine ⟨e, e2, ?_, by rw [e, numS_txt]⟩
  rw [e]
  exact askE_0.2 ⟨cmpR_lst m, okS_iff.2 (okS_txt hF), by rw [numS_txt]; exact numC_pos h⟩
theorem cmpE_0 {m : Mac} {c : Cfg} (h : okCfg m c) : cmpE m = 0 := if_pos h.1
theorem sta_0 {m : Mac} {c : Cfg} (h : okCfg m c) : stA m c = resC m c ∧ stAE m c = stpE m c := ⟨if_pos h, if_pos h⟩
theorem stp_6 {m : Mac} {c : Cfg} (h : stpE m c = 6) : c.at' = (m.code.length : Int) := Decidable.byContradiction fun e => by
  unfold stpE at h
  rw [if_neg e] at h
  split at h <;> cases h
theorem fir_end {m : Mac} {c : Cfg} (h : okCfg m c) (hF : Fit (numC m c)) (hn : c.at' = (m.code.length : Int)) : firI (cmpR m) (encS m c) = 0 ∧ firE (cmpR m) (encS m c) = 4 ∧ stAE m c = 6 := by
  obtain ⟨a1, a2, a3, a4⟩ := ask_cfg h hF
  have := fst_end h hn
  refine ⟨if_neg fun e => by have := e.2; rw [a4] at this; omega, (if_pos a3).trans (if_neg (by rw [a4]; omega)), by rw [(sta_0 h).2]; exact stp_e hn⟩
theorem ply_0 (l : List Frc) (z : Int) (c : Nat) : ply l 0 z c = (txt z, c, 0) := rfl
theorem tw_two {m : Mac} {c : Cfg} (h : okCfg m c) (hF : Fit (numC m c)) (he : stpE m c = 0) (hH : Fit ((half m (stpC m c) : Nat) : Int)) (hG : Fit (numC m (stpC m c))) : plyA (cmpR m) (encS m c) 2 = (encS m (stpC m c), 2, 0) := by
  obtain ⟨a1, a2, a3, a4⟩ := ask_cfg h hF
  have hS := stp_ok h he
  have hn : ¬ c.at' = (m.code.length : Int) := fun e => by rw [stp_e e] at he; cases he
  obtain ⟨w1, w2⟩ := step_whole hS
  rw [plyA_0 a3 (by omega), a4, show (2 : Int).toNat = 0 + 1 + 1 from rfl, ply_succ, if_pos (fst_cfg h hn).1, step_half h he, if_pos hH, ply_succ, if_pos w1, w2, if_pos hG, ply_0, (ask_cfg hS hG).1]
end Go.Mth

set_option linter.unusedVariables false
set_option linter.unusedSimpArgs false
namespace Go.Mth
open Go Go.Ab
theorem p30_10 (i : Nat) (h : i < 4) : P30.getD i 0 ≤ 10 := by
  have : ∀ i < 4, P30.getD i 0 ≤ 10 := by decide
  exact this i h
theorem prN_le {B : Nat} : ∀ (l : List Int) (i : Nat), i + l.length ≤ 4 → (∀ n ∈ l, n.toNat ≤ B) → prN i l ≤ 10 ^ (B * l.length)
  | [], _, _, _ => Nat.le_refl _
  | n :: r, i, hl, h => by
    have hl' : i + 1 + r.length ≤ 4 := by simp at hl; omega
    have ih := prN_le r (i + 1) hl' fun x hx => h x (by simp [hx])
    have h1 : P30.getD i 0 ^ n.toNat ≤ 10 ^ n.toNat := Nat.pow_le_pow_left (p30_10 i (by omega)) _
    have h2 : (10 : Nat) ^ n.toNat ≤ 10 ^ B := Nat.pow_le_pow_right (by decide) (h n (by simp))
    show P30.getD i 0 ^ n.toNat * prN (i + 1) r ≤ 10 ^ (B * (r.length + 1))
    rw [Nat.mul_succ, Nat.pow_add, Nat.mul_comm]
    exact Nat.mul_le_mul ih (Nat.le_trans h1 h2)
theorem fit_small {m : Mac} {c : Cfg} {B : Nat} (h : okCfg m c) (hB : ∀ n ∈ c.regs, n.toNat ≤ B) (hb : B ≤ 400) : Fit (numC m c) ∧ Fit ((half m c : Nat) : Int) := by
  obtain ⟨⟨o1, o2, o3, o4, o5⟩, q1, q2, q3⟩ := id h
  have a := prN_le (B := B) c.regs 0 (by omega) hB
  have a2 : (10 : Nat) ^ (B * c.regs.length) ≤ 10 ^ (B * 4) := Nat.pow_le_pow_right (by decide) (Nat.mul_le_mul_left _ (by omega))
  have key : ∀ p : Nat, p ≤ 113 → Fit ((prN 0 c.regs * p : Nat) : Int) := fun p hp => by
    refine fit_of_pow (k := B * 4 + 3) ?_ (by omega) (by omega)
    rw [Int.natAbs_natCast, Nat.pow_add]
    have : prN 0 c.regs * p ≤ 10 ^ (B * 4) * 113 := Nat.mul_le_mul (by omega) hp
    have : 0 < (10 : Nat) ^ (B * 4) := Nat.pow_pos (by decide)
    omega
  exact ⟨by rw [numC_N]; exact key _ (p30_bd _), key _ (p30_bd _)⟩
theorem reg_B {m : Mac} {c : Cfg} {B : Nat} (h : okCfg m c) (hB : ∀ n ∈ c.regs, n.toNat ≤ B) (hn : ¬ c.at' = (m.code.length : Int)) : regAt m c ≤ B := by
  obtain ⟨a1, a2, a3, a4, a5⟩ := okC_at h hn
  have := hB _ (gdm (d := 0) a3)
  unfold regAt at a4 ⊢
  omega
theorem stp_small {m : Mac} {c : Cfg} {B : Nat} (h : okCfg m c) (hB : ∀ n ∈ c.regs, n.toNat ≤ B) (hb : B < 1000) (h6 : stpE m c ≠ 6) : stpE m c = 0 ∧ ∀ n ∈ (stpC m c).regs, n.toNat ≤ B + 1 := by
  have hn : ¬ c.at' = (m.code.length : Int) := fun e => h6 (stp_e e)
  have r := reg_B h hB hn
  have e3 : ¬ stpE m c = 3 := fun e => by
    unfold stpE at e
    rw [if_neg hn] at e
    split at e
    · rename_i k; omega
    · cases e
  refine ⟨stpE_0 e3 h6, ?_⟩
  have up : ∀ n ∈ c.regs, n.toNat ≤ B + 1 := fun n hn => by have := hB n hn; omega
  unfold stpC
  split
  · exact mem_set (p := fun n : Int => n.toNat ≤ B + 1) up (by show (regAt m c + 1).toNat ≤ B + 1; omega)
  · split
    · exact mem_set (p := fun n : Int => n.toNat ≤ B + 1) up (by show (regAt m c - 1).toNat ≤ B + 1; omega)
    · exact up
end Go.Mth

set_option linter.unusedVariables false
set_option linter.unusedSimpArgs false
namespace Go.Mth
open Go.Ab
theorem numS_lt {a : ByteArray} (h : OkS a) : (numS a).natAbs < 10 ^ a.size := by
  obtain ⟨o1, o2, o3, o4⟩ := h
  have h1 := dvk_lt (a := a) (s := sgnAt a) (k := a.size - sgnAt a) fun i h1 h2 => o4 i h1 (by omega)
  have h3 : (numS a).natAbs = dvk a (sgnAt a) (a.size - sgnAt a) := by unfold numS sg; split <;> simp
  rw [h3]
  exact Nat.lt_of_lt_of_le h1 (Nat.pow_le_pow_right (by decide) (by omega))
theorem mul_lt_pow {x y : Int} {p q : Nat} (hx : x.natAbs < 10 ^ p) (hy : y.natAbs < 10 ^ q) : (x * y).natAbs < 10 ^ (p + q) := by
  rw [Int.natAbs_mul, Nat.pow_add]
  exact Nat.mul_lt_mul'' hx hy
theorem lt_pow_mono {x : Int} {p q : Nat} (hx : x.natAbs < 10 ^ p) (h : p ≤ q) : x.natAbs < 10 ^ q := Nat.lt_of_lt_of_le hx (Nat.pow_le_pow_right (by decide) h)
theorem add_lt_pow {x y : Int} {p : Nat} (hx : x.natAbs < 10 ^ p) (hy : y.natAbs < 10 ^ p) : (x + y).natAbs < 10 ^ (p + 1) := by
  have h := Int.natAbs_add_le x y
  rw [Nat.pow_succ]
  omega
end Go.Mth

set_option linter.unusedVariables false
set_option linter.unusedSimpArgs false
namespace Go.Mth
open Go Go.Ab
theorem insF_den {m : Mac} (s : Nat) (x : Ins) : ∀ f ∈ insF m s x, numS f.den ≤ 99999 := by
  have h1 := ownP_bd m ((s : Nat) : Int)
  have h2 : rgP x ≤ 113 := p30_bd _
  have h3 := Nat.mul_le_mul h1 h2
  intro f hf
  unfold insF at hf
  split at hf
  · rw [List.mem_singleton] at hf
    subst hf
    show numS (txt _) ≤ _
    rw [numS_txt]; omega
  · simp only [List.mem_cons, List.not_mem_nil, or_false] at hf
    rcases hf with rfl | rfl <;> show numS (txt _) ≤ _ <;> rw [numS_txt] <;> omega
theorem cmp1_den {m : Mac} : ∀ i, ∀ f ∈ cmp1 m i, numS f.den ≤ 99999
  | 0, f, hf => by simp [cmp1] at hf
  | i + 1, f, hf => by
    rw [cmp1] at hf
    rcases List.mem_append.1 hf with hf | hf
    · exact cmp1_den i f hf
    · exact insF_den _ _ f hf
theorem cmp2_den {m : Mac} : ∀ i, ∀ f ∈ cmp2 m i, numS f.den ≤ 99999
  | 0, f, hf => cmp1_den _ f hf
  | i + 1, f, hf => by
    rw [cmp2] at hf
    rcases List.mem_append.1 hf with hf | hf
    · exact cmp2_den i f hf
    · rw [List.mem_singleton] at hf
      have h1 := twnP_bd m ((i : Nat) : Int)
      subst hf
      show numS (txt _) ≤ _
      rw [numS_txt]; omega
theorem cmpR_den (m : Mac) : ∀ f ∈ cmpR m, numS f.den ≤ 99999 := by
  unfold cmpR
  split
  · exact cmp2_den _
  · intro f hf; simp at hf
theorem cmX_le {o d : Int} (ho : 0 < o) (hd : 0 < d) : cmX o d ≤ o * d := by
  unfold cmX
  exact Int.mul_le_mul_of_nonneg_right (Int.ediv_le_self _ (by omega)) (by omega)
theorem com_small : ∀ (l : List Frc) (o : Int) (B : Nat), 0 < o → o.natAbs < 10 ^ B → 1 ≤ B → B + 5 * l.length ≤ 2000 → (∀ f ∈ l, 0 < numS f.den ∧ numS f.den ≤ 99999) → (comR l o).natAbs < 10 ^ (B + 5 * l.length) ∧ Fit (comR l o)
  | [], o, B, ho, h, hB, hl, _ => ⟨h, fit_of_pow' h (by simpa using hl) hB⟩
  | f :: r, o, B, ho, h, hB, hl, hd => by
    have hl' : B + 5 + 5 * r.length ≤ 2000 := by simp at hl; omega
    have e : B + 5 * (f :: r).length = B + 5 + 5 * r.length := by simp; omega
    have hF : Fit o := fit_of_pow' h (by omega) hB
    have hf := hd f (by simp)
    have hx : (cmX o (numS f.den)).natAbs < 10 ^ (B + 5) := by
      have a := cmX_le ho hf.1
      have p := cmX_pos ho hf.1
      have q := mul_lt_pow h (show (numS f.den).natAbs < 10 ^ 5 by omega)
      omega
    rw [comR, if_pos hF, e]
    exact com_small r _ (B + 5) (cmX_pos ho hf.1) hx (by omega) hl' fun g hg => hd g (by simp [hg])
theorem comA_mac (m : Mac) : (comA (cmpR m)).2 = 0 ∧ (comA (cmpR m)).1 = txt (comR (cmpR m) 1) ∧ Fit (comR (cmpR m) 1) ∧ 0 < comR (cmpR m) 1 ∧ (∀ f ∈ cmpR m, numS f.den ∣ comR (cmpR m) 1) ∧ (comR (cmpR m) 1).natAbs < 10 ^ 186 := by
  have hl := cmpR_len m
  have hL := cmpR_lst m
  obtain ⟨c1, c2⟩ := com_small (cmpR m) 1 1 (by decide) (by decide) (by decide) (by omega) fun f hf => ⟨(hL.2 f hf).2.1.2, cmpR_den m f hf⟩
  have e := comA_R hL
  rw [if_pos c2] at e
  have e0 : (comA (cmpR m)).2 = 0 := by rw [e]
  obtain ⟨d1, d2, d3, d4⟩ := comA_yes hL e0
  exact ⟨e0, d1, d2, d3, d4, lt_pow_mono c1 (by omega)⟩
def sumR : List Int → Nat → Int
  | l, 0 => 0
  | l, i + 1 => sumR l i + l.getD i 0
theorem sumR_mono {l : List Int} (h : ∀ n ∈ l, 0 ≤ n) : ∀ i, i ≤ l.length → 0 ≤ sumR l i ∧ ∀ j, j < i → l.getD j 0 ≤ sumR l i
  | 0, _ => ⟨Int.le_refl _, fun j hj => by omega⟩
  | i + 1, hi => by
    obtain ⟨a, b⟩ := sumR_mono h i (by omega)
    have c := h _ (gdm (d := 0) (show i < l.length by omega))
    refine ⟨by show 0 ≤ sumR l i + l.getD i 0; omega, fun j hj => ?_⟩
    show l.getD j 0 ≤ sumR l i + l.getD i 0
    rcases Nat.lt_or_ge j i with e | e
    · have := b j e; omega
    · rw [show j = i by omega]; omega
theorem sum_reg {m : Mac} {c : Cfg} (h : okCfg m c) (hs : sumR c.regs c.regs.length ≤ 200) : ∀ n ∈ c.regs, n.toNat ≤ 200 + 0 := by
  intro n hn
  obtain ⟨k, hk, rfl⟩ := List.getElem_of_mem hn
  have := (sumR_mono (fun n hn => (h.2.2.2 n hn).1) c.regs.length (Nat.le_refl _)).2 k hk
  rw [List.getD_eq_getElem?_getD, List.getElem?_eq_getElem hk] at this
  have e : (some c.regs[k]).getD 0 = c.regs[k] := rfl
  rw [e] at this
  omega
def actC (m : Mac) (c : Cfg) : Cfg := if c.at' = (m.code.length : Int) then c else stpC m c
theorem act_go {m : Mac} {c : Cfg} (h : ¬ c.at' = (m.code.length : Int)) : actC m c = stpC m c := if_neg h
theorem top_end {m : Mac} {c : Cfg} {B : Nat} (h : okCfg m c) (hB : ∀ n ∈ c.regs, n.toNat ≤ B) (hb : B ≤ 300) (hn : c.at' = (m.code.length : Int)) : plyA (cmpR m) (txt (numC m c)) 2 = (txt (numC m c), 0, 0) ∧ firE (cmpR m) (txt (numC m c)) = 4 := by
  have hF := (fit_small h hB (by omega)).1
  obtain ⟨a1, a2, a3, a4⟩ := ask_cfg h hF
  have f := (fir_end h hF hn).2.1
  rw [a1] at a3 a4 f
  refine ⟨?_, f⟩
  rw [plyA_0 a3 (by omega), a4]
  exact ply_none (by rw [fst_end h hn]; decide) _ _
theorem top_go {m : Mac} {c : Cfg} {B : Nat} (h : okCfg m c) (hB : ∀ n ∈ c.regs, n.toNat ≤ B) (hb : B ≤ 300) (hn : ¬ c.at' = (m.code.length : Int)) : stpE m c = 0 ∧ okCfg m (stpC m c) ∧ (∀ n ∈ (stpC m c).regs, n.toNat ≤ B + 1) ∧ plyA (cmpR m) (txt (numC m c)) 2 = (txt (numC m (stpC m c)), 2, 0) := by
  have hF := (fit_small h hB (by omega)).1
  obtain ⟨e0, hB'⟩ := stp_small h hB (by omega) (fun e => hn (stp_6 e))
  have hS := stp_ok h e0
  obtain ⟨f1, f2⟩ := fit_small hS hB' (by omega)
  have t := tw_two h hF e0 f2 f1
  rw [(ask_cfg h hF).1, (ask_cfg hS f1).1] at t
  exact ⟨e0, hS, hB', t⟩
theorem num_fit {m : Mac} {c : Cfg} {B : Nat} (h : okCfg m c) (hB : ∀ n ∈ c.regs, n.toNat ≤ B) (hb : B ≤ 300) : Fit (numC m c) := (fit_small h hB (by omega)).1
theorem top_same {m : Mac} {a b : ByteArray} (ha : okS a = true) (ha2 : a.size ≤ 601) (hb : okS b = true) (hb2 : b.size ≤ 601) (h1 : 0 < numS a) (h2 : 0 ≤ numS b) : Fit (numS a) ∧ Fit (numS a + numS b * comR (cmpR m) 1) ∧ firI (cmpR m) (txt (numS a)) = firI (cmpR m) (txt (numS a + numS b * comR (cmpR m) 1)) ∧ firE (cmpR m) (txt (numS a)) = firE (cmpR m) (txt (numS a + numS b * comR (cmpR m) 1)) := by
  obtain ⟨c1, c2, c3, c4, c5, c6⟩ := comA_mac m
  have n1 := lt_pow_mono (numS_lt (okS_iff.1 ha)) ha2
  have n2 := lt_pow_mono (numS_lt (okS_iff.1 hb)) hb2
  have n3 := mul_lt_pow n2 c6
  have n4 := add_lt_pow (lt_pow_mono n1 (Nat.le_add_right _ _)) n3
  have F1 : Fit (numS a) := fit_numS (okS_iff.1 ha)
  have F2 : Fit (numS a + numS b * comR (cmpR m) 1) := fit_of_pow' n4 (by omega) (by omega)
  have p := Int.mul_nonneg h2 (Int.le_of_lt c4)
  have q1 : askE (cmpR m) (txt (numS a)) = 0 := askE_0.2 ⟨cmpR_lst m, okS_iff.2 (okS_txt F1), by rw [numS_txt]; exact h1⟩
  have q2 : askE (cmpR m) (txt (numS a + numS b * comR (cmpR m) 1)) = 0 := askE_0.2 ⟨cmpR_lst m, okS_iff.2 (okS_txt F2), by rw [numS_txt]; omega⟩
  have r := fir_same q1 q2 (by rw [numS_txt, numS_txt, Int.mul_comm (numS b)]; exact rests c5)
  exact ⟨F1, F2, r.1, r.2.1⟩
end Go.Mth
namespace Go.Mth
open Go Go.Ab
def ndv (n k : Nat) : Prop := ∀ q, q < k → n % P30.getD q 0 ≠ 0
instance (n k : Nat) : Decidable (ndv n k) := by unfold ndv; infer_instance
theorem ndv_zero (n : Nat) : ndv n 0 := fun q hq => absurd hq (by omega)
theorem ndv_step {n k : Nat} (h : ndv n k) : n % P30.getD k 0 ≠ 0 ↔ ndv n (k + 1) :=
  ⟨fun g q hq => by rcases Nat.lt_or_ge q k with e | e; exact h q e; rw [show q = k by omega]; exact g, fun g => g k (by omega)⟩
theorem ndv_mono {n k : Nat} (h : ¬ ndv n k) : ¬ ndv n (k + 1) := fun g => h fun q hq => g q (by omega)
theorem take_get {k j : Nat} (h : k < j) : (P30.take j).getD k 0 = P30.getD k 0 := by
  rw [List.getD_eq_getElem?_getD, List.getD_eq_getElem?_getD, List.getElem?_take_of_lt h]
theorem take_p30 {j : Nat} (h : j ≤ 30) : (P30.take j).length = j := by
  rw [List.length_take, show P30.length = 30 from rfl]; omega
theorem tk_snoc {j n : Nat} (hj : j < 30) (h : n = P30.getD j 0) : P30.take j ++ [n] = P30.take (j + 1) := by
  have hl : j < P30.length := by rw [show P30.length = 30 from rfl]; omega
  rw [h, List.getD_eq_getElem?_getD, List.getElem?_eq_getElem hl, List.take_succ_eq_append_getElem hl]
  rfl
theorem nd_p30 {j n : Nat} (hj : j < 30) (h1 : prv j < n) (h2 : n ≤ P30.getD j 0) : ndv n j ↔ n = P30.getD j 0 := by
  have hu := (p30_up j hj).2
  have inT : ∀ q, q < j → P30.getD q 0 ∈ P30.take j := fun q hq => by
    have := gdm (d := 0) (l := P30.take j) (i := q) (by rw [take_p30 (by omega)]; exact hq)
    rwa [take_get hq] at this
  constructor
  · intro h
    refine Decidable.byContradiction fun e => ?_
    obtain ⟨p, hp, hm⟩ := p30_hit j hj n (by omega) h1 (by omega)
    obtain ⟨q, hq, rfl⟩ := List.getElem_of_mem hp
    rw [take_p30 (by omega)] at hq
    refine h q hq ?_
    have : (P30.take j)[q] = P30.getD q 0 := by
      rw [← take_get hq, List.getD_eq_getElem?_getD, List.getElem?_eq_getElem]
      rfl
    rw [← this]
    exact hm
  · intro e q hq hm
    refine p30_miss j hj ⟨_, inT q hq, ?_⟩
    rw [← e]
    exact hm
theorem act_a {m : Mac} {c : Cfg} (hn : ¬ c.at' = (m.code.length : Int)) (hk : (insAt m c).kind = 0) (hr : regAt m c ≤ 1000) : regAt m c + 1 ≤ 1000 ↔ stpE m c = 0 := by
  constructor
  · intro h; exact (stp_a hn hk (by omega)).1
  · intro h
    refine Decidable.byContradiction fun e => ?_
    rw [stp_d hn hk (by omega)] at h
    cases h
end Go.Mth

