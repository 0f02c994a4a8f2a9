import Derived.Test.YtkngglpnejdicaaDoorWj
import Derived.Test.YtkngglpnejdicaaDoorLr
set_option linter.unusedVariables false
set_option linter.unusedSimpArgs false
namespace Go.Proofs.YtkngglpnejdicaaDoor
open Go Go.Ab Go.Mth
theorem Wz_tF24_1 : tyField cx.P 24 1 = some (1, 22) := by kernel_rfl
theorem Wz_tS22 : tySc cx.P 22 = true := by kernel_rfl
theorem Wz_tU22 : cx.P.underlying 22 = some (.slice 3) := by kernel_rfl
theorem Wz_tE22 : tyElem cx.P 22 = some (3, 1, 8) := by kernel_rfl
theorem Wz_tS3 : tySc cx.P 3 = true := by kernel_rfl
theorem Wz_tF24_0 : tyField cx.P 24 0 = some (0, 3) := by kernel_rfl
theorem Wz_tC104 : callable cx.P 104 = true := by kernel_rfl
theorem Wz_tA24 : tyAgg cx.P 24 = some 3 := by kernel_rfl
theorem Wz_tC39 : callable cx.P 39 = true := by kernel_rfl
theorem Wz_tC82 : callable cx.P 82 = true := by kernel_rfl
theorem Wz_tC84 : callable cx.P 84 = true := by kernel_rfl
theorem c_sCommon (a b : Nat) : ECalls cx 104 [(nm .i64 (a)), (nm .i64 (b))] (nm .i64 (Nat.gcd a b)) := by
  refine ecalls_of_awp Tryd.func104 (c := _) rfl (Nat.le_of_ble_eq_true rfl) ?_
  show awp cx 12 _ (postF cx Tryd.f104 _) ⟨[(0, (nm .i64 (a))), (1, (nm .i64 (b)))], []⟩
  refine awp_seq fun K0 hK0 => ?_
  refine awp_region rfl ?_
  refine o_assign (nm .i64 (0)) Gd.none rfl ?_
  refine aops_end ?_
  refine hK0 _ ?_
  refine awp_seq fun K1 hK1 => ?_
  refine awp_block ?_
  refine awp_loopR (fun κ σ => ∃ (u : Nat), ∃ (v : Nat), (Nat.gcd u v = Nat.gcd a b) ∧ (v) = κ ∧ σ = ⟨[(0, (nm .i64 (u))), (1, (nm .i64 (v)))], []⟩) ⟨_, _, ⟨a, b, rfl, rfl, rfl⟩, ?wk0⟩ ?rd0
  case wk0 =>
    exact Wk.sub (And.intro (by first | rfl | exact congrArg (nm _) (by omega) | exact nm_int (by omega) | exact nm_int (by simp [IntKind.wrap, IntKind.bits, IntKind.signed]; omega)) (And.intro (by first | rfl | exact congrArg (nm _) (by omega) | exact nm_int (by omega) | exact nm_int (by simp [IntKind.wrap, IntKind.bits, IntKind.signed]; omega)) (trivial))) (trivial)
  rintro κ _ ⟨u, v, hg, rfl, rfl⟩
  refine awp_seq fun K2 hK2 => ?_
  refine awp_seq fun K3 hK3 => ?_
  refine awp_region rfl ?_
  refine o_move (nm .i64 (v)) Gd.none rfl ?_
  refine n_gtr (v) (0) Gd.none rfl rfl ?_
  refine aops_end ?_
  refine hK3 _ ?_
  refine awp_condQ (q := (0) < (v)) rfl (fun h1 => ?_) (fun h1 => ?_)
  · refine awp_skip ?_
    refine hK2 _ ?_
    refine awp_block ?_
    refine awp_regionD rfl ?_
    refine o_move (nm .i64 (v)) Gd.none rfl ?_
    refine o_move (nm .i64 (u)) Gd.none rfl ?_
    refine o_move (nm .i64 (v)) Gd.none rfl ?_
    refine n_rem (u) (v) Gd.none rfl rfl (by omega) ?_
    refine o_assign (nm .i64 (v)) Gd.none rfl ?_
    refine o_assign (nm .i64 ((u) % (v))) Gd.none rfl ?_
    refine aops_end ⟨by kernel_rfl, ?_⟩
    refine ⟨_, _, ?lt, ⟨v, u % v, (gcd_nx hg), rfl, rfl⟩, ?wk⟩
    case lt => exact Nat.mod_lt u (by assumption)
    case wk => exact Wk.sub (And.intro (by first | rfl | exact congrArg (nm _) (by omega) | exact nm_int (by omega) | exact nm_int (by simp [IntKind.wrap, IntKind.bits, IntKind.signed]; omega)) (And.intro (by first | rfl | exact congrArg (nm _) (by omega) | exact nm_int (by omega) | exact nm_int (by simp [IntKind.wrap, IntKind.bits, IntKind.signed]; omega)) (trivial))) (trivial)
  · refine awp_exit ?_
    refine hK1 _ ?_
    refine awp_seq fun K4 hK4 => ?_
    refine awp_region rfl ?_
    refine o_move (nm .i64 (u)) Gd.none rfl ?_
    refine o_assign (nm .i64 (u)) Gd.none rfl ?_
    refine aops_end ?_
    refine hK4 _ ?_
    refine awp_ret ?_
    refine post_ret ⟨[(nm .i64 (u))], And.intro (AV.le_refl _) (trivial), rfl, ?_⟩
    exact congrArg (nm _) (gcd_ed hg h1)

theorem c_sFree (m : MapM) (hM : OkM m) : ECalls cx 82 [(mapV m)] (bp (freeM m)) := by
  refine ecalls_of_awp Tryd.func82 (c := _) rfl (Nat.le_of_ble_eq_true rfl) ?_
  show awp cx 18 _ (postF cx Tryd.f82 _) ⟨[(0, (mapV m))], []⟩
  obtain ⟨o1, o2, o3, o4, o5⟩ := hM
  refine awp_seq fun K0 hK0 => ?_
  refine awp_region rfl ?_
  refine o_box 2 [(AV.lit (.int .i64 (m.mod))), (AV.sl 1 (is .i64 (m.mul))), (AV.sl 1 (is .i64 (m.add)))] Gd.none rfl rfl ?_
  refine o_assign (AV.lit (.bool false)) Gd.none rfl ?_
  refine aops_end ?_
  refine hK0 _ ?_
  refine awp_seq fun K1 hK1 => ?_
  refine awp_seq fun K2 hK2 => ?_
  refine awp_region rfl ?_
  refine o_fieldRef 1 Gd.none Wz_tF24_1 rfl rfl ?_
  refine o_loadS (AV.sl 1 (is .i64 (m.mul))) Gd.none Wz_tS22 rfl rfl rfl ?_
  refine i_len (m.mul) Gd.none Wz_tU22 rfl ?_
  refine o_move (nm .i64 (0)) Gd.none rfl ?_
  refine aops_end ?_
  refine hK2 _ ?_
  refine awp_block ?_
  refine awp_loopR (fun κ σ => ∃ (i : Nat), (i ≤ m.mul.length) ∧ (∀ k, k < i → Nat.gcd (m.mul.getD k 0).toNat m.mod.toNat ≤ 1) ∧ (m.mul.length - i) = κ ∧ σ = ⟨[(1, (AV.ref 2 (0))), (6, (AV.sl 1 (is .i64 (m.mul)))), (7, (nm .i64 ((m.mul).length))), (8, (nm .i64 (i)))], [(2, (AO.var 24 [(AV.lit (.int .i64 (m.mod))), (AV.sl 1 (is .i64 (m.mul))), (AV.sl 1 (is .i64 (m.add)))]))]⟩) ⟨_, _, ⟨0, (by omega), (fun k hk => by omega), rfl, rfl⟩, ?wk0⟩ ?rd0
  case wk0 =>
    exact Wk.sub (And.intro (by exact rfl) (And.intro (by exact rfl) (And.intro (by exact rfl) (And.intro (by first | rfl | exact congrArg (nm _) (by omega) | exact nm_int (by omega) | exact nm_int (by simp [IntKind.wrap, IntKind.bits, IntKind.signed]; omega)) (trivial))))) (And.intro (by first | rfl | exact row_ns (by simp) | exact congrArg (fun x => some (AO.blk (.stringIter _ x))) (by omega)) (trivial))
  rintro κ _ ⟨i, hi, hf, rfl, rfl⟩
  refine awp_seq fun K3 hK3 => ?_
  refine awp_region rfl ?_
  refine n_lss (i) ((m.mul).length) Gd.none rfl rfl ?_
  refine aops_end ?_
  refine hK3 _ ?_
  refine awp_seq fun K4 hK4 => ?_
  refine awp_condQ (q := (i) < ((m.mul).length)) rfl (fun h1 => ?_) (fun h1 => ?_)
  · have hoi := o5 i (by omega)
    refine awp_skip ?_
    refine hK4 _ ?_
    refine awp_seq fun K5 hK5 => ?_
    refine awp_block ?_
    refine awp_seq fun K6 hK6 => ?_
    refine awp_region rfl ?_
    refine i_index (m.mul) (i) Gd.none Wz_tE22 rfl rfl (by omega) ?_
    refine i_loadI (m.mul) (i) Gd.none Wz_tS3 rfl (by omega) ?_
    refine o_assign (AV.lit (.int .i64 ((m.mul).getD (i) 0))) Gd.none rfl ?_
    refine aops_end ?_
    refine hK6 _ ?_
    refine awp_seq fun K7 hK7 => ?_
    refine awp_region rfl ?_
    refine o_move (AV.lit (.int .i64 ((m.mul).getD (i) 0))) Gd.none rfl ?_
    refine n_as (v' := (nm .i64 (((m.mul).getD (i) 0).toNat))) (nm_int (by omega)) ?_
    refine o_fieldRef 0 Gd.none Wz_tF24_0 rfl rfl ?_
    refine o_loadS (AV.lit (.int .i64 (m.mod))) Gd.none Wz_tS3 rfl rfl rfl ?_
    refine n_as (v' := (nm .i64 (m.mod.toNat))) (nm_int (by omega)) ?_
    refine o_call [(nm .i64 (((m.mul).getD (i) 0).toNat)), (nm .i64 (m.mod.toNat))] (nm .i64 (Nat.gcd (((m.mul).getD (i) 0).toNat) (m.mod.toNat))) Gd.none Wz_tC104 rfl (c_sCommon (((m.mul).getD (i) 0).toNat) (m.mod.toNat)) ?_
    refine n_gtr (Nat.gcd (((m.mul).getD (i) 0).toNat) (m.mod.toNat)) (1) Gd.none rfl rfl ?_
    refine aops_end ?_
    refine hK7 _ ?_
    refine awp_condQ (q := (1) < (Nat.gcd (((m.mul).getD (i) 0).toNat) (m.mod.toNat))) rfl (fun h2 => ?_) (fun h2 => ?_)
    · refine awp_seq fun K8 hK8 => ?_
      refine awp_region rfl ?_
      refine o_assign (AV.lit (.bool false)) Gd.none rfl ?_
      refine aops_end ?_
      refine hK8 _ ?_
      refine awp_ret ?_
      refine post_ret ⟨[(AV.lit (.bool false))], And.intro (AV.le_refl _) (trivial), rfl, ?_⟩
      exact (bl_bp (b := false) ⟨fun h => (by cases h), fun h => absurd h (fun hh => absurd (hh i h1) (by omega))⟩).symm
    · refine awp_skip ?_
      refine hK5 _ ?_
      refine awp_region rfl ?_
      refine n_add (i) (1) Gd.none rfl rfl (by simp only [topOf]; omega) ?_
      refine o_move (nm .i64 ((i) + (1))) Gd.none rfl ?_
      refine aops_end ?_
      refine ⟨_, _, ?lt, ⟨i + 1, (by omega), (fun k hk => by rcases Nat.lt_or_ge k i with e | e; exact hf k e; rw [show k = i by omega]; omega), rfl, rfl⟩, ?wk⟩
      case lt => omega
      case wk => exact Wk.sub (And.intro (by exact rfl) (And.intro (by exact rfl) (And.intro (by exact rfl) (And.intro (by first | rfl | exact congrArg (nm _) (by omega) | exact nm_int (by omega) | exact nm_int (by simp [IntKind.wrap, IntKind.bits, IntKind.signed]; omega)) (trivial))))) (And.intro (by first | rfl | exact row_ns (by simp) | exact congrArg (fun x => some (AO.blk (.stringIter _ x))) (by omega)) (trivial))
  · refine awp_exit ?_
    refine hK1 _ ?_
    refine awp_seq fun K9 hK9 => ?_
    refine awp_region rfl ?_
    refine o_assign (AV.lit (.bool true)) Gd.none rfl ?_
    refine aops_end ?_
    refine hK9 _ ?_
    refine awp_ret ?_
    refine post_ret ⟨[(AV.lit (.bool true))], And.intro (AV.le_refl _) (trivial), rfl, ?_⟩
    exact (bl_bp (b := true) ⟨fun _ => (show freeM m from fun k hk => hf k (by omega)), fun _ => rfl⟩).symm

theorem c_sRegular (m : MapM) : ECalls cx 37 [(mapV m)] (.tup [bp (okM m = true ∧ freeM m), nm .i64 (if okM m then 0 else 1)]) := by
  refine ecalls_of_awp Tryd.func37 (c := _) rfl (Nat.le_of_ble_eq_true rfl) ?_
  show awp cx 9 _ (postF cx Tryd.f37 _) ⟨[(0, (mapV m))], []⟩
  refine awp_seq fun K0 hK0 => ?_
  refine awp_region rfl ?_
  refine o_box 2 [(AV.lit (.int .i64 (m.mod))), (AV.sl 1 (is .i64 (m.mul))), (AV.sl 1 (is .i64 (m.add)))] Gd.none rfl rfl ?_
  refine o_assign (AV.lit (.bool false)) Gd.none rfl ?_
  refine o_assign (nm .i64 (0)) Gd.none rfl ?_
  refine aops_end ?_
  refine hK0 _ ?_
  refine awp_seq fun K1 hK1 => ?_
  refine awp_seq fun K2 hK2 => ?_
  refine awp_region rfl ?_
  refine o_loadA [(AV.lit (.int .i64 (m.mod))), (AV.sl 1 (is .i64 (m.mul))), (AV.sl 1 (is .i64 (m.add)))] Gd.none Wz_tA24 rfl rfl rfl rfl rfl ?_
  refine o_call [(AV.agg [(AV.lit (.int .i64 (m.mod))), (AV.sl 1 (is .i64 (m.mul))), (AV.sl 1 (is .i64 (m.add)))])] (AV.lit (.bool (okM m))) Gd.none Wz_tC39 rfl (c_sValid m) ?_
  refine o_not (b := okM m) Gd.none rfl ?_
  refine aops_end ?_
  refine hK2 _ ?_
  refine awp_condB (b := !(okM m)) rfl (fun h1 => ?_) (fun h1 => ?_)
  · have hm' : okM m = false := by simpa using h1
    refine awp_seq fun K3 hK3 => ?_
    refine awp_region rfl ?_
    refine o_assign (AV.lit (.bool false)) Gd.none rfl ?_
    refine o_assign (nm .i64 (1)) Gd.none rfl ?_
    refine aops_end ?_
    refine hK3 _ ?_
    refine awp_ret ?_
    refine post_ret ⟨[(AV.lit (.bool false)), (nm .i64 (1))], And.intro (AV.le_refl _) (And.intro (AV.le_refl _) (trivial)), rfl, ?_⟩
    exact tup_eq2 (bl_bp (b := false) ⟨fun h => (by cases h), fun h => absurd h.1 (by rw [hm']; decide)⟩).symm (by rw [hm']; rfl)
  · have hm' : okM m = true := by simpa using h1
    have hM := okM_iff.1 hm'
    refine awp_skip ?_
    refine hK1 _ ?_
    refine awp_seq fun K4 hK4 => ?_
    refine awp_region rfl ?_
    refine o_loadA [(AV.lit (.int .i64 (m.mod))), (AV.sl 1 (is .i64 (m.mul))), (AV.sl 1 (is .i64 (m.add)))] Gd.none Wz_tA24 rfl rfl rfl rfl rfl ?_
    refine o_call [(AV.agg [(AV.lit (.int .i64 (m.mod))), (AV.sl 1 (is .i64 (m.mul))), (AV.sl 1 (is .i64 (m.add)))])] (bp (freeM m)) Gd.none Wz_tC82 rfl (c_sFree m hM) ?_
    refine o_assign (bp (freeM m)) Gd.none rfl ?_
    refine o_assign (nm .i64 (0)) Gd.none rfl ?_
    refine aops_end ?_
    refine hK4 _ ?_
    refine awp_ret ?_
    refine post_ret ⟨[(bp (freeM m)), (nm .i64 (0))], And.intro (AV.le_refl _) (And.intro (AV.le_refl _) (trivial)), rfl, ?_⟩
    exact tup_eq2 (bp_congr ⟨fun h => h.2, fun h => ⟨hm', h⟩⟩) (by rw [hm']; rfl)

theorem c_gPrime (a b : Nat) (ha : a ≤ 1000000000) (hb : b ≤ 1000000000) : ECalls cx 84 [(nm .i64 (a)), (nm .i64 (b))] (bp (primeN a b)) := by
  refine ecalls_of_awp Tryd.func84 (c := _) rfl (Nat.le_of_ble_eq_true rfl) ?_
  show awp cx 26 _ (postF cx Tryd.f84 _) ⟨[(0, (nm .i64 (a))), (1, (nm .i64 (b)))], []⟩
  refine awp_seq fun K0 hK0 => ?_
  refine awp_region rfl ?_
  refine o_assign (AV.lit (.bool false)) Gd.none rfl ?_
  refine aops_end ?_
  refine hK0 _ ?_
  refine awp_seq fun K1 hK1 => ?_
  refine awp_seq fun K2 hK2 => ?_
  refine awp_region rfl ?_
  refine o_assign (nm .i64 (2)) Gd.none rfl ?_
  refine aops_end ?_
  refine hK2 _ ?_
  refine awp_block ?_
  refine awp_loopR (fun κ σ => ∃ (d : Nat), (2 ≤ d) ∧ (d ≤ max a 1 + 1) ∧ (∀ e, 2 ≤ e → e < d → ¬ (a % e = 0 ∧ b % e = 0)) ∧ (max a 1 + 1 - d) = κ ∧ σ = ⟨[(0, (nm .i64 (a))), (1, (nm .i64 (b))), (5, (nm .i64 (d)))], []⟩) ⟨_, _, ⟨2, (by omega), (by omega), (fun e h1 h2 => by omega), rfl, rfl⟩, ?wk0⟩ ?rd0
  case wk0 =>
    exact Wk.sub (And.intro (by exact rfl) (And.intro (by exact rfl) (And.intro (by first | rfl | exact congrArg (nm _) (by omega) | exact nm_int (by omega) | exact nm_int (by simp [IntKind.wrap, IntKind.bits, IntKind.signed]; omega)) (trivial)))) (trivial)
  rintro κ _ ⟨d, hd, hd2, hf, rfl, rfl⟩
  refine awp_seq fun K3 hK3 => ?_
  refine awp_seq fun K4 hK4 => ?_
  refine awp_region rfl ?_
  refine o_move (nm .i64 (d)) Gd.none rfl ?_
  refine o_move (nm .i64 (a)) Gd.none rfl ?_
  refine n_leq (d) (a) Gd.none rfl rfl ?_
  refine o_move (bp ((d) ≤ (a))) Gd.none rfl ?_
  refine o_splitP (q := (d) ≤ (a)) 9 rfl (fun h1 => ?_) (fun h1 => ?_)
  · refine o_move (nm .i64 (d)) (Gd.yes rfl rfl (decide_eq_true h1)) rfl ?_
    refine o_move (nm .i64 (b)) (Gd.yes rfl rfl (decide_eq_true h1)) rfl ?_
    refine n_leq (d) (b) (Gd.yes rfl rfl (decide_eq_true h1)) rfl rfl ?_
    refine o_pickT (b := decide ((d) ≤ (a))) (bp ((d) ≤ (b))) Gd.none rfl (decide_eq_true h1) rfl ?_
    refine aops_end ?_
    refine hK4 _ ?_
    refine awp_condQ (q := (d) ≤ (b)) rfl (fun h2 => ?_) (fun h2 => ?_)
    · refine awp_skip ?_
      refine hK3 _ ?_
      refine awp_seq fun K5 hK5 => ?_
      refine awp_block ?_
      refine awp_seq fun K6 hK6 => ?_
      refine awp_region rfl ?_
      refine o_move (nm .i64 (a)) Gd.none rfl ?_
      refine o_move (nm .i64 (d)) Gd.none rfl ?_
      refine n_rem (a) (d) Gd.none rfl rfl (by omega) ?_
      refine n_eql ((a) % (d)) (0) Gd.none rfl rfl ?_
      refine o_move (bp (((a) % (d)) = (0))) Gd.none rfl ?_
      refine o_splitP (q := ((a) % (d)) = (0)) 20 rfl (fun h3 => ?_) (fun h3 => ?_)
      · refine o_move (nm .i64 (b)) (Gd.yes rfl rfl (decide_eq_true h3)) rfl ?_
        refine o_move (nm .i64 (d)) (Gd.yes rfl rfl (decide_eq_true h3)) rfl ?_
        refine n_rem (b) (d) (Gd.yes rfl rfl (decide_eq_true h3)) rfl rfl (by omega) ?_
        refine n_eql ((b) % (d)) (0) (Gd.yes rfl rfl (decide_eq_true h3)) rfl rfl ?_
        refine o_pickT (b := decide (((a) % (d)) = (0))) (bp (((b) % (d)) = (0))) Gd.none rfl (decide_eq_true h3) rfl ?_
        refine aops_end ?_
        refine hK6 _ ?_
        refine awp_condQ (q := ((b) % (d)) = (0)) rfl (fun h4 => ?_) (fun h4 => ?_)
        · refine awp_seq fun K7 hK7 => ?_
          refine awp_region rfl ?_
          refine o_assign (AV.lit (.bool false)) Gd.none rfl ?_
          refine aops_end ?_
          refine hK7 _ ?_
          refine awp_ret ?_
          refine post_ret ⟨[(AV.lit (.bool false))], And.intro (AV.le_refl _) (trivial), rfl, ?_⟩
          exact (bl_bp (b := false) ⟨fun h => (by cases h), fun h => absurd h (fun hh => hh d hd h1 h2 ⟨h3, h4⟩)⟩).symm
        · refine awp_skip ?_
          refine hK5 _ ?_
          refine awp_region rfl ?_
          refine o_move (nm .i64 (d)) Gd.none rfl ?_
          refine n_add (d) (1) Gd.none rfl rfl (by simp only [topOf]; omega) ?_
          refine o_assign (nm .i64 ((d) + (1))) Gd.none rfl ?_
          refine aops_end ?_
          refine ⟨_, _, ?lt, ⟨d + 1, (by omega), (by omega), (fun e h1' h2' => by rcases Nat.lt_or_ge e d with hh | hh; exact hf e h1' hh; rw [show e = d by omega]; exact fun hc => h4 hc.2), rfl, rfl⟩, ?wk⟩
          case lt => omega
          case wk => exact Wk.sub (And.intro (by exact rfl) (And.intro (by exact rfl) (And.intro (by first | rfl | exact congrArg (nm _) (by omega) | exact nm_int (by omega) | exact nm_int (by simp [IntKind.wrap, IntKind.bits, IntKind.signed]; omega)) (trivial)))) (trivial)
      · refine o_skip (b := decide (((a) % (d)) = (0))) rfl rfl (decide_eq_false h3) ?_
        refine o_skip (b := decide (((a) % (d)) = (0))) rfl rfl (decide_eq_false h3) ?_
        refine o_skip (b := decide (((a) % (d)) = (0))) rfl rfl (decide_eq_false h3) ?_
        refine o_skip (b := decide (((a) % (d)) = (0))) rfl rfl (decide_eq_false h3) ?_
        refine o_pickF (b := decide (((a) % (d)) = (0))) (AV.lit (.bool false)) Gd.none rfl (decide_eq_false h3) rfl ?_
        refine aops_end ?_
        refine hK6 _ ?_
        refine awp_condB (b := false) rfl (fun hh => absurd (hh.symm.trans rfl) (by decide)) (fun _ => ?_)
        refine awp_skip ?_
        refine hK5 _ ?_
        refine awp_region rfl ?_
        refine o_move (nm .i64 (d)) Gd.none rfl ?_
        refine n_add (d) (1) Gd.none rfl rfl (by simp only [topOf]; omega) ?_
        refine o_assign (nm .i64 ((d) + (1))) Gd.none rfl ?_
        refine aops_end ?_
        refine ⟨_, _, ?lt, ⟨d + 1, (by omega), (by omega), (fun e h1' h2' => by rcases Nat.lt_or_ge e d with hh | hh; exact hf e h1' hh; rw [show e = d by omega]; exact fun hc => h3 hc.1), rfl, rfl⟩, ?wk⟩
        case lt => omega
        case wk => exact Wk.sub (And.intro (by exact rfl) (And.intro (by exact rfl) (And.intro (by first | rfl | exact congrArg (nm _) (by omega) | exact nm_int (by omega) | exact nm_int (by simp [IntKind.wrap, IntKind.bits, IntKind.signed]; omega)) (trivial)))) (trivial)
    · refine awp_exit ?_
      refine hK1 _ ?_
      refine awp_seq fun K8 hK8 => ?_
      refine awp_region rfl ?_
      refine o_assign (AV.lit (.bool true)) Gd.none rfl ?_
      refine aops_end ?_
      refine hK8 _ ?_
      refine awp_ret ?_
      refine post_ret ⟨[(AV.lit (.bool true))], And.intro (AV.le_refl _) (trivial), rfl, ?_⟩
      exact (bl_bp (b := true) ⟨fun _ => (show primeN a b from fun e h1' ha' hb' => hf e h1' (by omega)), fun _ => rfl⟩).symm
  · refine o_skip (b := decide ((d) ≤ (a))) rfl rfl (decide_eq_false h1) ?_
    refine o_skip (b := decide ((d) ≤ (a))) rfl rfl (decide_eq_false h1) ?_
    refine o_skip (b := decide ((d) ≤ (a))) rfl rfl (decide_eq_false h1) ?_
    refine o_pickF (b := decide ((d) ≤ (a))) (AV.lit (.bool false)) Gd.none rfl (decide_eq_false h1) rfl ?_
    refine aops_end ?_
    refine hK4 _ ?_
    refine awp_condB (b := false) rfl (fun hh => absurd (hh.symm.trans rfl) (by decide)) (fun _ => ?_)
    refine awp_exit ?_
    refine hK1 _ ?_
    refine awp_seq fun K9 hK9 => ?_
    refine awp_region rfl ?_
    refine o_assign (AV.lit (.bool true)) Gd.none rfl ?_
    refine aops_end ?_
    refine hK9 _ ?_
    refine awp_ret ?_
    refine post_ret ⟨[(AV.lit (.bool true))], And.intro (AV.le_refl _) (trivial), rfl, ?_⟩
    exact (bl_bp (b := true) ⟨fun _ => (show primeN a b from fun e h1' ha' hb' => hf e h1' (by omega)), fun _ => rfl⟩).symm

theorem c_gRegular (m : MapM) (hM : OkM m) : ECalls cx 41 [(mapV m)] (bp (freeM m)) := by
  refine ecalls_of_awp Tryd.func41 (c := _) rfl (Nat.le_of_ble_eq_true rfl) ?_
  show awp cx 19 _ (postF cx Tryd.f41 _) ⟨[(0, (mapV m))], []⟩
  obtain ⟨o1, o2, o3, o4, o5⟩ := hM
  refine awp_seq fun K0 hK0 => ?_
  refine awp_region rfl ?_
  refine o_box 2 [(AV.lit (.int .i64 (m.mod))), (AV.sl 1 (is .i64 (m.mul))), (AV.sl 1 (is .i64 (m.add)))] Gd.none rfl rfl ?_
  refine o_assign (AV.lit (.bool false)) Gd.none rfl ?_
  refine aops_end ?_
  refine hK0 _ ?_
  refine awp_seq fun K1 hK1 => ?_
  refine awp_seq fun K2 hK2 => ?_
  refine awp_region rfl ?_
  refine o_assign (nm .i64 (0)) Gd.none rfl ?_
  refine aops_end ?_
  refine hK2 _ ?_
  refine awp_block ?_
  refine awp_loopR (fun κ σ => ∃ (i : Nat), ((i : Int) ≤ m.mod) ∧ (∀ k, k < i → Nat.gcd (m.mul.getD k 0).toNat m.mod.toNat ≤ 1) ∧ (m.mod.toNat - i) = κ ∧ σ = ⟨[(1, (AV.ref 2 (0))), (3, (nm .i64 (i)))], [(2, (AO.var 24 [(AV.lit (.int .i64 (m.mod))), (AV.sl 1 (is .i64 (m.mul))), (AV.sl 1 (is .i64 (m.add)))]))]⟩) ⟨_, _, ⟨0, (by omega), (fun k hk => by omega), rfl, rfl⟩, ?wk0⟩ ?rd0
  case wk0 =>
    exact Wk.sub (And.intro (by exact rfl) (And.intro (by first | rfl | exact congrArg (nm _) (by omega) | exact nm_int (by omega) | exact nm_int (by simp [IntKind.wrap, IntKind.bits, IntKind.signed]; omega)) (trivial))) (And.intro (by first | rfl | exact row_ns (by simp) | exact congrArg (fun x => some (AO.blk (.stringIter _ x))) (by omega)) (trivial))
  rintro κ _ ⟨i, hi, hf, rfl, rfl⟩
  refine awp_seq fun K3 hK3 => ?_
  refine awp_seq fun K4 hK4 => ?_
  refine awp_region rfl ?_
  refine o_move (nm .i64 (i)) Gd.none rfl ?_
  refine o_fieldRef 0 Gd.none Wz_tF24_0 rfl rfl ?_
  refine o_loadS (AV.lit (.int .i64 (m.mod))) Gd.none Wz_tS3 rfl rfl rfl ?_
  refine o_lss (a := (((i : Nat) : Int))) (c := (m.mod)) Gd.none rfl rfl ?_
  refine aops_end ?_
  refine hK4 _ ?_
  refine awp_condQ (q := (((i : Nat) : Int)) < (m.mod)) rfl (fun h1 => ?_) (fun h1 => ?_)
  · have hoi := o5 i (by omega)
    have hpg := prime_gcd (a := ((m.mul).getD (i) 0).toNat) (b := m.mod.toNat) (by omega) (by omega)
    refine awp_skip ?_
    refine hK3 _ ?_
    refine awp_seq fun K5 hK5 => ?_
    refine awp_block ?_
    refine awp_seq fun K6 hK6 => ?_
    refine awp_regionD rfl ?_
    refine o_fieldRef 1 Gd.none Wz_tF24_1 rfl rfl ?_
    refine o_loadS (AV.sl 1 (is .i64 (m.mul))) Gd.none Wz_tS22 rfl rfl rfl ?_
    refine o_move (nm .i64 (i)) Gd.none rfl ?_
    refine i_index (m.mul) (i) Gd.none Wz_tE22 rfl rfl (by omega) ?_
    refine i_loadI (m.mul) (i) Gd.none Wz_tS3 rfl (by omega) ?_
    refine n_as (v' := (nm .i64 (((m.mul).getD (i) 0).toNat))) (nm_int (by omega)) ?_
    refine o_fieldRef 0 Gd.none Wz_tF24_0 rfl rfl ?_
    refine o_loadS (AV.lit (.int .i64 (m.mod))) Gd.none Wz_tS3 rfl rfl rfl ?_
    refine n_as (v' := (nm .i64 (m.mod.toNat))) (nm_int (by omega)) ?_
    refine o_call [(nm .i64 (((m.mul).getD (i) 0).toNat)), (nm .i64 (m.mod.toNat))] (bp (primeN (((m.mul).getD (i) 0).toNat) (m.mod.toNat))) Gd.none Wz_tC84 rfl (c_gPrime (((m.mul).getD (i) 0).toNat) (m.mod.toNat) (by omega) (by omega)) ?_
    refine o_notP (q := primeN (((m.mul).getD (i) 0).toNat) (m.mod.toNat)) Gd.none rfl ?_
    refine aops_end ⟨by kernel_rfl, ?_⟩
    refine hK6 _ ?_
    refine awp_condQ (q := ¬ (primeN (((m.mul).getD (i) 0).toNat) (m.mod.toNat))) rfl (fun h2 => ?_) (fun h2 => ?_)
    · refine awp_seq fun K7 hK7 => ?_
      refine awp_region rfl ?_
      refine o_assign (AV.lit (.bool false)) Gd.none rfl ?_
      refine aops_end ?_
      refine hK7 _ ?_
      refine awp_ret ?_
      refine post_ret ⟨[(AV.lit (.bool false))], And.intro (AV.le_refl _) (trivial), rfl, ?_⟩
      exact (bl_bp (b := false) ⟨fun h => (by cases h), fun h => absurd h (fun hh => h2 (hpg.2 (hh i (by omega))))⟩).symm
    · refine awp_skip ?_
      refine hK5 _ ?_
      refine awp_region rfl ?_
      refine o_move (nm .i64 (i)) Gd.none rfl ?_
      refine n_add (i) (1) Gd.none rfl rfl (by simp only [topOf]; omega) ?_
      refine o_assign (nm .i64 ((i) + (1))) Gd.none rfl ?_
      refine aops_end ?_
      refine ⟨_, _, ?lt, ⟨i + 1, (by omega), (fun k hk => by rcases Nat.lt_or_ge k i with e | e; exact hf k e; rw [show k = i by omega]; exact hpg.1 (Decidable.not_not.1 h2)), rfl, rfl⟩, ?wk⟩
      case lt => omega
      case wk => exact Wk.sub (And.intro (by exact rfl) (And.intro (by first | rfl | exact congrArg (nm _) (by omega) | exact nm_int (by omega) | exact nm_int (by simp [IntKind.wrap, IntKind.bits, IntKind.signed]; omega)) (trivial))) (And.intro (by first | rfl | exact row_ns (by simp) | exact congrArg (fun x => some (AO.blk (.stringIter _ x))) (by omega)) (trivial))
  · refine awp_exit ?_
    refine hK1 _ ?_
    refine awp_seq fun K8 hK8 => ?_
    refine awp_region rfl ?_
    refine o_assign (AV.lit (.bool true)) Gd.none rfl ?_
    refine aops_end ?_
    refine hK8 _ ?_
    refine awp_ret ?_
    refine post_ret ⟨[(AV.lit (.bool true))], And.intro (AV.le_refl _) (trivial), rfl, ?_⟩
    exact (bl_bp (b := true) ⟨fun _ => (show freeM m from fun k hk => hf k (by omega)), fun _ => rfl⟩).symm

end Go.Proofs.YtkngglpnejdicaaDoor
