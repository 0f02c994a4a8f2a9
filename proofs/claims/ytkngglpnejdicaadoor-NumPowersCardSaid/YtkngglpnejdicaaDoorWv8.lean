import Derived.Test.YtkngglpnejdicaaDoorWu
import Derived.Test.YtkngglpnejdicaaDoorWx
set_option linter.unusedVariables false
set_option linter.unusedSimpArgs false
namespace Go.Proofs.YtkngglpnejdicaaDoor
open Go Go.Ab Go.Mth
theorem Wv8_tC50 : callable cx.P 50 = true := by kernel_rfl
theorem Wv8_tC66 : callable cx.P 66 = true := by kernel_rfl
theorem Wv8_tC29 : callable cx.P 29 = true := by kernel_rfl
theorem Wv8_tC49 : callable cx.P 49 = true := by kernel_rfl
theorem Wv8_tC24 : callable cx.P 24 = true := by kernel_rfl
theorem Wv8_tO36 : tyZero cx.P 36 = some [(Go.Value.bool false), (Go.Value.slice none 0 0)] := by kernel_rfl
theorem Wv8_tZ36 : tySize cx.P 36 = some 2 := by kernel_rfl
theorem Wv8_tA36 : tyAgg cx.P 36 = some 2 := by kernel_rfl
theorem Wv8_tC33 : callable cx.P 33 = true := by kernel_rfl
theorem Wv8_tC67 : callable cx.P 67 = true := by kernel_rfl
theorem Wv8_tC59 : callable cx.P 59 = true := by kernel_rfl
theorem c_NumPowers (a : ByteArray) (n d : Int) (hsz : a.size ≤ 9223372036854775807) : ECalls cx 16 [(AV.lit (.string (a))), (AV.lit (.int .i64 (n))), (AV.lit (.int .i64 (d)))] (.lit (.bool true)) := by
  refine ecalls_of_awp Tryd.func16 (c := _) rfl (Nat.le_of_ble_eq_true rfl) ?_
  show awp cx 109 _ (postF cx Tryd.f16 _) ⟨[(0, (AV.lit (.string (a)))), (1, (AV.lit (.int .i64 (n)))), (2, (AV.lit (.int .i64 (d))))], []⟩
  refine awp_seq fun K0 hK0 => ?_
  refine awp_region rfl ?_
  refine o_assign (AV.lit (.bool false)) Gd.none rfl ?_
  refine aops_end ?_
  refine hK0 _ ?_
  refine awp_seq fun K1 hK1 => ?_
  refine awp_region rfl ?_
  refine o_move (AV.lit (.string (a))) Gd.none rfl ?_
  refine o_move (AV.lit (.int .i64 (n))) Gd.none rfl ?_
  refine o_call [(AV.lit (.string (a))), (AV.lit (.int .i64 (n)))] (AV.tup [(AV.lit (.string (powS (a) (n)))), (nm .i64 (powE (a) (n)))]) Gd.none Wv8_tC50 rfl (c_nPower (a) (n) (by first | assumption | decide | omega)) ?_
  refine o_move (AV.tup [(AV.lit (.string (powS (a) (n)))), (nm .i64 (powE (a) (n)))]) Gd.none rfl ?_
  refine o_extract (AV.lit (.string (powS (a) (n)))) Gd.none rfl rfl ?_
  refine o_extract (nm .i64 (powE (a) (n))) Gd.none rfl rfl ?_
  refine o_assign (AV.lit (.string (powS (a) (n)))) Gd.none rfl ?_
  refine o_assign (nm .i64 (powE (a) (n))) Gd.none rfl ?_
  refine aops_end ?_
  refine hK1 _ ?_
  refine awp_seq fun K2 hK2 => ?_
  refine awp_region rfl ?_
  refine o_move (AV.lit (.string (a))) Gd.none rfl ?_
  refine o_move (AV.lit (.int .i64 (d))) Gd.none rfl ?_
  refine o_call [(AV.lit (.string (a))), (AV.lit (.int .i64 (d)))] (AV.tup [(AV.lit (.int .i64 (rstV (a) (d)))), (nm .i64 (rstE (a) (d)))]) Gd.none Wv8_tC66 rfl (c_nRest (a) (d) (by first | assumption | decide | omega)) ?_
  refine o_move (AV.tup [(AV.lit (.int .i64 (rstV (a) (d)))), (nm .i64 (rstE (a) (d)))]) Gd.none rfl ?_
  refine o_extract (AV.lit (.int .i64 (rstV (a) (d)))) Gd.none rfl rfl ?_
  refine o_extract (nm .i64 (rstE (a) (d))) Gd.none rfl rfl ?_
  refine o_assign (AV.lit (.int .i64 (rstV (a) (d)))) Gd.none rfl ?_
  refine o_assign (nm .i64 (rstE (a) (d))) Gd.none rfl ?_
  refine aops_end ?_
  refine hK2 _ ?_
  refine awp_seq fun K3 hK3 => ?_
  refine awp_seq fun K4 hK4 => ?_
  refine awp_region rfl ?_
  refine o_move (AV.lit (.string (a))) Gd.none rfl ?_
  refine o_call [(AV.lit (.string (a)))] (AV.lit (.bool (okS (a)))) Gd.none Wv8_tC29 rfl (c_rValid (a) (by first | assumption | decide | omega)) ?_
  refine o_not (b := okS (a)) Gd.none rfl ?_
  refine aops_end ?_
  refine hK4 _ ?_
  refine awp_condB (b := !(okS (a))) rfl (fun h1 => ?_) (fun h1 => ?_)
  · have ha' : ¬ okS a = true := by simpa using h1
    have pn := pow_no (n := n) ha'
    have rn := rst_no (d := d) ha'
    refine awp_seq fun K5 hK5 => ?_
    refine awp_region rfl ?_
    refine o_move (AV.lit (.string (powS (a) (n)))) Gd.none rfl ?_
    refine o_eqlS (a := (powS (a) (n))) (c := (({data := #[]} : ByteArray))) Gd.none rfl rfl ?_
    refine o_move (bp ((powS (a) (n)).toList = (({data := #[]} : ByteArray)).toList)) Gd.none rfl ?_
    refine o_splitP (q := (powS (a) (n)).toList = (({data := #[]} : ByteArray)).toList) 33 rfl (fun h2 => ?_) (fun h2 => ?_)
    · refine o_move (AV.lit (.int .i64 (rstV (a) (d)))) (Gd.yes rfl rfl (decide_eq_true h2)) rfl ?_
      refine o_eql (a := (rstV (a) (d))) (c := (((0 : Nat) : Int))) (Gd.yes rfl rfl (decide_eq_true h2)) rfl rfl ?_
      refine o_pickT (b := decide ((powS (a) (n)).toList = (({data := #[]} : ByteArray)).toList)) (bp ((rstV (a) (d)) = (((0 : Nat) : Int)))) Gd.none rfl (decide_eq_true h2) rfl ?_
      refine o_move (bp ((rstV (a) (d)) = (((0 : Nat) : Int)))) Gd.none rfl ?_
      refine o_splitP (q := (rstV (a) (d)) = (((0 : Nat) : Int))) 37 rfl (fun h3 => ?_) (fun h3 => ?_)
      · refine o_move (nm .i64 (powE (a) (n))) (Gd.yes rfl rfl (decide_eq_true h3)) rfl ?_
        refine n_eql (powE (a) (n)) (1) (Gd.yes rfl rfl (decide_eq_true h3)) rfl rfl ?_
        refine o_pickT (b := decide ((rstV (a) (d)) = (((0 : Nat) : Int)))) (bp ((powE (a) (n)) = (1))) Gd.none rfl (decide_eq_true h3) rfl ?_
        refine o_move (bp ((powE (a) (n)) = (1))) Gd.none rfl ?_
        refine o_splitP (q := (powE (a) (n)) = (1)) 41 rfl (fun h4 => ?_) (fun h4 => ?_)
        · refine o_move (nm .i64 (rstE (a) (d))) (Gd.yes rfl rfl (decide_eq_true h4)) rfl ?_
          refine n_eql (rstE (a) (d)) (1) (Gd.yes rfl rfl (decide_eq_true h4)) rfl rfl ?_
          refine o_pickT (b := decide ((powE (a) (n)) = (1))) (bp ((rstE (a) (d)) = (1))) Gd.none rfl (decide_eq_true h4) rfl ?_
          refine o_move (bp ((rstE (a) (d)) = (1))) Gd.none rfl ?_
          refine o_splitP (q := (rstE (a) (d)) = (1)) 45 rfl (fun h5 => ?_) (fun h5 => ?_)
          · refine o_call [] (AV.lit (.bool true)) (Gd.yes rfl rfl (decide_eq_true h5)) Wv8_tC49 rfl c_l1Awake ?_
            refine o_pickT (b := decide ((rstE (a) (d)) = (1))) (AV.lit (.bool true)) Gd.none rfl (decide_eq_true h5) rfl ?_
            refine o_assign (AV.lit (.bool true)) Gd.none rfl ?_
            refine aops_end ?_
            refine hK5 _ ?_
            refine awp_ret ?_
            refine post_ret ⟨[(AV.lit (.bool true))], And.intro (AV.le_refl _) (trivial), rfl, ?_⟩
            first | rfl | simp [bp]
          · refine o_skip (b := decide ((rstE (a) (d)) = (1))) rfl rfl (decide_eq_false h5) ?_
            refine o_pickF (b := decide ((rstE (a) (d)) = (1))) (AV.lit (.bool false)) Gd.none rfl (decide_eq_false h5) rfl ?_
            refine o_assign (AV.lit (.bool false)) Gd.none rfl ?_
            refine aops_end ?_
            refine hK5 _ ?_
            refine awp_ret ?_
            refine post_ret ⟨[(AV.lit (.bool false))], And.intro (AV.le_refl _) (trivial), rfl, ?_⟩
            exact absurd rn.2 h5
        · refine o_skip (b := decide ((powE (a) (n)) = (1))) rfl rfl (decide_eq_false h4) ?_
          refine o_skip (b := decide ((powE (a) (n)) = (1))) rfl rfl (decide_eq_false h4) ?_
          refine o_pickF (b := decide ((powE (a) (n)) = (1))) (AV.lit (.bool false)) Gd.none rfl (decide_eq_false h4) rfl ?_
          refine o_move (AV.lit (.bool false)) Gd.none rfl ?_
          refine o_skip (b := false) rfl rfl rfl ?_
          refine o_pickF (b := false) (AV.lit (.bool false)) Gd.none rfl rfl rfl ?_
          refine o_assign (AV.lit (.bool false)) Gd.none rfl ?_
          refine aops_end ?_
          refine hK5 _ ?_
          refine awp_ret ?_
          refine post_ret ⟨[(AV.lit (.bool false))], And.intro (AV.le_refl _) (trivial), rfl, ?_⟩
          exact absurd pn.2 h4
      · refine o_skip (b := decide ((rstV (a) (d)) = (((0 : Nat) : Int)))) rfl rfl (decide_eq_false h3) ?_
        refine o_skip (b := decide ((rstV (a) (d)) = (((0 : Nat) : Int)))) rfl rfl (decide_eq_false h3) ?_
        refine o_pickF (b := decide ((rstV (a) (d)) = (((0 : Nat) : Int)))) (AV.lit (.bool false)) Gd.none rfl (decide_eq_false h3) rfl ?_
        refine o_move (AV.lit (.bool false)) Gd.none rfl ?_
        refine o_skip (b := false) rfl rfl rfl ?_
        refine o_skip (b := false) rfl rfl rfl ?_
        refine o_pickF (b := false) (AV.lit (.bool false)) Gd.none rfl rfl rfl ?_
        refine o_move (AV.lit (.bool false)) Gd.none rfl ?_
        refine o_skip (b := false) rfl rfl rfl ?_
        refine o_pickF (b := false) (AV.lit (.bool false)) Gd.none rfl rfl rfl ?_
        refine o_assign (AV.lit (.bool false)) Gd.none rfl ?_
        refine aops_end ?_
        refine hK5 _ ?_
        refine awp_ret ?_
        refine post_ret ⟨[(AV.lit (.bool false))], And.intro (AV.le_refl _) (trivial), rfl, ?_⟩
        exact absurd rn.1 h3
    · refine o_skip (b := decide ((powS (a) (n)).toList = (({data := #[]} : ByteArray)).toList)) rfl rfl (decide_eq_false h2) ?_
      refine o_skip (b := decide ((powS (a) (n)).toList = (({data := #[]} : ByteArray)).toList)) rfl rfl (decide_eq_false h2) ?_
      refine o_pickF (b := decide ((powS (a) (n)).toList = (({data := #[]} : ByteArray)).toList)) (AV.lit (.bool false)) Gd.none rfl (decide_eq_false h2) rfl ?_
      refine o_move (AV.lit (.bool false)) Gd.none rfl ?_
      refine o_skip (b := false) rfl rfl rfl ?_
      refine o_skip (b := false) rfl rfl rfl ?_
      refine o_pickF (b := false) (AV.lit (.bool false)) Gd.none rfl rfl rfl ?_
      refine o_move (AV.lit (.bool false)) Gd.none rfl ?_
      refine o_skip (b := false) rfl rfl rfl ?_
      refine o_skip (b := false) rfl rfl rfl ?_
      refine o_pickF (b := false) (AV.lit (.bool false)) Gd.none rfl rfl rfl ?_
      refine o_move (AV.lit (.bool false)) Gd.none rfl ?_
      refine o_skip (b := false) rfl rfl rfl ?_
      refine o_pickF (b := false) (AV.lit (.bool false)) Gd.none rfl rfl rfl ?_
      refine o_assign (AV.lit (.bool false)) Gd.none rfl ?_
      refine aops_end ?_
      refine hK5 _ ?_
      refine awp_ret ?_
      refine post_ret ⟨[(AV.lit (.bool false))], And.intro (AV.le_refl _) (trivial), rfl, ?_⟩
      exact absurd (str_eq.2 pn.1) h2
  · have ha' : okS a = true := by simpa using h1
    have hla := len_numS (okS_iff.1 ha')
    refine awp_skip ?_
    refine hK3 _ ?_
    refine awp_seq fun K6 hK6 => ?_
    refine awp_region rfl ?_
    refine o_move (AV.lit (.string (a))) Gd.none rfl ?_
    refine o_call [(AV.lit (.string (a)))] (intR ((numS (a)))) Gd.none Wv8_tC24 rfl (c_rParse (a) (by first | assumption | exact okS_iff.1 (by assumption))) ?_
    refine o_alloc 2 [(AV.lit (.bool false)), (AV.lit (.slice none 0 0))] Gd.none Wv8_tO36 rfl rfl rfl ?_
    refine o_store [(2, (AO.var 36 [(bp ((numS (a)) < 0)), (AV.sl 1 (ns .i64 (digs ((numS (a))).natAbs)))]))] Gd.none Wv8_tZ36 rfl rfl rfl rfl rfl rfl ?_
    refine aops_end ?_
    refine hK6 _ ?_
    refine awp_seq fun K7 hK7 => ?_
    refine awp_region rfl ?_
    refine o_assign (nm .i64 (0)) Gd.none rfl ?_
    refine o_assign (nm .i64 (2)) Gd.none rfl ?_
    refine aops_end ?_
    refine hK7 _ ?_
    refine awp_seqJ (J := fun σ => True ∧ σ = ⟨[(1, (AV.lit (.int .i64 (n)))), (7, (AV.lit (.string (powS (a) (n))))), (8, (nm .i64 (powE (a) (n)))), (9, (AV.lit (.int .i64 (rstV (a) (d))))), (10, (nm .i64 (rstE (a) (d)))), (11, (AV.ref 2 (0))), (12, (AV.lit (.int .i64 (rstV (a) (d))))), (13, (nm .i64 (rstE (a) (d))))], [(2, (AO.var 36 [(bp ((numS (a)) < 0)), (AV.sl 1 (ns .i64 (digs ((numS (a))).natAbs)))]))]⟩) ?ja0 ?jb0
    case ja0 =>
      refine awp_seq fun K8 hK8 => ?_
      refine awp_region rfl ?_
      refine o_move (AV.lit (.int .i64 (d))) Gd.none rfl ?_
      refine o_geq (a := (d)) (c := (((1 : Nat) : Int))) Gd.none rfl rfl ?_
      refine o_move (bp ((((1 : Nat) : Int)) ≤ (d))) Gd.none rfl ?_
      refine o_splitP (q := (((1 : Nat) : Int)) ≤ (d)) 52 rfl (fun h6 => ?_) (fun h6 => ?_)
      · refine o_move (AV.lit (.int .i64 (d))) (Gd.yes rfl rfl (decide_eq_true h6)) rfl ?_
        refine o_leq (a := (d)) (c := (((2147483647 : Nat) : Int))) (Gd.yes rfl rfl (decide_eq_true h6)) rfl rfl ?_
        refine o_pickT (b := decide ((((1 : Nat) : Int)) ≤ (d))) (bp ((d) ≤ (((2147483647 : Nat) : Int)))) Gd.none rfl (decide_eq_true h6) rfl ?_
        refine aops_end ?_
        refine hK8 _ ?_
        refine awp_condQ (q := (d) ≤ (((2147483647 : Nat) : Int))) rfl (fun h7 => ?_) (fun h7 => ?_)
        · have hdd : ((d.toNat : Nat) : Int) = d := Int.toNat_of_nonneg (by omega)
          have hr := rst_yes (d := d) ha' ⟨by omega, by omega⟩
          have hr2 : rstV a d = numS a % ((d.toNat : Nat) : Int) := by rw [hdd]; exact hr.1
          refine awp_seq fun K9 hK9 => ?_
          refine awp_region rfl ?_
          refine o_loadA [(bp ((numS (a)) < 0)), (AV.sl 1 (ns .i64 (digs ((numS (a))).natAbs)))] Gd.none Wv8_tA36 rfl rfl rfl rfl rfl ?_
          refine o_move (AV.lit (.int .i64 (d))) Gd.none rfl ?_
          refine n_as (v' := (nm .i64 (d.toNat))) (nm_int (by omega)) ?_
          refine o_call [(AV.agg [(bp ((numS (a)) < 0)), (AV.sl 1 (ns .i64 (digs ((numS (a))).natAbs)))]), (nm .i64 (d.toNat))] (AV.tup [(intR (((numS (a)) / ((d.toNat : Nat) : Int)))), (AV.lit (.int .i64 ((numS (a)) % ((d.toNat : Nat) : Int))))]) Gd.none Wv8_tC33 rfl (c_rQR ((numS (a))) (d.toNat) (by omega) (by omega) (by first | assumption | omega | (simp only [Int.natAbs_neg]; omega))) ?_
          refine o_move (AV.tup [(intR (((numS (a)) / ((d.toNat : Nat) : Int)))), (AV.lit (.int .i64 ((numS (a)) % ((d.toNat : Nat) : Int))))]) Gd.none rfl ?_
          refine o_extract (intR (((numS (a)) / ((d.toNat : Nat) : Int)))) Gd.none rfl rfl ?_
          refine o_extract (AV.lit (.int .i64 ((numS (a)) % ((d.toNat : Nat) : Int)))) Gd.none rfl rfl ?_
          refine o_assign (AV.lit (.int .i64 ((numS (a)) % ((d.toNat : Nat) : Int)))) Gd.none rfl ?_
          refine aops_end ?_
          refine hK9 _ ?_
          refine awp_region rfl ?_
          refine o_assign (nm .i64 (0)) Gd.none rfl ?_
          refine aops_end ?_
          exact ⟨_, ⟨trivial, rfl⟩, Wk.sub (And.intro (by exact rfl) (And.intro (by exact rfl) (And.intro (by exact rfl) (And.intro (by exact rfl) (And.intro (by exact rfl) (And.intro (by exact rfl) (And.intro (by first | rfl | exact int_eq (by omega) | exact int_nm (by omega)) (And.intro (by first | rfl | exact congrArg (nm _) (by omega) | exact nm_int (by omega) | exact nm_int (by simp [IntKind.wrap, IntKind.bits, IntKind.signed]; omega)) (trivial))))))))) (And.intro (by first | rfl | exact row_ns (by simp) | exact congrArg (fun x => some (AO.blk (.stringIter _ x))) (by omega)) (trivial))⟩
        · have hr := rst_arg (d := d) ha' (fun h => by have := h.2; omega)
          refine awp_skip ?_
          exact ⟨_, ⟨trivial, rfl⟩, Wk.sub (And.intro (by exact rfl) (And.intro (by exact rfl) (And.intro (by exact rfl) (And.intro (by exact rfl) (And.intro (by exact rfl) (And.intro (by exact rfl) (And.intro (by first | rfl | exact int_eq (by omega) | exact int_nm (by omega)) (And.intro (by first | rfl | exact congrArg (nm _) (by omega) | exact nm_int (by omega) | exact nm_int (by simp [IntKind.wrap, IntKind.bits, IntKind.signed]; omega)) (trivial))))))))) (And.intro (by first | rfl | exact row_ns (by simp) | exact congrArg (fun x => some (AO.blk (.stringIter _ x))) (by omega)) (trivial))⟩
      · have hr := rst_arg (d := d) ha' (fun h => by have := h.1; omega)
        refine o_skip (b := decide ((((1 : Nat) : Int)) ≤ (d))) rfl rfl (decide_eq_false h6) ?_
        refine o_skip (b := decide ((((1 : Nat) : Int)) ≤ (d))) rfl rfl (decide_eq_false h6) ?_
        refine o_pickF (b := decide ((((1 : Nat) : Int)) ≤ (d))) (AV.lit (.bool false)) Gd.none rfl (decide_eq_false h6) rfl ?_
        refine aops_end ?_
        refine hK8 _ ?_
        refine awp_condB (b := false) rfl (fun hh => absurd (hh.symm.trans rfl) (by decide)) (fun _ => ?_)
        refine awp_skip ?_
        exact ⟨_, ⟨trivial, rfl⟩, Wk.sub (And.intro (by exact rfl) (And.intro (by exact rfl) (And.intro (by exact rfl) (And.intro (by exact rfl) (And.intro (by exact rfl) (And.intro (by exact rfl) (And.intro (by first | rfl | exact int_eq (by omega) | exact int_nm (by omega)) (And.intro (by first | rfl | exact congrArg (nm _) (by omega) | exact nm_int (by omega) | exact nm_int (by simp [IntKind.wrap, IntKind.bits, IntKind.signed]; omega)) (trivial))))))))) (And.intro (by first | rfl | exact row_ns (by simp) | exact congrArg (fun x => some (AO.blk (.stringIter _ x))) (by omega)) (trivial))⟩
    rintro _ ⟨-, rfl⟩
    refine awp_seq fun K10 hK10 => ?_
    refine awp_seq fun K11 hK11 => ?_
    refine awp_region rfl ?_
    refine o_move (AV.lit (.int .i64 (rstV (a) (d)))) Gd.none rfl ?_
    refine o_move (AV.lit (.int .i64 (rstV (a) (d)))) Gd.none rfl ?_
    refine o_neq (a := (rstV (a) (d))) (c := (rstV (a) (d))) Gd.none rfl rfl ?_
    refine o_move (bp ((rstV (a) (d)) ≠ (rstV (a) (d)))) Gd.none rfl ?_
    refine o_move (nm .i64 (rstE (a) (d))) (Gd.yes rfl rfl (decide_eq_false (fun h => h rfl))) rfl ?_
    refine o_move (nm .i64 (rstE (a) (d))) (Gd.yes rfl rfl (decide_eq_false (fun h => h rfl))) rfl ?_
    refine n_neq (rstE (a) (d)) (rstE (a) (d)) (Gd.yes rfl rfl (decide_eq_false (fun h => h rfl))) rfl rfl ?_
    refine o_pickF (b := decide ((rstV (a) (d)) ≠ (rstV (a) (d)))) (bp ((rstE (a) (d)) ≠ (rstE (a) (d)))) Gd.none rfl (decide_eq_false (fun h => h rfl)) rfl ?_
    refine aops_end ?_
    refine hK11 _ ?_
    refine awp_condB (b := decide ((rstE (a) (d)) ≠ (rstE (a) (d)))) rfl (fun hh => absurd (hh.symm.trans (decide_eq_false (fun h => h rfl))) (by decide)) (fun _ => ?_)
    refine awp_skip ?_
    refine hK10 _ ?_
    refine awp_seq fun K12 hK12 => ?_
    refine awp_seq fun K13 hK13 => ?_
    refine awp_region rfl ?_
    refine o_move (AV.lit (.int .i64 (n))) Gd.none rfl ?_
    refine o_lss (a := (n)) (c := (((0 : Nat) : Int))) Gd.none rfl rfl ?_
    refine o_move (bp ((n) < (((0 : Nat) : Int)))) Gd.none rfl ?_
    refine o_splitP (q := (n) < (((0 : Nat) : Int))) 72 rfl (fun h8 => ?_) (fun h8 => ?_)
    · have pa := pow_arg (n := n) ha' (fun h => by have := h.1; omega)
      refine o_skip (b := decide ((n) < (((0 : Nat) : Int)))) rfl rfl (decide_eq_true h8) ?_
      refine o_skip (b := decide ((n) < (((0 : Nat) : Int)))) rfl rfl (decide_eq_true h8) ?_
      refine o_pickT (b := decide ((n) < (((0 : Nat) : Int)))) (AV.lit (.bool true)) Gd.none rfl (decide_eq_true h8) rfl ?_
      refine aops_end ?_
      refine hK13 _ ?_
      refine awp_condB (b := true) rfl (fun _ => ?_) (fun hh => absurd (hh.symm.trans rfl) (by decide))
      refine awp_seq fun K14 hK14 => ?_
      refine awp_region rfl ?_
      refine o_move (AV.lit (.string (powS (a) (n)))) Gd.none rfl ?_
      refine o_eqlS (a := (powS (a) (n))) (c := (({data := #[]} : ByteArray))) Gd.none rfl rfl ?_
      refine o_move (bp ((powS (a) (n)).toList = (({data := #[]} : ByteArray)).toList)) Gd.none rfl ?_
      refine o_splitP (q := (powS (a) (n)).toList = (({data := #[]} : ByteArray)).toList) 78 rfl (fun h9 => ?_) (fun h9 => ?_)
      · refine o_move (nm .i64 (powE (a) (n))) (Gd.yes rfl rfl (decide_eq_true h9)) rfl ?_
        refine n_eql (powE (a) (n)) (2) (Gd.yes rfl rfl (decide_eq_true h9)) rfl rfl ?_
        refine o_pickT (b := decide ((powS (a) (n)).toList = (({data := #[]} : ByteArray)).toList)) (bp ((powE (a) (n)) = (2))) Gd.none rfl (decide_eq_true h9) rfl ?_
        refine o_move (bp ((powE (a) (n)) = (2))) Gd.none rfl ?_
        refine o_splitP (q := (powE (a) (n)) = (2)) 82 rfl (fun h10 => ?_) (fun h10 => ?_)
        · refine o_call [] (AV.lit (.bool true)) (Gd.yes rfl rfl (decide_eq_true h10)) Wv8_tC49 rfl c_l1Awake ?_
          refine o_pickT (b := decide ((powE (a) (n)) = (2))) (AV.lit (.bool true)) Gd.none rfl (decide_eq_true h10) rfl ?_
          refine o_assign (AV.lit (.bool true)) Gd.none rfl ?_
          refine aops_end ?_
          refine hK14 _ ?_
          refine awp_ret ?_
          refine post_ret ⟨[(AV.lit (.bool true))], And.intro (AV.le_refl _) (trivial), rfl, ?_⟩
          first | rfl | simp [bp]
        · refine o_skip (b := decide ((powE (a) (n)) = (2))) rfl rfl (decide_eq_false h10) ?_
          refine o_pickF (b := decide ((powE (a) (n)) = (2))) (AV.lit (.bool false)) Gd.none rfl (decide_eq_false h10) rfl ?_
          refine o_assign (AV.lit (.bool false)) Gd.none rfl ?_
          refine aops_end ?_
          refine hK14 _ ?_
          refine awp_ret ?_
          refine post_ret ⟨[(AV.lit (.bool false))], And.intro (AV.le_refl _) (trivial), rfl, ?_⟩
          exact absurd pa.2 h10
      · refine o_skip (b := decide ((powS (a) (n)).toList = (({data := #[]} : ByteArray)).toList)) rfl rfl (decide_eq_false h9) ?_
        refine o_skip (b := decide ((powS (a) (n)).toList = (({data := #[]} : ByteArray)).toList)) rfl rfl (decide_eq_false h9) ?_
        refine o_pickF (b := decide ((powS (a) (n)).toList = (({data := #[]} : ByteArray)).toList)) (AV.lit (.bool false)) Gd.none rfl (decide_eq_false h9) rfl ?_
        refine o_move (AV.lit (.bool false)) Gd.none rfl ?_
        refine o_skip (b := false) rfl rfl rfl ?_
        refine o_pickF (b := false) (AV.lit (.bool false)) Gd.none rfl rfl rfl ?_
        refine o_assign (AV.lit (.bool false)) Gd.none rfl ?_
        refine aops_end ?_
        refine hK14 _ ?_
        refine awp_ret ?_
        refine post_ret ⟨[(AV.lit (.bool false))], And.intro (AV.le_refl _) (trivial), rfl, ?_⟩
        exact absurd (str_eq.2 pa.1) h9
    · refine o_move (AV.lit (.int .i64 (n))) (Gd.yes rfl rfl (decide_eq_false h8)) rfl ?_
      refine o_gtr (a := (n)) (c := (((10000 : Nat) : Int))) (Gd.yes rfl rfl (decide_eq_false h8)) rfl rfl ?_
      refine o_pickF (b := decide ((n) < (((0 : Nat) : Int)))) (bp ((((10000 : Nat) : Int)) < (n))) Gd.none rfl (decide_eq_false h8) rfl ?_
      refine aops_end ?_
      refine hK13 _ ?_
      refine awp_condQ (q := (((10000 : Nat) : Int)) < (n)) rfl (fun h11 => ?_) (fun h11 => ?_)
      · have pa := pow_arg (n := n) ha' (fun h => by have := h.2; omega)
        refine awp_seq fun K15 hK15 => ?_
        refine awp_region rfl ?_
        refine o_move (AV.lit (.string (powS (a) (n)))) Gd.none rfl ?_
        refine o_eqlS (a := (powS (a) (n))) (c := (({data := #[]} : ByteArray))) Gd.none rfl rfl ?_
        refine o_move (bp ((powS (a) (n)).toList = (({data := #[]} : ByteArray)).toList)) Gd.none rfl ?_
        refine o_splitP (q := (powS (a) (n)).toList = (({data := #[]} : ByteArray)).toList) 78 rfl (fun h12 => ?_) (fun h12 => ?_)
        · refine o_move (nm .i64 (powE (a) (n))) (Gd.yes rfl rfl (decide_eq_true h12)) rfl ?_
          refine n_eql (powE (a) (n)) (2) (Gd.yes rfl rfl (decide_eq_true h12)) rfl rfl ?_
          refine o_pickT (b := decide ((powS (a) (n)).toList = (({data := #[]} : ByteArray)).toList)) (bp ((powE (a) (n)) = (2))) Gd.none rfl (decide_eq_true h12) rfl ?_
          refine o_move (bp ((powE (a) (n)) = (2))) Gd.none rfl ?_
          refine o_splitP (q := (powE (a) (n)) = (2)) 82 rfl (fun h13 => ?_) (fun h13 => ?_)
          · refine o_call [] (AV.lit (.bool true)) (Gd.yes rfl rfl (decide_eq_true h13)) Wv8_tC49 rfl c_l1Awake ?_
            refine o_pickT (b := decide ((powE (a) (n)) = (2))) (AV.lit (.bool true)) Gd.none rfl (decide_eq_true h13) rfl ?_
            refine o_assign (AV.lit (.bool true)) Gd.none rfl ?_
            refine aops_end ?_
            refine hK15 _ ?_
            refine awp_ret ?_
            refine post_ret ⟨[(AV.lit (.bool true))], And.intro (AV.le_refl _) (trivial), rfl, ?_⟩
            first | rfl | simp [bp]
          · refine o_skip (b := decide ((powE (a) (n)) = (2))) rfl rfl (decide_eq_false h13) ?_
            refine o_pickF (b := decide ((powE (a) (n)) = (2))) (AV.lit (.bool false)) Gd.none rfl (decide_eq_false h13) rfl ?_
            refine o_assign (AV.lit (.bool false)) Gd.none rfl ?_
            refine aops_end ?_
            refine hK15 _ ?_
            refine awp_ret ?_
            refine post_ret ⟨[(AV.lit (.bool false))], And.intro (AV.le_refl _) (trivial), rfl, ?_⟩
            exact absurd pa.2 h13
        · refine o_skip (b := decide ((powS (a) (n)).toList = (({data := #[]} : ByteArray)).toList)) rfl rfl (decide_eq_false h12) ?_
          refine o_skip (b := decide ((powS (a) (n)).toList = (({data := #[]} : ByteArray)).toList)) rfl rfl (decide_eq_false h12) ?_
          refine o_pickF (b := decide ((powS (a) (n)).toList = (({data := #[]} : ByteArray)).toList)) (AV.lit (.bool false)) Gd.none rfl (decide_eq_false h12) rfl ?_
          refine o_move (AV.lit (.bool false)) Gd.none rfl ?_
          refine o_skip (b := false) rfl rfl rfl ?_
          refine o_pickF (b := false) (AV.lit (.bool false)) Gd.none rfl rfl rfl ?_
          refine o_assign (AV.lit (.bool false)) Gd.none rfl ?_
          refine aops_end ?_
          refine hK15 _ ?_
          refine awp_ret ?_
          refine post_ret ⟨[(AV.lit (.bool false))], And.intro (AV.le_refl _) (trivial), rfl, ?_⟩
          exact absurd (str_eq.2 pa.1) h12
      · have py := pow_yes (n := n) ha' ⟨by omega, by omega⟩
        refine awp_skip ?_
        refine hK12 _ ?_
        refine awp_seq fun K16 hK16 => ?_
        refine awp_region rfl ?_
        refine o_loadA [(bp ((numS (a)) < 0)), (AV.sl 1 (ns .i64 (digs ((numS (a))).natAbs)))] Gd.none Wv8_tA36 rfl rfl rfl rfl rfl ?_
        refine o_move (AV.lit (.int .i64 (n))) Gd.none rfl ?_
        refine n_as (v' := (nm .i64 (n.toNat))) (nm_int (by omega)) ?_
        refine o_call [(AV.agg [(bp ((numS (a)) < 0)), (AV.sl 1 (ns .i64 (digs ((numS (a))).natAbs)))]), (nm .i64 (n.toNat))] (AV.tup [(intR ((if Fit ((numS (a)) ^ (n.toNat)) then (numS (a)) ^ (n.toNat) else 0))), (bp (Fit ((numS (a)) ^ (n.toNat))))]) Gd.none Wv8_tC67 rfl (c_rPower ((numS (a))) (n.toNat) (by omega) (by omega)) ?_
        refine o_move (AV.tup [(intR ((if Fit ((numS (a)) ^ (n.toNat)) then (numS (a)) ^ (n.toNat) else 0))), (bp (Fit ((numS (a)) ^ (n.toNat))))]) Gd.none rfl ?_
        refine o_extract (intR ((if Fit ((numS (a)) ^ (n.toNat)) then (numS (a)) ^ (n.toNat) else 0))) Gd.none rfl rfl ?_
        refine o_extract (bp (Fit ((numS (a)) ^ (n.toNat)))) Gd.none rfl rfl ?_
        refine o_alloc 101 [(AV.lit (.bool false)), (AV.lit (.slice none 0 0))] Gd.none Wv8_tO36 rfl rfl rfl ?_
        refine o_store [(101, (AO.var 36 [(bp ((if Fit ((numS (a)) ^ (n.toNat)) then (numS (a)) ^ (n.toNat) else 0) < 0)), (AV.sl 1 (ns .i64 (digs ((if Fit ((numS (a)) ^ (n.toNat)) then (numS (a)) ^ (n.toNat) else 0)).natAbs)))])), (2, (AO.var 36 [(bp ((numS (a)) < 0)), (AV.sl 1 (ns .i64 (digs ((numS (a))).natAbs)))]))] Gd.none Wv8_tZ36 rfl rfl rfl rfl rfl rfl ?_
        refine o_assign (bp (Fit ((numS (a)) ^ (n.toNat)))) Gd.none rfl ?_
        refine aops_end ?_
        refine hK16 _ ?_
        refine awp_seq fun K17 hK17 => ?_
        refine awp_seq fun K18 hK18 => ?_
        refine awp_region rfl ?_
        refine o_move (bp (Fit ((numS (a)) ^ (n.toNat)))) Gd.none rfl ?_
        refine o_notP (q := Fit ((numS (a)) ^ (n.toNat))) Gd.none rfl ?_
        refine aops_end ?_
        refine hK18 _ ?_
        refine awp_condQ (q := ¬ (Fit ((numS (a)) ^ (n.toNat)))) rfl (fun h14 => ?_) (fun h14 => ?_)
        · refine awp_seq fun K19 hK19 => ?_
          refine awp_region rfl ?_
          refine o_move (AV.lit (.string (powS (a) (n)))) Gd.none rfl ?_
          refine o_eqlS (a := (powS (a) (n))) (c := (({data := #[]} : ByteArray))) Gd.none rfl rfl ?_
          refine o_move (bp ((powS (a) (n)).toList = (({data := #[]} : ByteArray)).toList)) Gd.none rfl ?_
          refine o_splitP (q := (powS (a) (n)).toList = (({data := #[]} : ByteArray)).toList) 95 rfl (fun h15 => ?_) (fun h15 => ?_)
          · refine o_move (nm .i64 (powE (a) (n))) (Gd.yes rfl rfl (decide_eq_true h15)) rfl ?_
            refine n_eql (powE (a) (n)) (3) (Gd.yes rfl rfl (decide_eq_true h15)) rfl rfl ?_
            refine o_pickT (b := decide ((powS (a) (n)).toList = (({data := #[]} : ByteArray)).toList)) (bp ((powE (a) (n)) = (3))) Gd.none rfl (decide_eq_true h15) rfl ?_
            refine o_move (bp ((powE (a) (n)) = (3))) Gd.none rfl ?_
            refine o_splitP (q := (powE (a) (n)) = (3)) 99 rfl (fun h16 => ?_) (fun h16 => ?_)
            · refine o_call [] (AV.lit (.bool true)) (Gd.yes rfl rfl (decide_eq_true h16)) Wv8_tC49 rfl c_l1Awake ?_
              refine o_pickT (b := decide ((powE (a) (n)) = (3))) (AV.lit (.bool true)) Gd.none rfl (decide_eq_true h16) rfl ?_
              refine o_assign (AV.lit (.bool true)) Gd.none rfl ?_
              refine aops_end ?_
              refine hK19 _ ?_
              refine awp_ret ?_
              refine post_ret ⟨[(AV.lit (.bool true))], And.intro (AV.le_refl _) (trivial), rfl, ?_⟩
              first | rfl | simp [bp]
            · refine o_skip (b := decide ((powE (a) (n)) = (3))) rfl rfl (decide_eq_false h16) ?_
              refine o_pickF (b := decide ((powE (a) (n)) = (3))) (AV.lit (.bool false)) Gd.none rfl (decide_eq_false h16) rfl ?_
              refine o_assign (AV.lit (.bool false)) Gd.none rfl ?_
              refine aops_end ?_
              refine hK19 _ ?_
              refine awp_ret ?_
              refine post_ret ⟨[(AV.lit (.bool false))], And.intro (AV.le_refl _) (trivial), rfl, ?_⟩
              exact absurd (py.2.trans (told_big h14).2) h16
          · refine o_skip (b := decide ((powS (a) (n)).toList = (({data := #[]} : ByteArray)).toList)) rfl rfl (decide_eq_false h15) ?_
            refine o_skip (b := decide ((powS (a) (n)).toList = (({data := #[]} : ByteArray)).toList)) rfl rfl (decide_eq_false h15) ?_
            refine o_pickF (b := decide ((powS (a) (n)).toList = (({data := #[]} : ByteArray)).toList)) (AV.lit (.bool false)) Gd.none rfl (decide_eq_false h15) rfl ?_
            refine o_move (AV.lit (.bool false)) Gd.none rfl ?_
            refine o_skip (b := false) rfl rfl rfl ?_
            refine o_pickF (b := false) (AV.lit (.bool false)) Gd.none rfl rfl rfl ?_
            refine o_assign (AV.lit (.bool false)) Gd.none rfl ?_
            refine aops_end ?_
            refine hK19 _ ?_
            refine awp_ret ?_
            refine post_ret ⟨[(AV.lit (.bool false))], And.intro (AV.le_refl _) (trivial), rfl, ?_⟩
            exact absurd (str_eq.2 (py.1.trans (told_big h14).1)) h15
        · have hF := Decidable.not_not.1 h14
          have hpl : (digs ((if Fit ((numS (a)) ^ (n.toNat)) then (numS (a)) ^ (n.toNat) else 0)).natAbs).length ≤ 1000000000 := by rw [if_pos hF]; have := fit_len hF; omega
          refine awp_skip ?_
          refine hK17 _ ?_
          refine awp_seq fun K20 hK20 => ?_
          refine awp_region rfl ?_
          refine o_move (AV.lit (.string (powS (a) (n)))) Gd.none rfl ?_
          refine o_move (nm .i64 (powE (a) (n))) Gd.none rfl ?_
          refine o_loadA [(bp ((if Fit ((numS (a)) ^ (n.toNat)) then (numS (a)) ^ (n.toNat) else 0) < 0)), (AV.sl 1 (ns .i64 (digs ((if Fit ((numS (a)) ^ (n.toNat)) then (numS (a)) ^ (n.toNat) else 0)).natAbs)))] Gd.none Wv8_tA36 rfl rfl rfl rfl rfl ?_
          refine o_call [(AV.lit (.string (powS (a) (n)))), (nm .i64 (powE (a) (n))), (AV.agg [(bp ((if Fit ((numS (a)) ^ (n.toNat)) then (numS (a)) ^ (n.toNat) else 0) < 0)), (AV.sl 1 (ns .i64 (digs ((if Fit ((numS (a)) ^ (n.toNat)) then (numS (a)) ^ (n.toNat) else 0)).natAbs)))])] (bp (powS (a) (n) = toldS (if Fit ((numS (a)) ^ (n.toNat)) then (numS (a)) ^ (n.toNat) else 0) ∧ powE (a) (n) = toldE (if Fit ((numS (a)) ^ (n.toNat)) then (numS (a)) ^ (n.toNat) else 0))) Gd.none Wv8_tC59 rfl (c_l1Told (powS (a) (n)) (powE (a) (n)) ((if Fit ((numS (a)) ^ (n.toNat)) then (numS (a)) ^ (n.toNat) else 0)) (by first | assumption | omega | (simp only [Int.natAbs_neg]; omega))) ?_
          refine o_move (bp (powS (a) (n) = toldS (if Fit ((numS (a)) ^ (n.toNat)) then (numS (a)) ^ (n.toNat) else 0) ∧ powE (a) (n) = toldE (if Fit ((numS (a)) ^ (n.toNat)) then (numS (a)) ^ (n.toNat) else 0))) Gd.none rfl ?_
          refine o_splitP (q := powS (a) (n) = toldS (if Fit ((numS (a)) ^ (n.toNat)) then (numS (a)) ^ (n.toNat) else 0) ∧ powE (a) (n) = toldE (if Fit ((numS (a)) ^ (n.toNat)) then (numS (a)) ^ (n.toNat) else 0)) 106 rfl (fun h17 => ?_) (fun h17 => ?_)
          · refine o_call [] (AV.lit (.bool true)) (Gd.yes rfl rfl (decide_eq_true h17)) Wv8_tC49 rfl c_l1Awake ?_
            refine o_pickT (b := decide (powS (a) (n) = toldS (if Fit ((numS (a)) ^ (n.toNat)) then (numS (a)) ^ (n.toNat) else 0) ∧ powE (a) (n) = toldE (if Fit ((numS (a)) ^ (n.toNat)) then (numS (a)) ^ (n.toNat) else 0))) (AV.lit (.bool true)) Gd.none rfl (decide_eq_true h17) rfl ?_
            refine o_assign (AV.lit (.bool true)) Gd.none rfl ?_
            refine aops_end ?_
            refine hK20 _ ?_
            refine awp_ret ?_
            refine post_ret ⟨[(AV.lit (.bool true))], And.intro (AV.le_refl _) (trivial), rfl, ?_⟩
            first | rfl | simp [bp]
          · refine o_skip (b := decide (powS (a) (n) = toldS (if Fit ((numS (a)) ^ (n.toNat)) then (numS (a)) ^ (n.toNat) else 0) ∧ powE (a) (n) = toldE (if Fit ((numS (a)) ^ (n.toNat)) then (numS (a)) ^ (n.toNat) else 0))) rfl rfl (decide_eq_false h17) ?_
            refine o_pickF (b := decide (powS (a) (n) = toldS (if Fit ((numS (a)) ^ (n.toNat)) then (numS (a)) ^ (n.toNat) else 0) ∧ powE (a) (n) = toldE (if Fit ((numS (a)) ^ (n.toNat)) then (numS (a)) ^ (n.toNat) else 0))) (AV.lit (.bool false)) Gd.none rfl (decide_eq_false h17) rfl ?_
            refine o_assign (AV.lit (.bool false)) Gd.none rfl ?_
            refine aops_end ?_
            refine hK20 _ ?_
            refine awp_ret ?_
            refine post_ret ⟨[(AV.lit (.bool false))], And.intro (AV.le_refl _) (trivial), rfl, ?_⟩
            exact absurd (by rw [if_pos hF]; exact ⟨py.1, py.2⟩) h17

end Go.Proofs.YtkngglpnejdicaaDoor
