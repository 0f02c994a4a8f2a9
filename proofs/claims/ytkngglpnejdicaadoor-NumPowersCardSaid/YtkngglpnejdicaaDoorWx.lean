import Derived.Test.YtkngglpnejdicaaDoorWd
import Derived.Test.YtkngglpnejdicaaDoorGs
set_option linter.unusedVariables false
set_option linter.unusedSimpArgs false
namespace Go.Proofs.YtkngglpnejdicaaDoor
open Go Go.Ab Go.Mth
theorem Wx_tO36 : tyZero cx.P 36 = some [(Go.Value.bool false), (Go.Value.slice none 0 0)] := by kernel_rfl
theorem Wx_tC31 : callable cx.P 31 = true := by kernel_rfl
theorem Wx_tZ36 : tySize cx.P 36 = some 2 := by kernel_rfl
theorem Wx_tA36 : tyAgg cx.P 36 = some 2 := by kernel_rfl
theorem Wx_tC61 : callable cx.P 61 = true := by kernel_rfl
theorem Wx_tF36_1 : tyField cx.P 36 1 = some (1, 22) := by kernel_rfl
theorem Wx_tS22 : tySc cx.P 22 = true := by kernel_rfl
theorem Wx_tE22 : tyElem cx.P 22 = some (3, 1, 8) := by kernel_rfl
theorem Wx_tO3 : tyZero cx.P 3 = some [(Go.Value.int IntKind.i64 0)] := by kernel_rfl
theorem Wx_tC79 : callable cx.P 79 = true := by kernel_rfl
theorem Wx_tC30 : callable cx.P 30 = true := by kernel_rfl
theorem Wx_tC25 : callable cx.P 25 = true := by kernel_rfl
theorem Wx_tP36 : tyPlaces cx.P 36 = some (fun i => (#[(0, 1), (1, 1)] : Array (Nat × Nat))[i]?) := by kernel_rfl
theorem Wx_tU22 : cx.P.underlying 22 = some (.slice 3) := by kernel_rfl
theorem Wx_tS3 : tySc cx.P 3 = true := by kernel_rfl
theorem Wx_tC74 : callable cx.P 74 = true := by kernel_rfl
theorem Wx_tC34 : callable cx.P 34 = true := by kernel_rfl
theorem Wx_tC97 : callable cx.P 97 = true := by kernel_rfl
theorem Wx_tC32 : callable cx.P 32 = true := by kernel_rfl
theorem Wx_tC35 : callable cx.P 35 = true := by kernel_rfl
theorem Wx_tF36_0 : tyField cx.P 36 0 = some (0, 4) := by kernel_rfl
theorem Wx_tS4 : tySc cx.P 4 = true := by kernel_rfl
theorem Wx_tC81 : callable cx.P 81 = true := by kernel_rfl
theorem Wx_tC62 : callable cx.P 62 = true := by kernel_rfl
theorem c_rPower (x : Int) (n : Nat) (hn : n ≤ 10000) (hx : (digs x.natAbs).length ≤ 300) : ECalls cx 67 [(intR (x)), (nm .i64 (n))] (.tup [intR (if Fit (x ^ n) then x ^ n else 0), bp (Fit (x ^ n))]) := by
  refine ecalls_of_awp Tryd.func67 (c := _) rfl (Nat.le_of_ble_eq_true rfl) ?_
  show awp cx 52 _ (postF cx Tryd.f67 _) ⟨[(0, (intR (x))), (1, (nm .i64 (n)))], []⟩
  have ho := len_one
  refine awp_seq fun K0 hK0 => ?_
  refine awp_region rfl ?_
  refine o_box 2 [(bp (x < 0)), (AV.sl 1 (ns .i64 (digs (x).natAbs)))] Gd.none rfl rfl ?_
  refine o_alloc 3 [(AV.lit (.bool false)), (AV.lit (.slice none 0 0))] Gd.none Wx_tO36 rfl rfl rfl ?_
  refine o_assign (AV.lit (.bool false)) Gd.none rfl ?_
  refine aops_end ?_
  refine hK0 _ ?_
  refine awp_seq fun K1 hK1 => ?_
  refine awp_region rfl ?_
  refine o_call [(nm .i64 (1))] (intR ((1 : Int))) Gd.none Wx_tC31 rfl (c_rOf ((1 : Int)) (by first | decide | omega) (by first | decide | omega)) ?_
  refine o_alloc 4 [(AV.lit (.bool false)), (AV.lit (.slice none 0 0))] Gd.none Wx_tO36 rfl rfl rfl ?_
  refine o_store [(4, (AO.var 36 [(bp ((1 : Int) < 0)), (AV.sl 1 (ns .i64 (digs ((1 : Int)).natAbs)))])), (3, (AO.var 36 [(AV.lit (.bool false)), (AV.lit (.slice none 0 0))])), (2, (AO.var 36 [(bp (x < 0)), (AV.sl 1 (ns .i64 (digs (x).natAbs)))]))] Gd.none Wx_tZ36 rfl rfl rfl rfl rfl rfl ?_
  refine aops_end ?_
  refine hK1 _ ?_
  refine awp_seq fun K2 hK2 => ?_
  refine awp_seq fun K3 hK3 => ?_
  refine awp_region rfl ?_
  refine o_loadA [(bp (x < 0)), (AV.sl 1 (ns .i64 (digs (x).natAbs)))] Gd.none Wx_tA36 rfl rfl rfl rfl rfl ?_
  refine o_call [(AV.agg [(bp (x < 0)), (AV.sl 1 (ns .i64 (digs (x).natAbs)))])] (AV.lit (.int .i64 (sgn (x)))) Gd.none Wx_tC61 rfl (c_rSign (x)) ?_
  refine o_eql (a := (sgn (x))) (c := (((0 : Nat) : Int))) Gd.none rfl rfl ?_
  refine o_move (bp ((sgn (x)) = (((0 : Nat) : Int)))) Gd.none rfl ?_
  refine o_splitP (q := (sgn (x)) = (((0 : Nat) : Int))) 12 rfl (fun h1 => ?_) (fun h1 => ?_)
  · refine o_move (nm .i64 (n)) (Gd.yes rfl rfl (decide_eq_true h1)) rfl ?_
    refine n_gtr (n) (0) (Gd.yes rfl rfl (decide_eq_true h1)) rfl rfl ?_
    refine o_pickT (b := decide ((sgn (x)) = (((0 : Nat) : Int)))) (bp ((0) < (n))) Gd.none rfl (decide_eq_true h1) rfl ?_
    refine o_move (bp ((0) < (n))) Gd.none rfl ?_
    refine o_splitP (q := (0) < (n)) 16 rfl (fun h2 => ?_) (fun h2 => ?_)
    · refine o_skip (b := decide ((0) < (n))) rfl rfl (decide_eq_true h2) ?_
      refine o_skip (b := decide ((0) < (n))) rfl rfl (decide_eq_true h2) ?_
      refine o_skip (b := decide ((0) < (n))) rfl rfl (decide_eq_true h2) ?_
      refine o_skip (b := decide ((0) < (n))) rfl rfl (decide_eq_true h2) ?_
      refine o_skip (b := decide ((0) < (n))) rfl rfl (decide_eq_true h2) ?_
      refine o_skip (b := decide ((0) < (n))) rfl rfl (decide_eq_true h2) ?_
      refine o_skipU rfl rfl ?_
      refine o_skipU rfl rfl ?_
      refine o_skipU rfl rfl ?_
      refine o_skip (b := decide ((0) < (n))) rfl rfl (decide_eq_true h2) ?_
      refine o_pickT (b := decide ((0) < (n))) (AV.lit (.bool true)) Gd.none rfl (decide_eq_true h2) rfl ?_
      refine aops_end ?_
      refine hK3 _ ?_
      refine awp_condB (b := true) rfl (fun _ => ?_) (fun hh => absurd (hh.symm.trans rfl) (by decide))
      refine awp_seq fun K4 hK4 => ?_
      refine awp_region rfl ?_
      refine o_loadA [(bp (x < 0)), (AV.sl 1 (ns .i64 (digs (x).natAbs)))] Gd.none Wx_tA36 rfl rfl rfl rfl rfl ?_
      refine o_store [(4, (AO.var 36 [(bp ((1 : Int) < 0)), (AV.sl 1 (ns .i64 (digs ((1 : Int)).natAbs)))])), (3, (AO.var 36 [(bp (x < 0)), (AV.sl 1 (ns .i64 (digs (x).natAbs)))])), (2, (AO.var 36 [(bp (x < 0)), (AV.sl 1 (ns .i64 (digs (x).natAbs)))]))] Gd.none Wx_tZ36 rfl rfl rfl rfl rfl rfl ?_
      refine o_assign (AV.lit (.bool true)) Gd.none rfl ?_
      refine aops_end ?_
      refine hK4 _ ?_
      refine awp_ret ?_
      refine post_ret ⟨[(AV.agg [(bp (x < 0)), (AV.sl 1 (ns .i64 (digs (x).natAbs)))]), (AV.lit (.bool true))], And.intro ⟨3, (AO.var 36 [(bp (x < 0)), (AV.sl 1 (ns .i64 (digs (x).natAbs)))]), rfl, rfl, rfl, Or.inl ⟨Wx_tA36, AV.le_refl _⟩⟩ (And.intro (AV.le_refl _) (trivial)), rfl, ?_⟩
      exact rp_zero h1 h2
    · refine o_fieldRef 1 (Gd.yes rfl rfl (decide_eq_false h2)) Wx_tF36_1 rfl rfl ?_
      refine o_loadS (AV.sl 1 (ns .i64 (digs (x).natAbs))) (Gd.yes rfl rfl (decide_eq_false h2)) Wx_tS22 rfl rfl rfl ?_
      refine o_buildSlice 5 (ns .i64 ([1])) [(0, [(nm .i64 (1))])] (Gd.yes rfl rfl (decide_eq_false h2)) Wx_tE22 rfl Wx_tO3 rfl rfl rfl rfl rfl rfl rfl ?_
      refine o_callG [(5, 1, (ns .i64 ([1])))] [(AV.sl 1 (ns .i64 (digs (x).natAbs))), (AV.sl 1 (ns .i64 ([1])))] _ (AV.lit (.int .i64 (cmpN ((x).natAbs) 1))) [(4, (AO.var 36 [(bp ((1 : Int) < 0)), (AV.sl 1 (ns .i64 (digs ((1 : Int)).natAbs)))])), (3, (AO.var 36 [(AV.lit (.bool false)), (AV.lit (.slice none 0 0))])), (2, (AO.var 36 [(bp (x < 0)), (AV.sl 1 (ns .i64 (digs (x).natAbs)))]))] (Gd.yes rfl rfl (decide_eq_false h2)) Wx_tC79 rfl (And.intro ⟨_, rfl⟩ (trivial)) rfl rfl (LeL.cons (AV.le_refl _) (LeL.cons (AV.le_refl _) (LeL.nil))) (by have h := c_rSize ((x).natAbs) 1; rw [digs_one] at h; exact h) rfl ?_
      refine o_eql (a := (cmpN ((x).natAbs) 1)) (c := (((0 : Nat) : Int))) (Gd.yes rfl rfl (decide_eq_false h2)) rfl rfl ?_
      refine o_move (bp ((cmpN ((x).natAbs) 1) = (((0 : Nat) : Int)))) (Gd.yes rfl rfl (decide_eq_false h2)) rfl ?_
      refine o_splitP (q := (cmpN ((x).natAbs) 1) = (((0 : Nat) : Int))) 22 rfl (fun h3 => ?_) (fun h3 => ?_)
      · refine o_move (nm .i64 (n)) (Gd.yes rfl rfl (decide_eq_true h3)) rfl ?_
        refine n_rem (n) (2) (Gd.yes rfl rfl (decide_eq_true h3)) rfl rfl (by omega) ?_
        refine n_eql ((n) % (2)) (1) (Gd.yes rfl rfl (decide_eq_true h3)) rfl rfl ?_
        refine o_pickT (b := decide ((cmpN ((x).natAbs) 1) = (((0 : Nat) : Int)))) (bp (((n) % (2)) = (1))) (Gd.yes rfl rfl (decide_eq_false h2)) rfl (decide_eq_true h3) rfl ?_
        refine o_pickF (b := decide ((0) < (n))) (bp (((n) % (2)) = (1))) Gd.none rfl (decide_eq_false h2) rfl ?_
        refine aops_end ?_
        refine hK3 _ ?_
        refine awp_condQ (q := ((n) % (2)) = (1)) rfl (fun h4 => ?_) (fun h4 => ?_)
        · refine awp_seq fun K5 hK5 => ?_
          refine awp_region rfl ?_
          refine o_loadA [(bp (x < 0)), (AV.sl 1 (ns .i64 (digs (x).natAbs)))] Gd.none Wx_tA36 rfl rfl rfl rfl rfl ?_
          refine o_store [(4, (AO.var 36 [(bp ((1 : Int) < 0)), (AV.sl 1 (ns .i64 (digs ((1 : Int)).natAbs)))])), (3, (AO.var 36 [(bp (x < 0)), (AV.sl 1 (ns .i64 (digs (x).natAbs)))])), (2, (AO.var 36 [(bp (x < 0)), (AV.sl 1 (ns .i64 (digs (x).natAbs)))]))] Gd.none Wx_tZ36 rfl rfl rfl rfl rfl rfl ?_
          refine o_assign (AV.lit (.bool true)) Gd.none rfl ?_
          refine aops_end ?_
          refine hK5 _ ?_
          refine awp_ret ?_
          refine post_ret ⟨[(AV.agg [(bp (x < 0)), (AV.sl 1 (ns .i64 (digs (x).natAbs)))]), (AV.lit (.bool true))], And.intro ⟨3, (AO.var 36 [(bp (x < 0)), (AV.sl 1 (ns .i64 (digs (x).natAbs)))]), rfl, rfl, rfl, Or.inl ⟨Wx_tA36, AV.le_refl _⟩⟩ (And.intro (AV.le_refl _) (trivial)), rfl, ?_⟩
          exact rp_odd h3 h4
        · refine awp_skip ?_
          refine hK2 _ ?_
          refine awp_seq fun K6 hK6 => ?_
          refine awp_seq fun K7 hK7 => ?_
          refine awp_region rfl ?_
          refine o_fieldRef 1 Gd.none Wx_tF36_1 rfl rfl ?_
          refine o_loadS (AV.sl 1 (ns .i64 (digs (x).natAbs))) Gd.none Wx_tS22 rfl rfl rfl ?_
          refine o_buildSlice 6 (ns .i64 ([1])) [(0, [(nm .i64 (1))])] Gd.none Wx_tE22 rfl Wx_tO3 rfl rfl rfl rfl rfl rfl rfl ?_
          refine o_callG [(6, 1, (ns .i64 ([1])))] [(AV.sl 1 (ns .i64 (digs (x).natAbs))), (AV.sl 1 (ns .i64 ([1])))] _ (AV.lit (.int .i64 (cmpN ((x).natAbs) 1))) [(4, (AO.var 36 [(bp ((1 : Int) < 0)), (AV.sl 1 (ns .i64 (digs ((1 : Int)).natAbs)))])), (3, (AO.var 36 [(AV.lit (.bool false)), (AV.lit (.slice none 0 0))])), (2, (AO.var 36 [(bp (x < 0)), (AV.sl 1 (ns .i64 (digs (x).natAbs)))]))] Gd.none Wx_tC79 rfl (And.intro ⟨_, rfl⟩ (trivial)) rfl rfl (LeL.cons (AV.le_refl _) (LeL.cons (AV.le_refl _) (LeL.nil))) (by have h := c_rSize ((x).natAbs) 1; rw [digs_one] at h; exact h) rfl ?_
          refine o_eql (a := (cmpN ((x).natAbs) 1)) (c := (((0 : Nat) : Int))) Gd.none rfl rfl ?_
          refine o_move (bp ((cmpN ((x).natAbs) 1) = (((0 : Nat) : Int)))) Gd.none rfl ?_
          refine o_skip (b := decide ((cmpN ((x).natAbs) 1) = (((0 : Nat) : Int)))) rfl rfl (decide_eq_true h3) ?_
          refine o_skip (b := decide ((cmpN ((x).natAbs) 1) = (((0 : Nat) : Int)))) rfl rfl (decide_eq_true h3) ?_
          refine o_pickT (b := decide ((cmpN ((x).natAbs) 1) = (((0 : Nat) : Int)))) (AV.lit (.bool true)) Gd.none rfl (decide_eq_true h3) rfl ?_
          refine aops_end ?_
          refine hK7 _ ?_
          refine awp_condB (b := true) rfl (fun _ => ?_) (fun hh => absurd (hh.symm.trans rfl) (by decide))
          refine awp_seq fun K8 hK8 => ?_
          refine awp_region rfl ?_
          refine o_loadA [(bp ((1 : Int) < 0)), (AV.sl 1 (ns .i64 (digs ((1 : Int)).natAbs)))] Gd.none Wx_tA36 rfl rfl rfl rfl rfl ?_
          refine o_store [(4, (AO.var 36 [(bp ((1 : Int) < 0)), (AV.sl 1 (ns .i64 (digs ((1 : Int)).natAbs)))])), (3, (AO.var 36 [(bp ((1 : Int) < 0)), (AV.sl 1 (ns .i64 (digs ((1 : Int)).natAbs)))])), (2, (AO.var 36 [(bp (x < 0)), (AV.sl 1 (ns .i64 (digs (x).natAbs)))]))] Gd.none Wx_tZ36 rfl rfl rfl rfl rfl rfl ?_
          refine o_assign (AV.lit (.bool true)) Gd.none rfl ?_
          refine aops_end ?_
          refine hK8 _ ?_
          refine awp_ret ?_
          refine post_ret ⟨[(AV.agg [(bp ((1 : Int) < 0)), (AV.sl 1 (ns .i64 (digs ((1 : Int)).natAbs)))]), (AV.lit (.bool true))], And.intro ⟨3, (AO.var 36 [(bp ((1 : Int) < 0)), (AV.sl 1 (ns .i64 (digs ((1 : Int)).natAbs)))]), rfl, rfl, rfl, Or.inl ⟨Wx_tA36, AV.le_refl _⟩⟩ (And.intro (AV.le_refl _) (trivial)), rfl, ?_⟩
          exact rp_even h3 h4
      · refine o_skip (b := decide ((cmpN ((x).natAbs) 1) = (((0 : Nat) : Int)))) rfl rfl (decide_eq_false h3) ?_
        refine o_skip (b := decide ((cmpN ((x).natAbs) 1) = (((0 : Nat) : Int)))) rfl rfl (decide_eq_false h3) ?_
        refine o_skip (b := decide ((cmpN ((x).natAbs) 1) = (((0 : Nat) : Int)))) rfl rfl (decide_eq_false h3) ?_
        refine o_pickF (b := decide ((cmpN ((x).natAbs) 1) = (((0 : Nat) : Int)))) (AV.lit (.bool false)) (Gd.yes rfl rfl (decide_eq_false h2)) rfl (decide_eq_false h3) rfl ?_
        refine o_pickF (b := decide ((0) < (n))) (AV.lit (.bool false)) Gd.none rfl (decide_eq_false h2) rfl ?_
        refine aops_end ?_
        refine hK3 _ ?_
        refine awp_condB (b := false) rfl (fun hh => absurd (hh.symm.trans rfl) (by decide)) (fun _ => ?_)
        refine awp_skip ?_
        refine hK2 _ ?_
        refine awp_seq fun K9 hK9 => ?_
        refine awp_seq fun K10 hK10 => ?_
        refine awp_region rfl ?_
        refine o_fieldRef 1 Gd.none Wx_tF36_1 rfl rfl ?_
        refine o_loadS (AV.sl 1 (ns .i64 (digs (x).natAbs))) Gd.none Wx_tS22 rfl rfl rfl ?_
        refine o_buildSlice 6 (ns .i64 ([1])) [(0, [(nm .i64 (1))])] Gd.none Wx_tE22 rfl Wx_tO3 rfl rfl rfl rfl rfl rfl rfl ?_
        refine o_callG [(6, 1, (ns .i64 ([1])))] [(AV.sl 1 (ns .i64 (digs (x).natAbs))), (AV.sl 1 (ns .i64 ([1])))] _ (AV.lit (.int .i64 (cmpN ((x).natAbs) 1))) [(4, (AO.var 36 [(bp ((1 : Int) < 0)), (AV.sl 1 (ns .i64 (digs ((1 : Int)).natAbs)))])), (3, (AO.var 36 [(AV.lit (.bool false)), (AV.lit (.slice none 0 0))])), (2, (AO.var 36 [(bp (x < 0)), (AV.sl 1 (ns .i64 (digs (x).natAbs)))]))] Gd.none Wx_tC79 rfl (And.intro ⟨_, rfl⟩ (trivial)) rfl rfl (LeL.cons (AV.le_refl _) (LeL.cons (AV.le_refl _) (LeL.nil))) (by have h := c_rSize ((x).natAbs) 1; rw [digs_one] at h; exact h) rfl ?_
        refine o_eql (a := (cmpN ((x).natAbs) 1)) (c := (((0 : Nat) : Int))) Gd.none rfl rfl ?_
        refine o_move (bp ((cmpN ((x).natAbs) 1) = (((0 : Nat) : Int)))) Gd.none rfl ?_
        refine o_move (nm .i64 (n)) (Gd.yes rfl rfl (decide_eq_false h3)) rfl ?_
        refine n_eql (n) (0) (Gd.yes rfl rfl (decide_eq_false h3)) rfl rfl ?_
        refine o_pickF (b := decide ((cmpN ((x).natAbs) 1) = (((0 : Nat) : Int)))) (bp ((n) = (0))) Gd.none rfl (decide_eq_false h3) rfl ?_
        refine aops_end ?_
        refine hK10 _ ?_
        refine awp_condQ (q := (n) = (0)) rfl (fun h5 => ?_) (fun h5 => ?_)
        · refine awp_seq fun K11 hK11 => ?_
          refine awp_region rfl ?_
          refine o_loadA [(bp ((1 : Int) < 0)), (AV.sl 1 (ns .i64 (digs ((1 : Int)).natAbs)))] Gd.none Wx_tA36 rfl rfl rfl rfl rfl ?_
          refine o_store [(4, (AO.var 36 [(bp ((1 : Int) < 0)), (AV.sl 1 (ns .i64 (digs ((1 : Int)).natAbs)))])), (3, (AO.var 36 [(bp ((1 : Int) < 0)), (AV.sl 1 (ns .i64 (digs ((1 : Int)).natAbs)))])), (2, (AO.var 36 [(bp (x < 0)), (AV.sl 1 (ns .i64 (digs (x).natAbs)))]))] Gd.none Wx_tZ36 rfl rfl rfl rfl rfl rfl ?_
          refine o_assign (AV.lit (.bool true)) Gd.none rfl ?_
          refine aops_end ?_
          refine hK11 _ ?_
          refine awp_ret ?_
          refine post_ret ⟨[(AV.agg [(bp ((1 : Int) < 0)), (AV.sl 1 (ns .i64 (digs ((1 : Int)).natAbs)))]), (AV.lit (.bool true))], And.intro ⟨3, (AO.var 36 [(bp ((1 : Int) < 0)), (AV.sl 1 (ns .i64 (digs ((1 : Int)).natAbs)))]), rfl, rfl, rfl, Or.inl ⟨Wx_tA36, AV.le_refl _⟩⟩ (And.intro (AV.le_refl _) (trivial)), rfl, ?_⟩
          subst h5
          exact rp_n0 x
        · refine awp_skip ?_
          refine hK9 _ ?_
          refine awp_seq fun K12 hK12 => ?_
          refine awp_seq fun K13 hK13 => ?_
          refine awp_region rfl ?_
          refine o_assign (nm .i64 (0)) Gd.none rfl ?_
          refine aops_end ?_
          refine hK13 _ ?_
          refine awp_block ?_
          refine awp_loopR (fun κ σ => ∃ (i : Nat), (i ≤ n) ∧ (Fit (x ^ i)) ∧ (n - i) = κ ∧ σ = ⟨[(1, (nm .i64 (n))), (2, (AV.ref 2 (0))), (4, (AV.ref 3 (0))), (6, (AV.ref 4 (0))), (7, (nm .i64 (i)))], [(2, (AO.var 36 [(bp (x < 0)), (AV.sl 1 (ns .i64 (digs (x).natAbs)))])), (3, (AO.var 36 [(AV.lit (.bool false)), (AV.lit (.slice none 0 0))])), (4, (AO.var 36 [(bp ((x ^ (i)) < 0)), (AV.sl 1 (ns .i64 (digs ((x ^ (i))).natAbs)))]))]⟩) ⟨_, _, ⟨0, (by omega), (by rw [Int.pow_zero]; exact fit_tiny (by decide)), rfl, rfl⟩, ?wk0⟩ ?rd0
          case wk0 =>
            exact Wk.sub (And.intro (by exact rfl) (And.intro (by exact rfl) (And.intro (by exact rfl) (And.intro (by exact rfl) (And.intro (by first | rfl | exact congrArg (nm _) (by omega) | exact nm_int (by omega) | exact nm_int (by simp [IntKind.wrap, IntKind.bits, IntKind.signed]; omega)) (trivial)))))) (And.intro (by first | rfl | exact row_ns (by simp) | exact congrArg (fun x => some (AO.blk (.stringIter _ x))) (by omega) | (exact pow0_objR x _)) (And.intro (by first | rfl | exact row_ns (by simp) | exact congrArg (fun x => some (AO.blk (.stringIter _ x))) (by omega) | (exact pow0_objR x _)) (And.intro (by first | rfl | exact row_ns (by simp) | exact congrArg (fun x => some (AO.blk (.stringIter _ x))) (by omega) | (exact pow0_objR x _)) (trivial))))
          rintro κ _ ⟨i, hi, hf, rfl, rfl⟩
          have hfl := fit_len hf
          have hil := len_mulZ (x ^ i) x
          rw [← Int.pow_succ] at hil
          have hil2 : (digs ((x ^ (i + 1))).natAbs).length ≤ 1000000000 := Nat.le_trans hil (by omega)
          refine awp_seq fun K14 hK14 => ?_
          refine awp_seq fun K15 hK15 => ?_
          refine awp_region rfl ?_
          refine o_move (nm .i64 (i)) Gd.none rfl ?_
          refine o_move (nm .i64 (n)) Gd.none rfl ?_
          refine n_lss (i) (n) Gd.none rfl rfl ?_
          refine aops_end ?_
          refine hK15 _ ?_
          refine awp_condQ (q := (i) < (n)) rfl (fun h6 => ?_) (fun h6 => ?_)
          · refine awp_skip ?_
            refine hK14 _ ?_
            refine awp_seq fun K16 hK16 => ?_
            refine awp_block ?_
            refine awp_seq fun K17 hK17 => ?_
            refine awp_region rfl ?_
            refine o_loadA [(bp ((x ^ (i)) < 0)), (AV.sl 1 (ns .i64 (digs ((x ^ (i))).natAbs)))] Gd.none Wx_tA36 rfl rfl rfl rfl rfl ?_
            refine o_loadA [(bp (x < 0)), (AV.sl 1 (ns .i64 (digs (x).natAbs)))] Gd.none Wx_tA36 rfl rfl rfl rfl rfl ?_
            refine o_call [(AV.agg [(bp ((x ^ (i)) < 0)), (AV.sl 1 (ns .i64 (digs ((x ^ (i))).natAbs)))]), (AV.agg [(bp (x < 0)), (AV.sl 1 (ns .i64 (digs (x).natAbs)))])] (intR (((x ^ (i)) * x))) Gd.none Wx_tC30 rfl (c_rMul ((x ^ (i))) (x) (by first | assumption | omega | (simp only [Int.natAbs_neg]; omega)) (by first | assumption | omega | (simp only [Int.natAbs_neg]; omega))) ?_
            refine n_as (v' := (intR ((x ^ (i + 1))))) (by exact congrArg intR (Int.pow_succ x i).symm) ?_
            refine o_store [(2, (AO.var 36 [(bp (x < 0)), (AV.sl 1 (ns .i64 (digs (x).natAbs)))])), (3, (AO.var 36 [(AV.lit (.bool false)), (AV.lit (.slice none 0 0))])), (4, (AO.var 36 [(bp ((x ^ (i + 1)) < 0)), (AV.sl 1 (ns .i64 (digs ((x ^ (i + 1))).natAbs)))]))] Gd.none Wx_tZ36 rfl rfl rfl rfl rfl rfl ?_
            refine aops_end ?_
            refine hK17 _ ?_
            refine awp_seq fun K18 hK18 => ?_
            refine awp_region rfl ?_
            refine o_loadA [(bp ((x ^ (i + 1)) < 0)), (AV.sl 1 (ns .i64 (digs ((x ^ (i + 1))).natAbs)))] Gd.none Wx_tA36 rfl rfl rfl rfl rfl ?_
            refine o_call [(AV.agg [(bp ((x ^ (i + 1)) < 0)), (AV.sl 1 (ns .i64 (digs ((x ^ (i + 1))).natAbs)))])] (bp (Fit ((x ^ (i + 1))))) Gd.none Wx_tC25 rfl (c_rFits ((x ^ (i + 1))) (by first | assumption | omega | (simp only [Int.natAbs_neg]; omega))) ?_
            refine o_notP (q := Fit ((x ^ (i + 1)))) Gd.none rfl ?_
            refine aops_end ?_
            refine hK18 _ ?_
            refine awp_condQ (q := ¬ (Fit ((x ^ (i + 1))))) rfl (fun h7 => ?_) (fun h7 => ?_)
            · refine awp_seq fun K19 hK19 => ?_
              refine awp_region rfl ?_
              refine o_build [(AV.lit (.bool false)), (AV.lit (.slice none 0 0))] [] Gd.none Wx_tP36 Wx_tO36 rfl rfl rfl ?_
              refine o_store [(2, (AO.var 36 [(bp (x < 0)), (AV.sl 1 (ns .i64 (digs (x).natAbs)))])), (3, (AO.var 36 [(AV.lit (.bool false)), (AV.lit (.slice none 0 0))])), (4, (AO.var 36 [(bp ((x ^ (i + 1)) < 0)), (AV.sl 1 (ns .i64 (digs ((x ^ (i + 1))).natAbs)))]))] Gd.none Wx_tZ36 rfl rfl rfl rfl rfl rfl ?_
              refine o_assign (AV.lit (.bool false)) Gd.none rfl ?_
              refine aops_end ?_
              refine hK19 _ ?_
              refine awp_ret ?_
              refine post_ret ⟨[(AV.agg [(AV.lit (.bool false)), (AV.sl 1 (ns .i64 (digs 0)))]), (AV.lit (.bool false))], And.intro ⟨3, (AO.var 36 [(AV.lit (.bool false)), (AV.lit (.slice none 0 0))]), rfl, rfl, rfl, Or.inl ⟨Wx_tA36, AV.le_agg (LeL.cons (AV.le_refl _) (LeL.cons (AV.le_nil' (by decide) (by first | rfl | simp [digs_zero, ns, is])) (LeL.nil)))⟩⟩ (And.intro (AV.le_refl _) (trivial)), rfl, ?_⟩
              exact rp_stop (i := i) h7 h6
            · refine awp_skip ?_
              refine hK16 _ ?_
              refine awp_region rfl ?_
              refine o_move (nm .i64 (i)) Gd.none rfl ?_
              refine n_add (i) (1) Gd.none rfl rfl (by simp only [topOf]; omega) ?_
              refine o_assign (nm .i64 ((i) + (1))) Gd.none rfl ?_
              refine aops_end ?_
              refine ⟨_, _, ?lt, ⟨i + 1, (by omega), (by first | assumption | exact Decidable.not_not.1 (by assumption)), rfl, rfl⟩, ?wk⟩
              case lt => omega
              case wk => exact Wk.sub (And.intro (by exact rfl) (And.intro (by exact rfl) (And.intro (by exact rfl) (And.intro (by exact rfl) (And.intro (by first | rfl | exact congrArg (nm _) (by omega) | exact nm_int (by omega) | exact nm_int (by simp [IntKind.wrap, IntKind.bits, IntKind.signed]; omega)) (trivial)))))) (And.intro (by first | rfl | exact row_ns (by simp) | exact congrArg (fun x => some (AO.blk (.stringIter _ x))) (by omega) | (exact pow0_objR x _)) (And.intro (by first | rfl | exact row_ns (by simp) | exact congrArg (fun x => some (AO.blk (.stringIter _ x))) (by omega) | (exact pow0_objR x _)) (And.intro (by first | rfl | exact row_ns (by simp) | exact congrArg (fun x => some (AO.blk (.stringIter _ x))) (by omega) | (exact pow0_objR x _)) (trivial))))
          · refine awp_exit ?_
            refine hK12 _ ?_
            refine awp_seq fun K20 hK20 => ?_
            refine awp_region rfl ?_
            refine o_loadA [(bp ((x ^ (i)) < 0)), (AV.sl 1 (ns .i64 (digs ((x ^ (i))).natAbs)))] Gd.none Wx_tA36 rfl rfl rfl rfl rfl ?_
            refine o_store [(2, (AO.var 36 [(bp (x < 0)), (AV.sl 1 (ns .i64 (digs (x).natAbs)))])), (3, (AO.var 36 [(bp ((x ^ (i)) < 0)), (AV.sl 1 (ns .i64 (digs ((x ^ (i))).natAbs)))])), (4, (AO.var 36 [(bp ((x ^ (i)) < 0)), (AV.sl 1 (ns .i64 (digs ((x ^ (i))).natAbs)))]))] Gd.none Wx_tZ36 rfl rfl rfl rfl rfl rfl ?_
            refine o_assign (AV.lit (.bool true)) Gd.none rfl ?_
            refine aops_end ?_
            refine hK20 _ ?_
            refine awp_ret ?_
            refine post_ret ⟨[(AV.agg [(bp ((x ^ (i)) < 0)), (AV.sl 1 (ns .i64 (digs ((x ^ (i))).natAbs)))]), (AV.lit (.bool true))], And.intro ⟨3, (AO.var 36 [(bp ((x ^ (i)) < 0)), (AV.sl 1 (ns .i64 (digs ((x ^ (i))).natAbs)))]), rfl, rfl, rfl, Or.inl ⟨Wx_tA36, AV.le_refl _⟩⟩ (And.intro (AV.le_refl _) (trivial)), rfl, ?_⟩
            exact rp_end (i := i) hf (by omega)
  · refine o_skip (b := decide ((sgn (x)) = (((0 : Nat) : Int)))) rfl rfl (decide_eq_false h1) ?_
    refine o_skip (b := decide ((sgn (x)) = (((0 : Nat) : Int)))) rfl rfl (decide_eq_false h1) ?_
    refine o_pickF (b := decide ((sgn (x)) = (((0 : Nat) : Int)))) (AV.lit (.bool false)) Gd.none rfl (decide_eq_false h1) rfl ?_
    refine o_move (AV.lit (.bool false)) Gd.none rfl ?_
    refine o_fieldRef 1 (Gd.yes rfl rfl rfl) Wx_tF36_1 rfl rfl ?_
    refine o_loadS (AV.sl 1 (ns .i64 (digs (x).natAbs))) (Gd.yes rfl rfl rfl) Wx_tS22 rfl rfl rfl ?_
    refine o_buildSlice 5 (ns .i64 ([1])) [(0, [(nm .i64 (1))])] (Gd.yes rfl rfl rfl) Wx_tE22 rfl Wx_tO3 rfl rfl rfl rfl rfl rfl rfl ?_
    refine o_callG [(5, 1, (ns .i64 ([1])))] [(AV.sl 1 (ns .i64 (digs (x).natAbs))), (AV.sl 1 (ns .i64 ([1])))] _ (AV.lit (.int .i64 (cmpN ((x).natAbs) 1))) [(4, (AO.var 36 [(bp ((1 : Int) < 0)), (AV.sl 1 (ns .i64 (digs ((1 : Int)).natAbs)))])), (3, (AO.var 36 [(AV.lit (.bool false)), (AV.lit (.slice none 0 0))])), (2, (AO.var 36 [(bp (x < 0)), (AV.sl 1 (ns .i64 (digs (x).natAbs)))]))] (Gd.yes rfl rfl rfl) Wx_tC79 rfl (And.intro ⟨_, rfl⟩ (trivial)) rfl rfl (LeL.cons (AV.le_refl _) (LeL.cons (AV.le_refl _) (LeL.nil))) (by have h := c_rSize ((x).natAbs) 1; rw [digs_one] at h; exact h) rfl ?_
    refine o_eql (a := (cmpN ((x).natAbs) 1)) (c := (((0 : Nat) : Int))) (Gd.yes rfl rfl rfl) rfl rfl ?_
    refine o_move (bp ((cmpN ((x).natAbs) 1) = (((0 : Nat) : Int)))) (Gd.yes rfl rfl rfl) rfl ?_
    refine o_splitP (q := (cmpN ((x).natAbs) 1) = (((0 : Nat) : Int))) 22 rfl (fun h8 => ?_) (fun h8 => ?_)
    · refine o_move (nm .i64 (n)) (Gd.yes rfl rfl (decide_eq_true h8)) rfl ?_
      refine n_rem (n) (2) (Gd.yes rfl rfl (decide_eq_true h8)) rfl rfl (by omega) ?_
      refine n_eql ((n) % (2)) (1) (Gd.yes rfl rfl (decide_eq_true h8)) rfl rfl ?_
      refine o_pickT (b := decide ((cmpN ((x).natAbs) 1) = (((0 : Nat) : Int)))) (bp (((n) % (2)) = (1))) (Gd.yes rfl rfl rfl) rfl (decide_eq_true h8) rfl ?_
      refine o_pickF (b := false) (bp (((n) % (2)) = (1))) Gd.none rfl rfl rfl ?_
      refine aops_end ?_
      refine hK3 _ ?_
      refine awp_condQ (q := ((n) % (2)) = (1)) rfl (fun h9 => ?_) (fun h9 => ?_)
      · refine awp_seq fun K21 hK21 => ?_
        refine awp_region rfl ?_
        refine o_loadA [(bp (x < 0)), (AV.sl 1 (ns .i64 (digs (x).natAbs)))] Gd.none Wx_tA36 rfl rfl rfl rfl rfl ?_
        refine o_store [(4, (AO.var 36 [(bp ((1 : Int) < 0)), (AV.sl 1 (ns .i64 (digs ((1 : Int)).natAbs)))])), (3, (AO.var 36 [(bp (x < 0)), (AV.sl 1 (ns .i64 (digs (x).natAbs)))])), (2, (AO.var 36 [(bp (x < 0)), (AV.sl 1 (ns .i64 (digs (x).natAbs)))]))] Gd.none Wx_tZ36 rfl rfl rfl rfl rfl rfl ?_
        refine o_assign (AV.lit (.bool true)) Gd.none rfl ?_
        refine aops_end ?_
        refine hK21 _ ?_
        refine awp_ret ?_
        refine post_ret ⟨[(AV.agg [(bp (x < 0)), (AV.sl 1 (ns .i64 (digs (x).natAbs)))]), (AV.lit (.bool true))], And.intro ⟨3, (AO.var 36 [(bp (x < 0)), (AV.sl 1 (ns .i64 (digs (x).natAbs)))]), rfl, rfl, rfl, Or.inl ⟨Wx_tA36, AV.le_refl _⟩⟩ (And.intro (AV.le_refl _) (trivial)), rfl, ?_⟩
        exact rp_odd h8 h9
      · refine awp_skip ?_
        refine hK2 _ ?_
        refine awp_seq fun K22 hK22 => ?_
        refine awp_seq fun K23 hK23 => ?_
        refine awp_region rfl ?_
        refine o_fieldRef 1 Gd.none Wx_tF36_1 rfl rfl ?_
        refine o_loadS (AV.sl 1 (ns .i64 (digs (x).natAbs))) Gd.none Wx_tS22 rfl rfl rfl ?_
        refine o_buildSlice 6 (ns .i64 ([1])) [(0, [(nm .i64 (1))])] Gd.none Wx_tE22 rfl Wx_tO3 rfl rfl rfl rfl rfl rfl rfl ?_
        refine o_callG [(6, 1, (ns .i64 ([1])))] [(AV.sl 1 (ns .i64 (digs (x).natAbs))), (AV.sl 1 (ns .i64 ([1])))] _ (AV.lit (.int .i64 (cmpN ((x).natAbs) 1))) [(4, (AO.var 36 [(bp ((1 : Int) < 0)), (AV.sl 1 (ns .i64 (digs ((1 : Int)).natAbs)))])), (3, (AO.var 36 [(AV.lit (.bool false)), (AV.lit (.slice none 0 0))])), (2, (AO.var 36 [(bp (x < 0)), (AV.sl 1 (ns .i64 (digs (x).natAbs)))]))] Gd.none Wx_tC79 rfl (And.intro ⟨_, rfl⟩ (trivial)) rfl rfl (LeL.cons (AV.le_refl _) (LeL.cons (AV.le_refl _) (LeL.nil))) (by have h := c_rSize ((x).natAbs) 1; rw [digs_one] at h; exact h) rfl ?_
        refine o_eql (a := (cmpN ((x).natAbs) 1)) (c := (((0 : Nat) : Int))) Gd.none rfl rfl ?_
        refine o_move (bp ((cmpN ((x).natAbs) 1) = (((0 : Nat) : Int)))) Gd.none rfl ?_
        refine o_skip (b := decide ((cmpN ((x).natAbs) 1) = (((0 : Nat) : Int)))) rfl rfl (decide_eq_true h8) ?_
        refine o_skip (b := decide ((cmpN ((x).natAbs) 1) = (((0 : Nat) : Int)))) rfl rfl (decide_eq_true h8) ?_
        refine o_pickT (b := decide ((cmpN ((x).natAbs) 1) = (((0 : Nat) : Int)))) (AV.lit (.bool true)) Gd.none rfl (decide_eq_true h8) rfl ?_
        refine aops_end ?_
        refine hK23 _ ?_
        refine awp_condB (b := true) rfl (fun _ => ?_) (fun hh => absurd (hh.symm.trans rfl) (by decide))
        refine awp_seq fun K24 hK24 => ?_
        refine awp_region rfl ?_
        refine o_loadA [(bp ((1 : Int) < 0)), (AV.sl 1 (ns .i64 (digs ((1 : Int)).natAbs)))] Gd.none Wx_tA36 rfl rfl rfl rfl rfl ?_
        refine o_store [(4, (AO.var 36 [(bp ((1 : Int) < 0)), (AV.sl 1 (ns .i64 (digs ((1 : Int)).natAbs)))])), (3, (AO.var 36 [(bp ((1 : Int) < 0)), (AV.sl 1 (ns .i64 (digs ((1 : Int)).natAbs)))])), (2, (AO.var 36 [(bp (x < 0)), (AV.sl 1 (ns .i64 (digs (x).natAbs)))]))] Gd.none Wx_tZ36 rfl rfl rfl rfl rfl rfl ?_
        refine o_assign (AV.lit (.bool true)) Gd.none rfl ?_
        refine aops_end ?_
        refine hK24 _ ?_
        refine awp_ret ?_
        refine post_ret ⟨[(AV.agg [(bp ((1 : Int) < 0)), (AV.sl 1 (ns .i64 (digs ((1 : Int)).natAbs)))]), (AV.lit (.bool true))], And.intro ⟨3, (AO.var 36 [(bp ((1 : Int) < 0)), (AV.sl 1 (ns .i64 (digs ((1 : Int)).natAbs)))]), rfl, rfl, rfl, Or.inl ⟨Wx_tA36, AV.le_refl _⟩⟩ (And.intro (AV.le_refl _) (trivial)), rfl, ?_⟩
        exact rp_even h8 h9
    · refine o_skip (b := decide ((cmpN ((x).natAbs) 1) = (((0 : Nat) : Int)))) rfl rfl (decide_eq_false h8) ?_
      refine o_skip (b := decide ((cmpN ((x).natAbs) 1) = (((0 : Nat) : Int)))) rfl rfl (decide_eq_false h8) ?_
      refine o_skip (b := decide ((cmpN ((x).natAbs) 1) = (((0 : Nat) : Int)))) rfl rfl (decide_eq_false h8) ?_
      refine o_pickF (b := decide ((cmpN ((x).natAbs) 1) = (((0 : Nat) : Int)))) (AV.lit (.bool false)) (Gd.yes rfl rfl rfl) rfl (decide_eq_false h8) rfl ?_
      refine o_pickF (b := false) (AV.lit (.bool false)) Gd.none rfl rfl rfl ?_
      refine aops_end ?_
      refine hK3 _ ?_
      refine awp_condB (b := false) rfl (fun hh => absurd (hh.symm.trans rfl) (by decide)) (fun _ => ?_)
      refine awp_skip ?_
      refine hK2 _ ?_
      refine awp_seq fun K25 hK25 => ?_
      refine awp_seq fun K26 hK26 => ?_
      refine awp_region rfl ?_
      refine o_fieldRef 1 Gd.none Wx_tF36_1 rfl rfl ?_
      refine o_loadS (AV.sl 1 (ns .i64 (digs (x).natAbs))) Gd.none Wx_tS22 rfl rfl rfl ?_
      refine o_buildSlice 6 (ns .i64 ([1])) [(0, [(nm .i64 (1))])] Gd.none Wx_tE22 rfl Wx_tO3 rfl rfl rfl rfl rfl rfl rfl ?_
      refine o_callG [(6, 1, (ns .i64 ([1])))] [(AV.sl 1 (ns .i64 (digs (x).natAbs))), (AV.sl 1 (ns .i64 ([1])))] _ (AV.lit (.int .i64 (cmpN ((x).natAbs) 1))) [(4, (AO.var 36 [(bp ((1 : Int) < 0)), (AV.sl 1 (ns .i64 (digs ((1 : Int)).natAbs)))])), (3, (AO.var 36 [(AV.lit (.bool false)), (AV.lit (.slice none 0 0))])), (2, (AO.var 36 [(bp (x < 0)), (AV.sl 1 (ns .i64 (digs (x).natAbs)))]))] Gd.none Wx_tC79 rfl (And.intro ⟨_, rfl⟩ (trivial)) rfl rfl (LeL.cons (AV.le_refl _) (LeL.cons (AV.le_refl _) (LeL.nil))) (by have h := c_rSize ((x).natAbs) 1; rw [digs_one] at h; exact h) rfl ?_
      refine o_eql (a := (cmpN ((x).natAbs) 1)) (c := (((0 : Nat) : Int))) Gd.none rfl rfl ?_
      refine o_move (bp ((cmpN ((x).natAbs) 1) = (((0 : Nat) : Int)))) Gd.none rfl ?_
      refine o_move (nm .i64 (n)) (Gd.yes rfl rfl (decide_eq_false h8)) rfl ?_
      refine n_eql (n) (0) (Gd.yes rfl rfl (decide_eq_false h8)) rfl rfl ?_
      refine o_pickF (b := decide ((cmpN ((x).natAbs) 1) = (((0 : Nat) : Int)))) (bp ((n) = (0))) Gd.none rfl (decide_eq_false h8) rfl ?_
      refine aops_end ?_
      refine hK26 _ ?_
      refine awp_condQ (q := (n) = (0)) rfl (fun h10 => ?_) (fun h10 => ?_)
      · refine awp_seq fun K27 hK27 => ?_
        refine awp_region rfl ?_
        refine o_loadA [(bp ((1 : Int) < 0)), (AV.sl 1 (ns .i64 (digs ((1 : Int)).natAbs)))] Gd.none Wx_tA36 rfl rfl rfl rfl rfl ?_
        refine o_store [(4, (AO.var 36 [(bp ((1 : Int) < 0)), (AV.sl 1 (ns .i64 (digs ((1 : Int)).natAbs)))])), (3, (AO.var 36 [(bp ((1 : Int) < 0)), (AV.sl 1 (ns .i64 (digs ((1 : Int)).natAbs)))])), (2, (AO.var 36 [(bp (x < 0)), (AV.sl 1 (ns .i64 (digs (x).natAbs)))]))] Gd.none Wx_tZ36 rfl rfl rfl rfl rfl rfl ?_
        refine o_assign (AV.lit (.bool true)) Gd.none rfl ?_
        refine aops_end ?_
        refine hK27 _ ?_
        refine awp_ret ?_
        refine post_ret ⟨[(AV.agg [(bp ((1 : Int) < 0)), (AV.sl 1 (ns .i64 (digs ((1 : Int)).natAbs)))]), (AV.lit (.bool true))], And.intro ⟨3, (AO.var 36 [(bp ((1 : Int) < 0)), (AV.sl 1 (ns .i64 (digs ((1 : Int)).natAbs)))]), rfl, rfl, rfl, Or.inl ⟨Wx_tA36, AV.le_refl _⟩⟩ (And.intro (AV.le_refl _) (trivial)), rfl, ?_⟩
        subst h10
        exact rp_n0 x
      · refine awp_skip ?_
        refine hK25 _ ?_
        refine awp_seq fun K28 hK28 => ?_
        refine awp_seq fun K29 hK29 => ?_
        refine awp_region rfl ?_
        refine o_assign (nm .i64 (0)) Gd.none rfl ?_
        refine aops_end ?_
        refine hK29 _ ?_
        refine awp_block ?_
        refine awp_loopR (fun κ σ => ∃ (i : Nat), (i ≤ n) ∧ (Fit (x ^ i)) ∧ (n - i) = κ ∧ σ = ⟨[(1, (nm .i64 (n))), (2, (AV.ref 2 (0))), (4, (AV.ref 3 (0))), (6, (AV.ref 4 (0))), (7, (nm .i64 (i)))], [(2, (AO.var 36 [(bp (x < 0)), (AV.sl 1 (ns .i64 (digs (x).natAbs)))])), (3, (AO.var 36 [(AV.lit (.bool false)), (AV.lit (.slice none 0 0))])), (4, (AO.var 36 [(bp ((x ^ (i)) < 0)), (AV.sl 1 (ns .i64 (digs ((x ^ (i))).natAbs)))]))]⟩) ⟨_, _, ⟨0, (by omega), (by rw [Int.pow_zero]; exact fit_tiny (by decide)), rfl, rfl⟩, ?wk1⟩ ?rd1
        case wk1 =>
          exact Wk.sub (And.intro (by exact rfl) (And.intro (by exact rfl) (And.intro (by exact rfl) (And.intro (by exact rfl) (And.intro (by first | rfl | exact congrArg (nm _) (by omega) | exact nm_int (by omega) | exact nm_int (by simp [IntKind.wrap, IntKind.bits, IntKind.signed]; omega)) (trivial)))))) (And.intro (by first | rfl | exact row_ns (by simp) | exact congrArg (fun x => some (AO.blk (.stringIter _ x))) (by omega) | (exact pow0_objR x _)) (And.intro (by first | rfl | exact row_ns (by simp) | exact congrArg (fun x => some (AO.blk (.stringIter _ x))) (by omega) | (exact pow0_objR x _)) (And.intro (by first | rfl | exact row_ns (by simp) | exact congrArg (fun x => some (AO.blk (.stringIter _ x))) (by omega) | (exact pow0_objR x _)) (trivial))))
        rintro κ _ ⟨i, hi, hf, rfl, rfl⟩
        have hfl := fit_len hf
        have hil := len_mulZ (x ^ i) x
        rw [← Int.pow_succ] at hil
        have hil2 : (digs ((x ^ (i + 1))).natAbs).length ≤ 1000000000 := Nat.le_trans hil (by omega)
        refine awp_seq fun K30 hK30 => ?_
        refine awp_seq fun K31 hK31 => ?_
        refine awp_region rfl ?_
        refine o_move (nm .i64 (i)) Gd.none rfl ?_
        refine o_move (nm .i64 (n)) Gd.none rfl ?_
        refine n_lss (i) (n) Gd.none rfl rfl ?_
        refine aops_end ?_
        refine hK31 _ ?_
        refine awp_condQ (q := (i) < (n)) rfl (fun h11 => ?_) (fun h11 => ?_)
        · refine awp_skip ?_
          refine hK30 _ ?_
          refine awp_seq fun K32 hK32 => ?_
          refine awp_block ?_
          refine awp_seq fun K33 hK33 => ?_
          refine awp_region rfl ?_
          refine o_loadA [(bp ((x ^ (i)) < 0)), (AV.sl 1 (ns .i64 (digs ((x ^ (i))).natAbs)))] Gd.none Wx_tA36 rfl rfl rfl rfl rfl ?_
          refine o_loadA [(bp (x < 0)), (AV.sl 1 (ns .i64 (digs (x).natAbs)))] Gd.none Wx_tA36 rfl rfl rfl rfl rfl ?_
          refine o_call [(AV.agg [(bp ((x ^ (i)) < 0)), (AV.sl 1 (ns .i64 (digs ((x ^ (i))).natAbs)))]), (AV.agg [(bp (x < 0)), (AV.sl 1 (ns .i64 (digs (x).natAbs)))])] (intR (((x ^ (i)) * x))) Gd.none Wx_tC30 rfl (c_rMul ((x ^ (i))) (x) (by first | assumption | omega | (simp only [Int.natAbs_neg]; omega)) (by first | assumption | omega | (simp only [Int.natAbs_neg]; omega))) ?_
          refine n_as (v' := (intR ((x ^ (i + 1))))) (by exact congrArg intR (Int.pow_succ x i).symm) ?_
          refine o_store [(2, (AO.var 36 [(bp (x < 0)), (AV.sl 1 (ns .i64 (digs (x).natAbs)))])), (3, (AO.var 36 [(AV.lit (.bool false)), (AV.lit (.slice none 0 0))])), (4, (AO.var 36 [(bp ((x ^ (i + 1)) < 0)), (AV.sl 1 (ns .i64 (digs ((x ^ (i + 1))).natAbs)))]))] Gd.none Wx_tZ36 rfl rfl rfl rfl rfl rfl ?_
          refine aops_end ?_
          refine hK33 _ ?_
          refine awp_seq fun K34 hK34 => ?_
          refine awp_region rfl ?_
          refine o_loadA [(bp ((x ^ (i + 1)) < 0)), (AV.sl 1 (ns .i64 (digs ((x ^ (i + 1))).natAbs)))] Gd.none Wx_tA36 rfl rfl rfl rfl rfl ?_
          refine o_call [(AV.agg [(bp ((x ^ (i + 1)) < 0)), (AV.sl 1 (ns .i64 (digs ((x ^ (i + 1))).natAbs)))])] (bp (Fit ((x ^ (i + 1))))) Gd.none Wx_tC25 rfl (c_rFits ((x ^ (i + 1))) (by first | assumption | omega | (simp only [Int.natAbs_neg]; omega))) ?_
          refine o_notP (q := Fit ((x ^ (i + 1)))) Gd.none rfl ?_
          refine aops_end ?_
          refine hK34 _ ?_
          refine awp_condQ (q := ¬ (Fit ((x ^ (i + 1))))) rfl (fun h12 => ?_) (fun h12 => ?_)
          · refine awp_seq fun K35 hK35 => ?_
            refine awp_region rfl ?_
            refine o_build [(AV.lit (.bool false)), (AV.lit (.slice none 0 0))] [] Gd.none Wx_tP36 Wx_tO36 rfl rfl rfl ?_
            refine o_store [(2, (AO.var 36 [(bp (x < 0)), (AV.sl 1 (ns .i64 (digs (x).natAbs)))])), (3, (AO.var 36 [(AV.lit (.bool false)), (AV.lit (.slice none 0 0))])), (4, (AO.var 36 [(bp ((x ^ (i + 1)) < 0)), (AV.sl 1 (ns .i64 (digs ((x ^ (i + 1))).natAbs)))]))] Gd.none Wx_tZ36 rfl rfl rfl rfl rfl rfl ?_
            refine o_assign (AV.lit (.bool false)) Gd.none rfl ?_
            refine aops_end ?_
            refine hK35 _ ?_
            refine awp_ret ?_
            refine post_ret ⟨[(AV.agg [(AV.lit (.bool false)), (AV.sl 1 (ns .i64 (digs 0)))]), (AV.lit (.bool false))], And.intro ⟨3, (AO.var 36 [(AV.lit (.bool false)), (AV.lit (.slice none 0 0))]), rfl, rfl, rfl, Or.inl ⟨Wx_tA36, AV.le_agg (LeL.cons (AV.le_refl _) (LeL.cons (AV.le_nil' (by decide) (by first | rfl | simp [digs_zero, ns, is])) (LeL.nil)))⟩⟩ (And.intro (AV.le_refl _) (trivial)), rfl, ?_⟩
            exact rp_stop (i := i) h12 h11
          · refine awp_skip ?_
            refine hK32 _ ?_
            refine awp_region rfl ?_
            refine o_move (nm .i64 (i)) Gd.none rfl ?_
            refine n_add (i) (1) Gd.none rfl rfl (by simp only [topOf]; omega) ?_
            refine o_assign (nm .i64 ((i) + (1))) Gd.none rfl ?_
            refine aops_end ?_
            refine ⟨_, _, ?lt, ⟨i + 1, (by omega), (by first | assumption | exact Decidable.not_not.1 (by assumption)), rfl, rfl⟩, ?wk⟩
            case lt => omega
            case wk => exact Wk.sub (And.intro (by exact rfl) (And.intro (by exact rfl) (And.intro (by exact rfl) (And.intro (by exact rfl) (And.intro (by first | rfl | exact congrArg (nm _) (by omega) | exact nm_int (by omega) | exact nm_int (by simp [IntKind.wrap, IntKind.bits, IntKind.signed]; omega)) (trivial)))))) (And.intro (by first | rfl | exact row_ns (by simp) | exact congrArg (fun x => some (AO.blk (.stringIter _ x))) (by omega) | (exact pow0_objR x _)) (And.intro (by first | rfl | exact row_ns (by simp) | exact congrArg (fun x => some (AO.blk (.stringIter _ x))) (by omega) | (exact pow0_objR x _)) (And.intro (by first | rfl | exact row_ns (by simp) | exact congrArg (fun x => some (AO.blk (.stringIter _ x))) (by omega) | (exact pow0_objR x _)) (trivial))))
        · refine awp_exit ?_
          refine hK28 _ ?_
          refine awp_seq fun K36 hK36 => ?_
          refine awp_region rfl ?_
          refine o_loadA [(bp ((x ^ (i)) < 0)), (AV.sl 1 (ns .i64 (digs ((x ^ (i))).natAbs)))] Gd.none Wx_tA36 rfl rfl rfl rfl rfl ?_
          refine o_store [(2, (AO.var 36 [(bp (x < 0)), (AV.sl 1 (ns .i64 (digs (x).natAbs)))])), (3, (AO.var 36 [(bp ((x ^ (i)) < 0)), (AV.sl 1 (ns .i64 (digs ((x ^ (i))).natAbs)))])), (4, (AO.var 36 [(bp ((x ^ (i)) < 0)), (AV.sl 1 (ns .i64 (digs ((x ^ (i))).natAbs)))]))] Gd.none Wx_tZ36 rfl rfl rfl rfl rfl rfl ?_
          refine o_assign (AV.lit (.bool true)) Gd.none rfl ?_
          refine aops_end ?_
          refine hK36 _ ?_
          refine awp_ret ?_
          refine post_ret ⟨[(AV.agg [(bp ((x ^ (i)) < 0)), (AV.sl 1 (ns .i64 (digs ((x ^ (i))).natAbs)))]), (AV.lit (.bool true))], And.intro ⟨3, (AO.var 36 [(bp ((x ^ (i)) < 0)), (AV.sl 1 (ns .i64 (digs ((x ^ (i))).natAbs)))]), rfl, rfl, rfl, Or.inl ⟨Wx_tA36, AV.le_refl _⟩⟩ (And.intro (AV.le_refl _) (trivial)), rfl, ?_⟩
          exact rp_end (i := i) hf (by omega)

theorem c_rGuess (x y : Int) (hy : 0 < y.natAbs) (hxy : y.natAbs ≤ x.natAbs) (hx : (digs x.natAbs).length ≤ 1000000000) : ECalls cx 97 [(intR (x)), (intR (y))] (intR ((guessN x.natAbs y.natAbs : Nat) : Int)) := by
  refine ecalls_of_awp Tryd.func97 (c := _) rfl (Nat.le_of_ble_eq_true rfl) ?_
  show awp cx 74 _ (postF cx Tryd.f97 _) ⟨[(0, (intR (x))), (1, (intR (y)))], []⟩
  have hlb := digs_pos_len hy
  have hla := digs_pos_len (show 0 < x.natAbs by omega)
  have hll := digs_len_le hxy
  have hta := Dig.getD (digs_dig x.natAbs) ((digs (x).natAbs).length - 1)
  have hta2 := Dig.getD (digs_dig x.natAbs) ((digs (x).natAbs).length - 2)
  have htb := Dig.getD (digs_dig y.natAbs) ((digs (y).natAbs).length - 1)
  refine awp_seq fun K0 hK0 => ?_
  refine awp_region rfl ?_
  refine o_box 2 [(bp (x < 0)), (AV.sl 1 (ns .i64 (digs (x).natAbs)))] Gd.none rfl rfl ?_
  refine o_box 3 [(bp (y < 0)), (AV.sl 1 (ns .i64 (digs (y).natAbs)))] Gd.none rfl rfl ?_
  refine o_alloc 4 [(AV.lit (.bool false)), (AV.lit (.slice none 0 0))] Gd.none Wx_tO36 rfl rfl rfl ?_
  refine aops_end ?_
  refine hK0 _ ?_
  refine awp_seq fun K1 hK1 => ?_
  refine awp_region rfl ?_
  refine o_fieldRef 1 Gd.none Wx_tF36_1 rfl rfl ?_
  refine o_loadS (AV.sl 1 (ns .i64 (digs (y).natAbs))) Gd.none Wx_tS22 rfl rfl rfl ?_
  refine n_len (digs (y).natAbs) Gd.none Wx_tU22 rfl ?_
  refine o_assign (nm .i64 ((digs (y).natAbs).length)) Gd.none rfl ?_
  refine aops_end ?_
  refine hK1 _ ?_
  refine awp_seq fun K2 hK2 => ?_
  refine awp_region rfl ?_
  refine o_fieldRef 1 Gd.none Wx_tF36_1 rfl rfl ?_
  refine o_loadS (AV.sl 1 (ns .i64 (digs (x).natAbs))) Gd.none Wx_tS22 rfl rfl rfl ?_
  refine n_len (digs (x).natAbs) Gd.none Wx_tU22 rfl ?_
  refine o_move (nm .i64 ((digs (y).natAbs).length)) Gd.none rfl ?_
  refine n_sub ((digs (x).natAbs).length) ((digs (y).natAbs).length) Gd.none rfl rfl (by omega) (by simp only [topOf]; omega) ?_
  refine o_assign (nm .i64 (((digs (x).natAbs).length) - ((digs (y).natAbs).length))) Gd.none rfl ?_
  refine aops_end ?_
  refine hK2 _ ?_
  refine awp_seq fun K3 hK3 => ?_
  refine awp_region rfl ?_
  refine o_fieldRef 1 Gd.none Wx_tF36_1 rfl rfl ?_
  refine o_loadS (AV.sl 1 (ns .i64 (digs (x).natAbs))) Gd.none Wx_tS22 rfl rfl rfl ?_
  refine o_fieldRef 1 Gd.none Wx_tF36_1 rfl rfl ?_
  refine o_loadS (AV.sl 1 (ns .i64 (digs (x).natAbs))) Gd.none Wx_tS22 rfl rfl rfl ?_
  refine n_len (digs (x).natAbs) Gd.none Wx_tU22 rfl ?_
  refine n_sub ((digs (x).natAbs).length) (1) Gd.none rfl rfl (by omega) (by simp only [topOf]; omega) ?_
  refine n_index (digs (x).natAbs) (((digs (x).natAbs).length) - (1)) Gd.none Wx_tE22 rfl rfl (by omega) ?_
  refine n_loadI (digs (x).natAbs) (((digs (x).natAbs).length) - (1)) Gd.none Wx_tS3 rfl (by omega) ?_
  refine o_assign (nm .i64 ((digs (x).natAbs).getD (((digs (x).natAbs).length) - (1)) 0)) Gd.none rfl ?_
  refine aops_end ?_
  refine hK3 _ ?_
  refine awp_seqJ (J := fun σ => ∃ (sh : Nat), ∃ (top : Nat), (sh = gSh x.natAbs y.natAbs) ∧ (top = gTop x.natAbs y.natAbs) ∧ (sh ≤ 1000000000) ∧ (top < 1000000000000000000) ∧ True ∧ σ = ⟨[(2, (AV.ref 2 (0))), (3, (AV.ref 3 (0))), (4, (AV.ref 4 (0))), (5, (nm .i64 ((digs (y).natAbs).length))), (6, (nm .i64 (sh))), (7, (nm .i64 (top)))], [(2, (AO.var 36 [(bp (x < 0)), (AV.sl 1 (ns .i64 (digs (x).natAbs)))])), (3, (AO.var 36 [(bp (y < 0)), (AV.sl 1 (ns .i64 (digs (y).natAbs)))])), (4, (AO.var 36 [(AV.lit (.bool false)), (AV.lit (.slice none 0 0))]))]⟩) ?ja0 ?jb0
  case ja0 =>
    refine awp_seq fun K4 hK4 => ?_
    refine awp_region rfl ?_
    refine o_move (nm .i64 ((digs (x).natAbs).getD (((digs (x).natAbs).length) - (1)) 0)) Gd.none rfl ?_
    refine o_fieldRef 1 Gd.none Wx_tF36_1 rfl rfl ?_
    refine o_loadS (AV.sl 1 (ns .i64 (digs (y).natAbs))) Gd.none Wx_tS22 rfl rfl rfl ?_
    refine o_move (nm .i64 ((digs (y).natAbs).length)) Gd.none rfl ?_
    refine n_sub ((digs (y).natAbs).length) (1) Gd.none rfl rfl (by omega) (by simp only [topOf]; omega) ?_
    refine n_index (digs (y).natAbs) (((digs (y).natAbs).length) - (1)) Gd.none Wx_tE22 rfl rfl (by omega) ?_
    refine n_loadI (digs (y).natAbs) (((digs (y).natAbs).length) - (1)) Gd.none Wx_tS3 rfl (by omega) ?_
    refine n_leq ((digs (x).natAbs).getD (((digs (x).natAbs).length) - (1)) 0) ((digs (y).natAbs).getD (((digs (y).natAbs).length) - (1)) 0) Gd.none rfl rfl ?_
    refine o_move (bp (((digs (x).natAbs).getD (((digs (x).natAbs).length) - (1)) 0) ≤ ((digs (y).natAbs).getD (((digs (y).natAbs).length) - (1)) 0))) Gd.none rfl ?_
    refine o_splitP (q := ((digs (x).natAbs).getD (((digs (x).natAbs).length) - (1)) 0) ≤ ((digs (y).natAbs).getD (((digs (y).natAbs).length) - (1)) 0)) 34 rfl (fun h1 => ?_) (fun h1 => ?_)
    · refine o_move (nm .i64 (((digs (x).natAbs).length) - ((digs (y).natAbs).length))) (Gd.yes rfl rfl (decide_eq_true h1)) rfl ?_
      refine n_gtr (((digs (x).natAbs).length) - ((digs (y).natAbs).length)) (0) (Gd.yes rfl rfl (decide_eq_true h1)) rfl rfl ?_
      refine o_pickT (b := decide (((digs (x).natAbs).getD (((digs (x).natAbs).length) - (1)) 0) ≤ ((digs (y).natAbs).getD (((digs (y).natAbs).length) - (1)) 0))) (bp ((0) < (((digs (x).natAbs).length) - ((digs (y).natAbs).length)))) Gd.none rfl (decide_eq_true h1) rfl ?_
      refine aops_end ?_
      refine hK4 _ ?_
      refine awp_condQ (q := (0) < (((digs (x).natAbs).length) - ((digs (y).natAbs).length))) rfl (fun h2 => ?_) (fun h2 => ?_)
      · refine awp_seq fun K5 hK5 => ?_
        refine awp_region rfl ?_
        refine o_move (nm .i64 (((digs (x).natAbs).length) - ((digs (y).natAbs).length))) Gd.none rfl ?_
        refine n_sub (((digs (x).natAbs).length) - ((digs (y).natAbs).length)) (1) Gd.none rfl rfl (by omega) (by simp only [topOf]; omega) ?_
        refine o_assign (nm .i64 ((((digs (x).natAbs).length) - ((digs (y).natAbs).length)) - (1))) Gd.none rfl ?_
        refine aops_end ?_
        refine hK5 _ ?_
        refine awp_region rfl ?_
        refine o_move (nm .i64 ((digs (x).natAbs).getD (((digs (x).natAbs).length) - (1)) 0)) Gd.none rfl ?_
        refine n_mul ((digs (x).natAbs).getD (((digs (x).natAbs).length) - (1)) 0) (1000000000) Gd.none rfl rfl (by simp only [topOf]; omega) ?_
        refine o_fieldRef 1 Gd.none Wx_tF36_1 rfl rfl ?_
        refine o_loadS (AV.sl 1 (ns .i64 (digs (x).natAbs))) Gd.none Wx_tS22 rfl rfl rfl ?_
        refine o_fieldRef 1 Gd.none Wx_tF36_1 rfl rfl ?_
        refine o_loadS (AV.sl 1 (ns .i64 (digs (x).natAbs))) Gd.none Wx_tS22 rfl rfl rfl ?_
        refine n_len (digs (x).natAbs) Gd.none Wx_tU22 rfl ?_
        refine n_sub ((digs (x).natAbs).length) (2) Gd.none rfl rfl (by omega) (by simp only [topOf]; omega) ?_
        refine n_index (digs (x).natAbs) (((digs (x).natAbs).length) - (2)) Gd.none Wx_tE22 rfl rfl (by omega) ?_
        refine n_loadI (digs (x).natAbs) (((digs (x).natAbs).length) - (2)) Gd.none Wx_tS3 rfl (by omega) ?_
        refine n_add (((digs (x).natAbs).getD (((digs (x).natAbs).length) - (1)) 0) * (1000000000)) ((digs (x).natAbs).getD (((digs (x).natAbs).length) - (2)) 0) Gd.none rfl rfl (by simp only [topOf]; omega) ?_
        refine o_assign (nm .i64 ((((digs (x).natAbs).getD (((digs (x).natAbs).length) - (1)) 0) * (1000000000)) + ((digs (x).natAbs).getD (((digs (x).natAbs).length) - (2)) 0))) Gd.none rfl ?_
        refine aops_end ?_
        exact ⟨_, ⟨(digs (x).natAbs).length - (digs (y).natAbs).length - 1, ((digs (x).natAbs).getD ((digs (x).natAbs).length - 1) 0) * 1000000000 + (digs (x).natAbs).getD ((digs (x).natAbs).length - 2) 0, (by unfold gSh; rw [if_pos (show gC x.natAbs y.natAbs from ⟨h1, by omega⟩)]), (by unfold gTop; rw [if_pos (show gC x.natAbs y.natAbs from ⟨h1, by omega⟩)]), (by omega), (by omega), trivial, rfl⟩, Wk.sub (And.intro (by exact rfl) (And.intro (by exact rfl) (And.intro (by exact rfl) (And.intro (by exact rfl) (And.intro (by first | rfl | exact congrArg (nm _) (by omega) | exact nm_int (by omega) | exact nm_int (by simp [IntKind.wrap, IntKind.bits, IntKind.signed]; omega)) (And.intro (by first | rfl | exact congrArg (nm _) (by omega) | exact nm_int (by omega) | exact nm_int (by simp [IntKind.wrap, IntKind.bits, IntKind.signed]; omega)) (trivial))))))) (And.intro (by first | rfl | exact row_ns (by simp) | exact congrArg (fun x => some (AO.blk (.stringIter _ x))) (by omega)) (And.intro (by first | rfl | exact row_ns (by simp) | exact congrArg (fun x => some (AO.blk (.stringIter _ x))) (by omega)) (And.intro (by first | rfl | exact row_ns (by simp) | exact congrArg (fun x => some (AO.blk (.stringIter _ x))) (by omega)) (trivial))))⟩
      · refine awp_skip ?_
        exact ⟨_, ⟨(digs (x).natAbs).length - (digs (y).natAbs).length, ((digs (x).natAbs).getD ((digs (x).natAbs).length - 1) 0), (by unfold gSh; rw [if_neg (show ¬ gC x.natAbs y.natAbs from fun h => absurd h.2 (by omega))]), (by unfold gTop; rw [if_neg (show ¬ gC x.natAbs y.natAbs from fun h => absurd h.2 (by omega))]), (by omega), (by omega), trivial, rfl⟩, Wk.sub (And.intro (by exact rfl) (And.intro (by exact rfl) (And.intro (by exact rfl) (And.intro (by exact rfl) (And.intro (by first | rfl | exact congrArg (nm _) (by omega) | exact nm_int (by omega) | exact nm_int (by simp [IntKind.wrap, IntKind.bits, IntKind.signed]; omega)) (And.intro (by first | rfl | exact congrArg (nm _) (by omega) | exact nm_int (by omega) | exact nm_int (by simp [IntKind.wrap, IntKind.bits, IntKind.signed]; omega)) (trivial))))))) (And.intro (by first | rfl | exact row_ns (by simp) | exact congrArg (fun x => some (AO.blk (.stringIter _ x))) (by omega)) (And.intro (by first | rfl | exact row_ns (by simp) | exact congrArg (fun x => some (AO.blk (.stringIter _ x))) (by omega)) (And.intro (by first | rfl | exact row_ns (by simp) | exact congrArg (fun x => some (AO.blk (.stringIter _ x))) (by omega)) (trivial))))⟩
    · refine o_skip (b := decide (((digs (x).natAbs).getD (((digs (x).natAbs).length) - (1)) 0) ≤ ((digs (y).natAbs).getD (((digs (y).natAbs).length) - (1)) 0))) rfl rfl (decide_eq_false h1) ?_
      refine o_skip (b := decide (((digs (x).natAbs).getD (((digs (x).natAbs).length) - (1)) 0) ≤ ((digs (y).natAbs).getD (((digs (y).natAbs).length) - (1)) 0))) rfl rfl (decide_eq_false h1) ?_
      refine o_pickF (b := decide (((digs (x).natAbs).getD (((digs (x).natAbs).length) - (1)) 0) ≤ ((digs (y).natAbs).getD (((digs (y).natAbs).length) - (1)) 0))) (AV.lit (.bool false)) Gd.none rfl (decide_eq_false h1) rfl ?_
      refine aops_end ?_
      refine hK4 _ ?_
      refine awp_condB (b := false) rfl (fun hh => absurd (hh.symm.trans rfl) (by decide)) (fun _ => ?_)
      refine awp_skip ?_
      exact ⟨_, ⟨(digs (x).natAbs).length - (digs (y).natAbs).length, ((digs (x).natAbs).getD ((digs (x).natAbs).length - 1) 0), (by unfold gSh; rw [if_neg (show ¬ gC x.natAbs y.natAbs from fun h => absurd h.1 (by omega))]), (by unfold gTop; rw [if_neg (show ¬ gC x.natAbs y.natAbs from fun h => absurd h.1 (by omega))]), (by omega), (by omega), trivial, rfl⟩, Wk.sub (And.intro (by exact rfl) (And.intro (by exact rfl) (And.intro (by exact rfl) (And.intro (by exact rfl) (And.intro (by first | rfl | exact congrArg (nm _) (by omega) | exact nm_int (by omega) | exact nm_int (by simp [IntKind.wrap, IntKind.bits, IntKind.signed]; omega)) (And.intro (by first | rfl | exact congrArg (nm _) (by omega) | exact nm_int (by omega) | exact nm_int (by simp [IntKind.wrap, IntKind.bits, IntKind.signed]; omega)) (trivial))))))) (And.intro (by first | rfl | exact row_ns (by simp) | exact congrArg (fun x => some (AO.blk (.stringIter _ x))) (by omega)) (And.intro (by first | rfl | exact row_ns (by simp) | exact congrArg (fun x => some (AO.blk (.stringIter _ x))) (by omega)) (And.intro (by first | rfl | exact row_ns (by simp) | exact congrArg (fun x => some (AO.blk (.stringIter _ x))) (by omega)) (trivial))))⟩
  rintro _ ⟨sh, top, hs, ht, hs2, ht2, -, rfl⟩
  have hdq := Nat.div_le_self top (((digs (y).natAbs).getD ((digs (y).natAbs).length - 1) 0) + 1)
  refine awp_seq fun K6 hK6 => ?_
  refine awp_region rfl ?_
  refine o_move (nm .i64 (top)) Gd.none rfl ?_
  refine o_fieldRef 1 Gd.none Wx_tF36_1 rfl rfl ?_
  refine o_loadS (AV.sl 1 (ns .i64 (digs (y).natAbs))) Gd.none Wx_tS22 rfl rfl rfl ?_
  refine o_move (nm .i64 ((digs (y).natAbs).length)) Gd.none rfl ?_
  refine n_sub ((digs (y).natAbs).length) (1) Gd.none rfl rfl (by omega) (by simp only [topOf]; omega) ?_
  refine n_index (digs (y).natAbs) (((digs (y).natAbs).length) - (1)) Gd.none Wx_tE22 rfl rfl (by omega) ?_
  refine n_loadI (digs (y).natAbs) (((digs (y).natAbs).length) - (1)) Gd.none Wx_tS3 rfl (by omega) ?_
  refine n_add ((digs (y).natAbs).getD (((digs (y).natAbs).length) - (1)) 0) (1) Gd.none rfl rfl (by simp only [topOf]; omega) ?_
  refine n_quo (top) (((digs (y).natAbs).getD (((digs (y).natAbs).length) - (1)) 0) + (1)) Gd.none rfl rfl (by omega) (by simp only [topOf]; omega) ?_
  refine n_max ((top) / (((digs (y).natAbs).getD (((digs (y).natAbs).length) - (1)) 0) + (1))) (1) Gd.none rfl rfl (fun a c w => run_max a c w) ?_
  refine o_assign (nm .i64 (max ((top) / (((digs (y).natAbs).getD (((digs (y).natAbs).length) - (1)) 0) + (1))) (1))) Gd.none rfl ?_
  refine aops_end ?_
  refine hK6 _ ?_
  refine awp_seq fun K7 hK7 => ?_
  refine awp_region rfl ?_
  refine o_move (nm .i64 (sh)) Gd.none rfl ?_
  refine n_make 101 (sh) Gd.none Wx_tE22 Wx_tO3 rfl rfl (by omega) rfl rfl ?_
  refine o_assign (AV.row 101) Gd.none rfl ?_
  refine aops_end ?_
  refine hK7 _ ?_
  refine awp_seq fun K8 hK8 => ?_
  refine awp_block ?_
  refine awp_loopR (fun κ σ => ∃ (u : Nat), ∃ (r : List Nat), (u ≤ 1000000000000000000) ∧ (r ++ digs u = List.replicate sh 0 ++ digs (max (top / (((digs (y).natAbs).getD ((digs (y).natAbs).length - 1) 0) + 1)) 1)) ∧ (Dig r) ∧ (u) = κ ∧ σ = ⟨[(2, (AV.ref 2 (0))), (3, (AV.ref 3 (0))), (4, (AV.ref 4 (0))), (8, (nm .i64 (u))), (9, (AV.row 5))], [(2, (AO.var 36 [(bp (x < 0)), (AV.sl 1 (ns .i64 (digs (x).natAbs)))])), (3, (AO.var 36 [(bp (y < 0)), (AV.sl 1 (ns .i64 (digs (y).natAbs)))])), (4, (AO.var 36 [(AV.lit (.bool false)), (AV.lit (.slice none 0 0))])), (5, (AO.row 3 1 (ns .i64 (r))))]⟩) ⟨_, _, ⟨max (top / (((digs (y).natAbs).getD ((digs (y).natAbs).length - 1) 0) + 1)) 1, List.replicate sh 0, (by have := Nat.div_le_self top (((digs (y).natAbs).getD ((digs (y).natAbs).length - 1) 0) + 1); omega), rfl, (Dig.repl _), rfl, rfl⟩, ?wk1⟩ ?rd1
  case wk1 =>
    exact Wk.trans (Wk.sub (σ' := ⟨[(2, (AV.ref 2 (0))), (3, (AV.ref 3 (0))), (4, (AV.ref 4 (0))), (8, (nm .i64 (max ((top) / (((digs (y).natAbs).getD (((digs (y).natAbs).length) - (1)) 0) + (1))) (1)))), (9, (AV.row 101))], [(2, (AO.var 36 [(bp (x < 0)), (AV.sl 1 (ns .i64 (digs (x).natAbs)))])), (3, (AO.var 36 [(bp (y < 0)), (AV.sl 1 (ns .i64 (digs (y).natAbs)))])), (4, (AO.var 36 [(AV.lit (.bool false)), (AV.lit (.slice none 0 0))])), (101, (AO.row 3 1 (ns .i64 (List.replicate (sh) 0))))]⟩) (And.intro rfl (And.intro rfl (And.intro rfl (And.intro rfl (And.intro rfl (trivial)))))) (And.intro rfl (And.intro rfl (And.intro rfl (And.intro rfl (trivial)))))) (Wk.trans (Wk.ren (id := 101) (id' := 5) rfl) (Wk.sub (And.intro (by exact rfl) (And.intro (by exact rfl) (And.intro (by exact rfl) (And.intro (by first | rfl | exact congrArg (nm _) (by omega) | exact nm_int (by omega) | exact nm_int (by simp [IntKind.wrap, IntKind.bits, IntKind.signed]; omega)) (And.intro (by first | rfl | (simp)) (trivial)))))) (And.intro (by first | rfl | exact row_ns (by simp) | exact congrArg (fun x => some (AO.blk (.stringIter _ x))) (by omega)) (And.intro (by first | rfl | exact row_ns (by simp) | exact congrArg (fun x => some (AO.blk (.stringIter _ x))) (by omega)) (And.intro (by first | rfl | exact row_ns (by simp) | exact congrArg (fun x => some (AO.blk (.stringIter _ x))) (by omega)) (And.intro (by first | rfl | exact row_ns (by simp) | exact congrArg (fun x => some (AO.blk (.stringIter _ x))) (by omega)) (trivial)))))))
  rintro κ _ ⟨u, r, hu, hr, hrd, rfl, rfl⟩
  have hlen := congrArg List.length hr
  simp only [List.length_append, List.length_replicate] at hlen
  have hq3 := digs_len_small (n := max (top / (((digs (y).natAbs).getD ((digs (y).natAbs).length - 1) 0) + 1)) 1) (by have := Nat.div_le_self top (((digs (y).natAbs).getD ((digs (y).natAbs).length - 1) 0) + 1); omega)
  refine awp_seq fun K9 hK9 => ?_
  refine awp_seq fun K10 hK10 => ?_
  refine awp_region rfl ?_
  refine o_move (nm .i64 (u)) Gd.none rfl ?_
  refine n_gtr (u) (0) Gd.none rfl rfl ?_
  refine aops_end ?_
  refine hK10 _ ?_
  refine awp_condQ (q := (0) < (u)) rfl (fun h3 => ?_) (fun h3 => ?_)
  · refine awp_skip ?_
    refine hK9 _ ?_
    refine awp_block ?_
    refine awp_seq fun K11 hK11 => ?_
    refine awp_region rfl ?_
    refine o_move (AV.row 5) Gd.none rfl ?_
    refine o_move (nm .i64 (u)) Gd.none rfl ?_
    refine n_rem (u) (1000000000) Gd.none rfl rfl (by omega) ?_
    refine o_buildSlice 201 (ns .i64 ([(u) % (1000000000)])) [(0, [(nm .i64 ((u) % (1000000000)))])] Gd.none Wx_tE22 rfl Wx_tO3 rfl rfl rfl rfl rfl rfl rfl ?_
    refine n_append 202 (r) ([(u) % (1000000000)]) [(201, (AO.row 3 1 (ns .i64 ([(u) % (1000000000)])))), (2, (AO.var 36 [(bp (x < 0)), (AV.sl 1 (ns .i64 (digs (x).natAbs)))])), (3, (AO.var 36 [(bp (y < 0)), (AV.sl 1 (ns .i64 (digs (y).natAbs)))])), (4, (AO.var 36 [(AV.lit (.bool false)), (AV.lit (.slice none 0 0))]))] Gd.none Wx_tE22 Wx_tO3 rfl rfl rfl rfl rfl (by simp only [List.length_append, List.length_cons, List.length_nil]; omega) (by decide) rfl rfl ?_
    refine o_assign (AV.row 202) Gd.none rfl ?_
    refine aops_end ?_
    refine hK11 _ ?_
    refine awp_region rfl ?_
    refine o_move (nm .i64 (u)) Gd.none rfl ?_
    refine n_quo (u) (1000000000) Gd.none rfl rfl (by omega) (by simp only [topOf]; omega) ?_
    refine o_assign (nm .i64 ((u) / (1000000000))) Gd.none rfl ?_
    refine aops_end ?_
    refine ⟨_, _, ?lt, ⟨(u) / (1000000000), (r) ++ ([(u) % (1000000000)]), (by omega), (app_step hr (by assumption)), (hrd.snoc (Nat.mod_lt _ (by decide))), rfl, rfl⟩, ?wk⟩
    case lt => omega
    case wk => exact Wk.trans (Wk.sub (σ' := ⟨[(2, (AV.ref 2 (0))), (3, (AV.ref 3 (0))), (4, (AV.ref 4 (0))), (8, (nm .i64 ((u) / (1000000000)))), (9, (AV.row 202))], [(2, (AO.var 36 [(bp (x < 0)), (AV.sl 1 (ns .i64 (digs (x).natAbs)))])), (3, (AO.var 36 [(bp (y < 0)), (AV.sl 1 (ns .i64 (digs (y).natAbs)))])), (4, (AO.var 36 [(AV.lit (.bool false)), (AV.lit (.slice none 0 0))])), (202, (AO.row 3 1 (ns .i64 ((r) ++ ([(u) % (1000000000)])))))]⟩) (And.intro rfl (And.intro rfl (And.intro rfl (And.intro rfl (And.intro rfl (trivial)))))) (And.intro rfl (And.intro rfl (And.intro rfl (And.intro rfl (trivial)))))) (Wk.trans (Wk.ren (id := 202) (id' := 5) rfl) (Wk.sub (And.intro (by exact rfl) (And.intro (by exact rfl) (And.intro (by exact rfl) (And.intro (by first | rfl | exact congrArg (nm _) (by omega) | exact nm_int (by omega) | exact nm_int (by simp [IntKind.wrap, IntKind.bits, IntKind.signed]; omega)) (And.intro (by first | rfl | (simp)) (trivial)))))) (And.intro (by first | rfl | exact row_ns (by simp) | exact congrArg (fun x => some (AO.blk (.stringIter _ x))) (by omega)) (And.intro (by first | rfl | exact row_ns (by simp) | exact congrArg (fun x => some (AO.blk (.stringIter _ x))) (by omega)) (And.intro (by first | rfl | exact row_ns (by simp) | exact congrArg (fun x => some (AO.blk (.stringIter _ x))) (by omega)) (And.intro (by first | rfl | exact row_ns (by simp) | exact congrArg (fun x => some (AO.blk (.stringIter _ x))) (by omega)) (trivial)))))))
  · refine awp_exit ?_
    refine hK8 _ ?_
    refine awp_seq fun K12 hK12 => ?_
    refine awp_region rfl ?_
    refine o_move (AV.row 5) Gd.none rfl ?_
    refine o_callG [(5, 1, (ns .i64 (r)))] [(AV.lit (.bool false)), (AV.sl 1 (ns .i64 (r)))] _ (intR ((sg (false) (val (r))))) [(2, (AO.var 36 [(bp (x < 0)), (AV.sl 1 (ns .i64 (digs (x).natAbs)))])), (3, (AO.var 36 [(bp (y < 0)), (AV.sl 1 (ns .i64 (digs (y).natAbs)))])), (4, (AO.var 36 [(AV.lit (.bool false)), (AV.lit (.slice none 0 0))]))] Gd.none Wx_tC74 rfl (And.intro ⟨_, rfl⟩ (trivial)) rfl rfl (LeL.cons (AV.le_refl _) (LeL.cons (AV.le_refl _) (LeL.nil))) (c_rTrim (false) (r) (by first | assumption | exact dgn_dig _ _ | exact digs_dig _ | exact Dig.snoc (by assumption) (by assumption) | exact Dig.cons (by omega) (digs_dig _))) rfl ?_
    refine o_store [(2, (AO.var 36 [(bp (x < 0)), (AV.sl 1 (ns .i64 (digs (x).natAbs)))])), (3, (AO.var 36 [(bp (y < 0)), (AV.sl 1 (ns .i64 (digs (y).natAbs)))])), (4, (AO.var 36 [(bp ((sg (false) (val (r))) < 0)), (AV.sl 1 (ns .i64 (digs ((sg (false) (val (r)))).natAbs)))]))] Gd.none Wx_tZ36 rfl rfl rfl rfl rfl rfl ?_
    refine aops_end ?_
    refine hK12 _ ?_
    refine awp_ret ?_
    refine post_ret ⟨[(AV.agg [(bp ((sg (false) (val (r))) < 0)), (AV.sl 1 (ns .i64 (digs ((sg (false) (val (r)))).natAbs)))])], And.intro ⟨4, (AO.var 36 [(bp ((sg (false) (val (r))) < 0)), (AV.sl 1 (ns .i64 (digs ((sg (false) (val (r)))).natAbs)))]), rfl, rfl, rfl, Or.inl ⟨Wx_tA36, AV.le_refl _⟩⟩ (trivial), rfl, ?_⟩
    refine congrArg intR ?_
    rw [app_end hr (by assumption), val_guess]
    show _ = ((_ : Nat) : Int)
    unfold guessN gQ
    rw [← hs, ← ht]

theorem c_rDiv (x y : Int) (hy : 0 < y) (hx : (digs x.natAbs).length ≤ 800000000) (hyl : (digs y.natAbs).length ≤ 800000000) : ECalls cx 62 [(intR (x)), (intR (y))] (.tup [intR (x / y), intR (x % y)]) := by
  refine ecalls_of_awp Tryd.func62 (c := _) rfl (Nat.le_of_ble_eq_true rfl) ?_
  show awp cx 46 _ (postF cx Tryd.f62 _) ⟨[(0, (intR (x))), (1, (intR (y)))], []⟩
  refine awp_seq fun K0 hK0 => ?_
  refine awp_region rfl ?_
  refine o_box 2 [(bp (x < 0)), (AV.sl 1 (ns .i64 (digs (x).natAbs)))] Gd.none rfl rfl ?_
  refine o_box 3 [(bp (y < 0)), (AV.sl 1 (ns .i64 (digs (y).natAbs)))] Gd.none rfl rfl ?_
  refine o_alloc 4 [(AV.lit (.bool false)), (AV.lit (.slice none 0 0))] Gd.none Wx_tO36 rfl rfl rfl ?_
  refine o_alloc 5 [(AV.lit (.bool false)), (AV.lit (.slice none 0 0))] Gd.none Wx_tO36 rfl rfl rfl ?_
  refine aops_end ?_
  refine hK0 _ ?_
  refine awp_seq fun K1 hK1 => ?_
  refine awp_region rfl ?_
  refine o_build [(AV.lit (.bool false)), (AV.lit (.slice none 0 0))] [] Gd.none Wx_tP36 Wx_tO36 rfl rfl rfl ?_
  refine o_alloc 6 [(AV.lit (.bool false)), (AV.lit (.slice none 0 0))] Gd.none Wx_tO36 rfl rfl rfl ?_
  refine o_store [(6, (AO.var 36 [(AV.lit (.bool false)), (AV.lit (.slice none 0 0))])), (5, (AO.var 36 [(AV.lit (.bool false)), (AV.lit (.slice none 0 0))])), (4, (AO.var 36 [(AV.lit (.bool false)), (AV.lit (.slice none 0 0))])), (3, (AO.var 36 [(bp (y < 0)), (AV.sl 1 (ns .i64 (digs (y).natAbs)))])), (2, (AO.var 36 [(bp (x < 0)), (AV.sl 1 (ns .i64 (digs (x).natAbs)))]))] Gd.none Wx_tZ36 rfl rfl rfl rfl rfl rfl ?_
  refine aops_end ?_
  refine hK1 _ ?_
  refine awp_seq fun K2 hK2 => ?_
  refine awp_region rfl ?_
  refine o_fieldRef 1 Gd.none Wx_tF36_1 rfl rfl ?_
  refine o_loadS (AV.sl 1 (ns .i64 (digs (x).natAbs))) Gd.none Wx_tS22 rfl rfl rfl ?_
  refine o_build [(AV.lit (.bool false)), (AV.sl 1 (ns .i64 (digs (x).natAbs)))] [(1, [(AV.sl 1 (ns .i64 (digs (x).natAbs)))])] Gd.none Wx_tP36 Wx_tO36 rfl rfl rfl ?_
  refine n_as (v' := (intR (((x.natAbs : Nat) : Int)))) (by exact absR x) ?_
  refine o_alloc 7 [(AV.lit (.bool false)), (AV.lit (.slice none 0 0))] Gd.none Wx_tO36 rfl rfl rfl ?_
  refine o_store [(7, (AO.var 36 [(bp (((x.natAbs : Nat) : Int) < 0)), (AV.sl 1 (ns .i64 (digs (((x.natAbs : Nat) : Int)).natAbs)))])), (6, (AO.var 36 [(AV.lit (.bool false)), (AV.lit (.slice none 0 0))])), (5, (AO.var 36 [(AV.lit (.bool false)), (AV.lit (.slice none 0 0))])), (4, (AO.var 36 [(AV.lit (.bool false)), (AV.lit (.slice none 0 0))])), (3, (AO.var 36 [(bp (y < 0)), (AV.sl 1 (ns .i64 (digs (y).natAbs)))])), (2, (AO.var 36 [(bp (x < 0)), (AV.sl 1 (ns .i64 (digs (x).natAbs)))]))] Gd.none Wx_tZ36 rfl rfl rfl rfl rfl rfl ?_
  refine aops_end ?_
  refine hK2 _ ?_
  refine awp_seq fun K3 hK3 => ?_
  refine awp_block ?_
  refine awp_wk (Wk.cells (i := 6) (cs' := [bp (((0 : Nat) : Int) < 0), AV.sl 1 (ns .i64 (digs (((0 : Nat) : Int)).natAbs))]) rfl (LeL.cons (AV.le_eq (bl_bp (b := false) (by simp))) (LeL.cons (AV.le_nil' (by decide) (by simp [digs_zero, ns])) LeL.nil))) ?_
  refine awp_loopR (fun κ σ => ∃ (q : Nat), ∃ (r : Nat), (x.natAbs = q * y.natAbs + r) ∧ (r) = κ ∧ σ = ⟨[(2, (AV.ref 2 (0))), (3, (AV.ref 3 (0))), (4, (AV.ref 4 (0))), (5, (AV.ref 5 (0))), (6, (AV.ref 6 (0))), (7, (AV.ref 7 (0)))], [(2, (AO.var 36 [(bp (x < 0)), (AV.sl 1 (ns .i64 (digs (x).natAbs)))])), (3, (AO.var 36 [(bp (y < 0)), (AV.sl 1 (ns .i64 (digs (y).natAbs)))])), (4, (AO.var 36 [(AV.lit (.bool false)), (AV.lit (.slice none 0 0))])), (5, (AO.var 36 [(AV.lit (.bool false)), (AV.lit (.slice none 0 0))])), (6, (AO.var 36 [(bp (((q : Nat) : Int) < 0)), (AV.sl 1 (ns .i64 (digs (((q : Nat) : Int)).natAbs)))])), (7, (AO.var 36 [(bp (((r : Nat) : Int) < 0)), (AV.sl 1 (ns .i64 (digs (((r : Nat) : Int)).natAbs)))]))]⟩) ⟨_, _, ⟨0, x.natAbs, (by omega), rfl, rfl⟩, ?wk0⟩ ?rd0
  case wk0 =>
    exact Wk.sub (And.intro (by exact rfl) (And.intro (by exact rfl) (And.intro (by exact rfl) (And.intro (by exact rfl) (And.intro (by exact rfl) (And.intro (by exact rfl) (trivial))))))) (And.intro (by first | rfl | exact row_ns (by simp) | exact congrArg (fun x => some (AO.blk (.stringIter _ x))) (by omega)) (And.intro (by first | rfl | exact row_ns (by simp) | exact congrArg (fun x => some (AO.blk (.stringIter _ x))) (by omega)) (And.intro (by first | rfl | exact row_ns (by simp) | exact congrArg (fun x => some (AO.blk (.stringIter _ x))) (by omega)) (And.intro (by first | rfl | exact row_ns (by simp) | exact congrArg (fun x => some (AO.blk (.stringIter _ x))) (by omega)) (And.intro (by first | rfl | exact row_ns (by simp) | exact congrArg (fun x => some (AO.blk (.stringIter _ x))) (by omega)) (And.intro (by first | rfl | exact row_ns (by simp) | exact congrArg (fun x => some (AO.blk (.stringIter _ x))) (by omega)) (trivial)))))))
  rintro κ _ ⟨q, r, hv, rfl, rfl⟩
  have hrx : r ≤ x.natAbs := by omega
  have hqx : q ≤ x.natAbs := by have := Nat.le_mul_of_pos_right q (show 0 < y.natAbs by omega); omega
  have hrl := digs_len_le hrx
  have hql := digs_len_le hqx
  have hrl2 : (digs (((r : Nat) : Int)).natAbs).length ≤ 800000000 := Nat.le_trans hrl hx
  have hql2 : (digs (((q : Nat) : Int)).natAbs).length ≤ 800000000 := Nat.le_trans hql hx
  have ho := len_one
  have hq1 := len_addZ ((q : Nat) : Int) 1
  have hcz := cmpZ_nn (r := r) hy
  refine awp_seq fun K4 hK4 => ?_
  refine awp_seq fun K5 hK5 => ?_
  refine awp_region rfl ?_
  refine o_loadA [(bp (((r : Nat) : Int) < 0)), (AV.sl 1 (ns .i64 (digs (((r : Nat) : Int)).natAbs)))] Gd.none Wx_tA36 rfl rfl rfl rfl rfl ?_
  refine o_loadA [(bp (y < 0)), (AV.sl 1 (ns .i64 (digs (y).natAbs)))] Gd.none Wx_tA36 rfl rfl rfl rfl rfl ?_
  refine o_call [(AV.agg [(bp (((r : Nat) : Int) < 0)), (AV.sl 1 (ns .i64 (digs (((r : Nat) : Int)).natAbs)))]), (AV.agg [(bp (y < 0)), (AV.sl 1 (ns .i64 (digs (y).natAbs)))])] (AV.lit (.int .i64 (cmpZ (((r : Nat) : Int)) (y)))) Gd.none Wx_tC34 rfl (c_rCmp (((r : Nat) : Int)) (y)) ?_
  refine o_geq (a := (cmpZ (((r : Nat) : Int)) (y))) (c := (((0 : Nat) : Int))) Gd.none rfl rfl ?_
  refine aops_end ?_
  refine hK5 _ ?_
  refine awp_condQ (q := (((0 : Nat) : Int)) ≤ (cmpZ (((r : Nat) : Int)) (y))) rfl (fun h1 => ?_) (fun h1 => ?_)
  · have hyr := hcz.1 h1
    have hg := guess_le (show 0 < y.natAbs by omega) hyr
    have hgr : guessN r y.natAbs ≤ r := by have := Nat.le_mul_of_pos_right (guessN r y.natAbs) (show 0 < y.natAbs by omega); omega
    have hgl := digs_len_le hgr
    have hgl2 : (digs (((guessN r y.natAbs : Nat) : Int)).natAbs).length ≤ 800000000 := Nat.le_trans hgl hrl2
    have hml : (digs (((guessN r y.natAbs : Nat) : Int) * y).natAbs).length ≤ 800000000 := Nat.le_trans (len_gy hg.2) hrl2
    refine awp_skip ?_
    refine hK4 _ ?_
    refine awp_block ?_
    refine awp_seq fun K6 hK6 => ?_
    refine awp_region rfl ?_
    refine o_loadA [(bp (((r : Nat) : Int) < 0)), (AV.sl 1 (ns .i64 (digs (((r : Nat) : Int)).natAbs)))] Gd.none Wx_tA36 rfl rfl rfl rfl rfl ?_
    refine o_loadA [(bp (y < 0)), (AV.sl 1 (ns .i64 (digs (y).natAbs)))] Gd.none Wx_tA36 rfl rfl rfl rfl rfl ?_
    refine o_call [(AV.agg [(bp (((r : Nat) : Int) < 0)), (AV.sl 1 (ns .i64 (digs (((r : Nat) : Int)).natAbs)))]), (AV.agg [(bp (y < 0)), (AV.sl 1 (ns .i64 (digs (y).natAbs)))])] (intR (((guessN (((r : Nat) : Int)).natAbs (y).natAbs : Nat) : Int))) Gd.none Wx_tC97 rfl (c_rGuess (((r : Nat) : Int)) (y) (by omega) (by omega) (by first | assumption | omega | (simp only [Int.natAbs_neg]; omega))) ?_
    refine n_as (v' := (intR (((guessN r y.natAbs : Nat) : Int)))) (by rfl) ?_
    refine o_alloc 101 [(AV.lit (.bool false)), (AV.lit (.slice none 0 0))] Gd.none Wx_tO36 rfl rfl rfl ?_
    refine o_store [(101, (AO.var 36 [(bp (((guessN r y.natAbs : Nat) : Int) < 0)), (AV.sl 1 (ns .i64 (digs (((guessN r y.natAbs : Nat) : Int)).natAbs)))])), (2, (AO.var 36 [(bp (x < 0)), (AV.sl 1 (ns .i64 (digs (x).natAbs)))])), (3, (AO.var 36 [(bp (y < 0)), (AV.sl 1 (ns .i64 (digs (y).natAbs)))])), (4, (AO.var 36 [(AV.lit (.bool false)), (AV.lit (.slice none 0 0))])), (5, (AO.var 36 [(AV.lit (.bool false)), (AV.lit (.slice none 0 0))])), (6, (AO.var 36 [(bp (((q : Nat) : Int) < 0)), (AV.sl 1 (ns .i64 (digs (((q : Nat) : Int)).natAbs)))])), (7, (AO.var 36 [(bp (((r : Nat) : Int) < 0)), (AV.sl 1 (ns .i64 (digs (((r : Nat) : Int)).natAbs)))]))] Gd.none Wx_tZ36 rfl rfl rfl rfl rfl rfl ?_
    refine aops_end ?_
    refine hK6 _ ?_
    refine awp_seq fun K7 hK7 => ?_
    refine awp_region rfl ?_
    refine o_loadA [(bp (((q : Nat) : Int) < 0)), (AV.sl 1 (ns .i64 (digs (((q : Nat) : Int)).natAbs)))] Gd.none Wx_tA36 rfl rfl rfl rfl rfl ?_
    refine o_loadA [(bp (((guessN r y.natAbs : Nat) : Int) < 0)), (AV.sl 1 (ns .i64 (digs (((guessN r y.natAbs : Nat) : Int)).natAbs)))] Gd.none Wx_tA36 rfl rfl rfl rfl rfl ?_
    refine o_call [(AV.agg [(bp (((q : Nat) : Int) < 0)), (AV.sl 1 (ns .i64 (digs (((q : Nat) : Int)).natAbs)))]), (AV.agg [(bp (((guessN r y.natAbs : Nat) : Int) < 0)), (AV.sl 1 (ns .i64 (digs (((guessN r y.natAbs : Nat) : Int)).natAbs)))])] (intR ((((q : Nat) : Int) + ((guessN r y.natAbs : Nat) : Int)))) Gd.none Wx_tC32 rfl (c_rAdd (((q : Nat) : Int)) (((guessN r y.natAbs : Nat) : Int)) (by first | assumption | omega | (simp only [Int.natAbs_neg]; omega)) (by first | assumption | omega | (simp only [Int.natAbs_neg]; omega))) ?_
    refine n_as (v' := (intR (((q + guessN r y.natAbs : Nat) : Int)))) (by exact congrArg intR (Int.natCast_add _ _).symm) ?_
    refine o_store [(101, (AO.var 36 [(bp (((guessN r y.natAbs : Nat) : Int) < 0)), (AV.sl 1 (ns .i64 (digs (((guessN r y.natAbs : Nat) : Int)).natAbs)))])), (2, (AO.var 36 [(bp (x < 0)), (AV.sl 1 (ns .i64 (digs (x).natAbs)))])), (3, (AO.var 36 [(bp (y < 0)), (AV.sl 1 (ns .i64 (digs (y).natAbs)))])), (4, (AO.var 36 [(AV.lit (.bool false)), (AV.lit (.slice none 0 0))])), (5, (AO.var 36 [(AV.lit (.bool false)), (AV.lit (.slice none 0 0))])), (6, (AO.var 36 [(bp (((q + guessN r y.natAbs : Nat) : Int) < 0)), (AV.sl 1 (ns .i64 (digs (((q + guessN r y.natAbs : Nat) : Int)).natAbs)))])), (7, (AO.var 36 [(bp (((r : Nat) : Int) < 0)), (AV.sl 1 (ns .i64 (digs (((r : Nat) : Int)).natAbs)))]))] Gd.none Wx_tZ36 rfl rfl rfl rfl rfl rfl ?_
    refine aops_end ?_
    refine hK7 _ ?_
    refine awp_regionD rfl ?_
    refine o_loadA [(bp (((r : Nat) : Int) < 0)), (AV.sl 1 (ns .i64 (digs (((r : Nat) : Int)).natAbs)))] Gd.none Wx_tA36 rfl rfl rfl rfl rfl ?_
    refine o_loadA [(bp (((guessN r y.natAbs : Nat) : Int) < 0)), (AV.sl 1 (ns .i64 (digs (((guessN r y.natAbs : Nat) : Int)).natAbs)))] Gd.none Wx_tA36 rfl rfl rfl rfl rfl ?_
    refine o_loadA [(bp (y < 0)), (AV.sl 1 (ns .i64 (digs (y).natAbs)))] Gd.none Wx_tA36 rfl rfl rfl rfl rfl ?_
    refine o_call [(AV.agg [(bp (((guessN r y.natAbs : Nat) : Int) < 0)), (AV.sl 1 (ns .i64 (digs (((guessN r y.natAbs : Nat) : Int)).natAbs)))]), (AV.agg [(bp (y < 0)), (AV.sl 1 (ns .i64 (digs (y).natAbs)))])] (intR ((((guessN r y.natAbs : Nat) : Int) * y))) Gd.none Wx_tC30 rfl (c_rMul (((guessN r y.natAbs : Nat) : Int)) (y) (by first | assumption | omega | (simp only [Int.natAbs_neg]; omega)) (by first | assumption | omega | (simp only [Int.natAbs_neg]; omega))) ?_
    refine o_call [(AV.agg [(bp (((r : Nat) : Int) < 0)), (AV.sl 1 (ns .i64 (digs (((r : Nat) : Int)).natAbs)))]), (intR ((((guessN r y.natAbs : Nat) : Int) * y)))] (intR ((((r : Nat) : Int) - (((guessN r y.natAbs : Nat) : Int) * y)))) Gd.none Wx_tC35 rfl (c_rSub (((r : Nat) : Int)) ((((guessN r y.natAbs : Nat) : Int) * y)) (by first | assumption | omega | (simp only [Int.natAbs_neg]; omega)) (by first | assumption | omega | (simp only [Int.natAbs_neg]; omega))) ?_
    refine n_as (v' := (intR (((r - guessN r y.natAbs * y.natAbs : Nat) : Int)))) (by exact congrArg intR (sub_cast hg.2 hy)) ?_
    refine o_store [(101, (AO.var 36 [(bp (((guessN r y.natAbs : Nat) : Int) < 0)), (AV.sl 1 (ns .i64 (digs (((guessN r y.natAbs : Nat) : Int)).natAbs)))])), (2, (AO.var 36 [(bp (x < 0)), (AV.sl 1 (ns .i64 (digs (x).natAbs)))])), (3, (AO.var 36 [(bp (y < 0)), (AV.sl 1 (ns .i64 (digs (y).natAbs)))])), (4, (AO.var 36 [(AV.lit (.bool false)), (AV.lit (.slice none 0 0))])), (5, (AO.var 36 [(AV.lit (.bool false)), (AV.lit (.slice none 0 0))])), (6, (AO.var 36 [(bp (((q + guessN r y.natAbs : Nat) : Int) < 0)), (AV.sl 1 (ns .i64 (digs (((q + guessN r y.natAbs : Nat) : Int)).natAbs)))])), (7, (AO.var 36 [(bp (((r - guessN r y.natAbs * y.natAbs : Nat) : Int) < 0)), (AV.sl 1 (ns .i64 (digs (((r - guessN r y.natAbs * y.natAbs : Nat) : Int)).natAbs)))]))] Gd.none Wx_tZ36 rfl rfl rfl rfl rfl rfl ?_
    refine aops_end ⟨by kernel_rfl, ?_⟩
    refine ⟨_, _, ?lt, ⟨q + guessN r y.natAbs, r - guessN r y.natAbs * y.natAbs, (div_inv hv hg.2), rfl, rfl⟩, ?wk⟩
    case lt => (have := Nat.mul_le_mul_right y.natAbs hg.1; omega)
    case wk => exact Wk.sub (And.intro (by exact rfl) (And.intro (by exact rfl) (And.intro (by exact rfl) (And.intro (by exact rfl) (And.intro (by exact rfl) (And.intro (by exact rfl) (trivial))))))) (And.intro (by first | rfl | exact row_ns (by simp) | exact congrArg (fun x => some (AO.blk (.stringIter _ x))) (by omega)) (And.intro (by first | rfl | exact row_ns (by simp) | exact congrArg (fun x => some (AO.blk (.stringIter _ x))) (by omega)) (And.intro (by first | rfl | exact row_ns (by simp) | exact congrArg (fun x => some (AO.blk (.stringIter _ x))) (by omega)) (And.intro (by first | rfl | exact row_ns (by simp) | exact congrArg (fun x => some (AO.blk (.stringIter _ x))) (by omega)) (And.intro (by first | rfl | exact row_ns (by simp) | exact congrArg (fun x => some (AO.blk (.stringIter _ x))) (by omega)) (And.intro (by first | rfl | exact row_ns (by simp) | exact congrArg (fun x => some (AO.blk (.stringIter _ x))) (by omega)) (trivial)))))))
  · have hry : r < y.natAbs := Nat.not_le.1 fun h => h1 (hcz.2 h)
    have hE := div_fin hv hry
    have hyy : ((y.natAbs : Nat) : Int) = y := by omega
    refine awp_exit ?_
    refine hK3 _ ?_
    refine awp_seq fun K8 hK8 => ?_
    refine awp_seq fun K9 hK9 => ?_
    refine awp_region rfl ?_
    refine o_fieldRef 0 Gd.none Wx_tF36_0 rfl rfl ?_
    refine o_loadS (bp (x < 0)) Gd.none Wx_tS4 rfl rfl rfl ?_
    refine o_notP (q := x < 0) Gd.none rfl ?_
    refine aops_end ?_
    refine hK9 _ ?_
    refine awp_condQ (q := ¬ (x < 0)) rfl (fun h2 => ?_) (fun h2 => ?_)
    · refine awp_seq fun K10 hK10 => ?_
      refine awp_regionD rfl ?_
      refine o_loadA [(bp (((q : Nat) : Int) < 0)), (AV.sl 1 (ns .i64 (digs (((q : Nat) : Int)).natAbs)))] Gd.none Wx_tA36 rfl rfl rfl rfl rfl ?_
      refine o_loadA [(bp (((r : Nat) : Int) < 0)), (AV.sl 1 (ns .i64 (digs (((r : Nat) : Int)).natAbs)))] Gd.none Wx_tA36 rfl rfl rfl rfl rfl ?_
      refine o_store [(2, (AO.var 36 [(bp (x < 0)), (AV.sl 1 (ns .i64 (digs (x).natAbs)))])), (3, (AO.var 36 [(bp (y < 0)), (AV.sl 1 (ns .i64 (digs (y).natAbs)))])), (4, (AO.var 36 [(bp (((q : Nat) : Int) < 0)), (AV.sl 1 (ns .i64 (digs (((q : Nat) : Int)).natAbs)))])), (5, (AO.var 36 [(AV.lit (.bool false)), (AV.lit (.slice none 0 0))])), (6, (AO.var 36 [(bp (((q : Nat) : Int) < 0)), (AV.sl 1 (ns .i64 (digs (((q : Nat) : Int)).natAbs)))])), (7, (AO.var 36 [(bp (((r : Nat) : Int) < 0)), (AV.sl 1 (ns .i64 (digs (((r : Nat) : Int)).natAbs)))]))] Gd.none Wx_tZ36 rfl rfl rfl rfl rfl rfl ?_
      refine o_store [(2, (AO.var 36 [(bp (x < 0)), (AV.sl 1 (ns .i64 (digs (x).natAbs)))])), (3, (AO.var 36 [(bp (y < 0)), (AV.sl 1 (ns .i64 (digs (y).natAbs)))])), (4, (AO.var 36 [(bp (((q : Nat) : Int) < 0)), (AV.sl 1 (ns .i64 (digs (((q : Nat) : Int)).natAbs)))])), (5, (AO.var 36 [(bp (((r : Nat) : Int) < 0)), (AV.sl 1 (ns .i64 (digs (((r : Nat) : Int)).natAbs)))])), (6, (AO.var 36 [(bp (((q : Nat) : Int) < 0)), (AV.sl 1 (ns .i64 (digs (((q : Nat) : Int)).natAbs)))])), (7, (AO.var 36 [(bp (((r : Nat) : Int) < 0)), (AV.sl 1 (ns .i64 (digs (((r : Nat) : Int)).natAbs)))]))] Gd.none Wx_tZ36 rfl rfl rfl rfl rfl rfl ?_
      refine aops_end ⟨by kernel_rfl, ?_⟩
      refine hK10 _ ?_
      refine awp_ret ?_
      refine post_ret ⟨[(AV.agg [(bp (((q : Nat) : Int) < 0)), (AV.sl 1 (ns .i64 (digs (((q : Nat) : Int)).natAbs)))]), (AV.agg [(bp (((r : Nat) : Int) < 0)), (AV.sl 1 (ns .i64 (digs (((r : Nat) : Int)).natAbs)))])], And.intro ⟨4, (AO.var 36 [(bp (((q : Nat) : Int) < 0)), (AV.sl 1 (ns .i64 (digs (((q : Nat) : Int)).natAbs)))]), rfl, rfl, rfl, Or.inl ⟨Wx_tA36, AV.le_refl _⟩⟩ (And.intro ⟨5, (AO.var 36 [(bp (((r : Nat) : Int) < 0)), (AV.sl 1 (ns .i64 (digs (((r : Nat) : Int)).natAbs)))]), rfl, rfl, rfl, Or.inl ⟨Wx_tA36, AV.le_refl _⟩⟩ (trivial)), rfl, ?_⟩
      have e := part1 (d := y.natAbs) h2 (by omega) hE.1 hE.2
      rw [hyy] at e
      exact tup_eq2 (congrArg intR e.1) (congrArg intR e.2)
    · refine awp_skip ?_
      refine hK8 _ ?_
      refine awp_seq fun K11 hK11 => ?_
      refine awp_seq fun K12 hK12 => ?_
      refine awp_region rfl ?_
      refine o_loadA [(bp (((r : Nat) : Int) < 0)), (AV.sl 1 (ns .i64 (digs (((r : Nat) : Int)).natAbs)))] Gd.none Wx_tA36 rfl rfl rfl rfl rfl ?_
      refine o_call [(AV.agg [(bp (((r : Nat) : Int) < 0)), (AV.sl 1 (ns .i64 (digs (((r : Nat) : Int)).natAbs)))])] (AV.lit (.int .i64 (sgn (((r : Nat) : Int))))) Gd.none Wx_tC61 rfl (c_rSign (((r : Nat) : Int))) ?_
      refine o_eql (a := (sgn (((r : Nat) : Int)))) (c := (((0 : Nat) : Int))) Gd.none rfl rfl ?_
      refine aops_end ?_
      refine hK12 _ ?_
      refine awp_condQ (q := (sgn (((r : Nat) : Int))) = (((0 : Nat) : Int))) rfl (fun h3 => ?_) (fun h3 => ?_)
      · refine awp_seq fun K13 hK13 => ?_
        refine awp_regionD rfl ?_
        refine o_loadA [(bp (((q : Nat) : Int) < 0)), (AV.sl 1 (ns .i64 (digs (((q : Nat) : Int)).natAbs)))] Gd.none Wx_tA36 rfl rfl rfl rfl rfl ?_
        refine o_call [(AV.agg [(bp (((q : Nat) : Int) < 0)), (AV.sl 1 (ns .i64 (digs (((q : Nat) : Int)).natAbs)))])] (intR ((-((q : Nat) : Int)))) Gd.none Wx_tC81 rfl (c_rMinus (((q : Nat) : Int))) ?_
        refine o_loadA [(bp (((r : Nat) : Int) < 0)), (AV.sl 1 (ns .i64 (digs (((r : Nat) : Int)).natAbs)))] Gd.none Wx_tA36 rfl rfl rfl rfl rfl ?_
        refine o_store [(2, (AO.var 36 [(bp (x < 0)), (AV.sl 1 (ns .i64 (digs (x).natAbs)))])), (3, (AO.var 36 [(bp (y < 0)), (AV.sl 1 (ns .i64 (digs (y).natAbs)))])), (4, (AO.var 36 [(bp ((-((q : Nat) : Int)) < 0)), (AV.sl 1 (ns .i64 (digs ((-((q : Nat) : Int))).natAbs)))])), (5, (AO.var 36 [(AV.lit (.bool false)), (AV.lit (.slice none 0 0))])), (6, (AO.var 36 [(bp (((q : Nat) : Int) < 0)), (AV.sl 1 (ns .i64 (digs (((q : Nat) : Int)).natAbs)))])), (7, (AO.var 36 [(bp (((r : Nat) : Int) < 0)), (AV.sl 1 (ns .i64 (digs (((r : Nat) : Int)).natAbs)))]))] Gd.none Wx_tZ36 rfl rfl rfl rfl rfl rfl ?_
        refine o_store [(2, (AO.var 36 [(bp (x < 0)), (AV.sl 1 (ns .i64 (digs (x).natAbs)))])), (3, (AO.var 36 [(bp (y < 0)), (AV.sl 1 (ns .i64 (digs (y).natAbs)))])), (4, (AO.var 36 [(bp ((-((q : Nat) : Int)) < 0)), (AV.sl 1 (ns .i64 (digs ((-((q : Nat) : Int))).natAbs)))])), (5, (AO.var 36 [(bp (((r : Nat) : Int) < 0)), (AV.sl 1 (ns .i64 (digs (((r : Nat) : Int)).natAbs)))])), (6, (AO.var 36 [(bp (((q : Nat) : Int) < 0)), (AV.sl 1 (ns .i64 (digs (((q : Nat) : Int)).natAbs)))])), (7, (AO.var 36 [(bp (((r : Nat) : Int) < 0)), (AV.sl 1 (ns .i64 (digs (((r : Nat) : Int)).natAbs)))]))] Gd.none Wx_tZ36 rfl rfl rfl rfl rfl rfl ?_
        refine aops_end ⟨by kernel_rfl, ?_⟩
        refine hK13 _ ?_
        refine awp_ret ?_
        refine post_ret ⟨[(AV.agg [(bp ((-((q : Nat) : Int)) < 0)), (AV.sl 1 (ns .i64 (digs ((-((q : Nat) : Int))).natAbs)))]), (AV.agg [(bp (((r : Nat) : Int) < 0)), (AV.sl 1 (ns .i64 (digs (((r : Nat) : Int)).natAbs)))])], And.intro ⟨4, (AO.var 36 [(bp ((-((q : Nat) : Int)) < 0)), (AV.sl 1 (ns .i64 (digs ((-((q : Nat) : Int))).natAbs)))]), rfl, rfl, rfl, Or.inl ⟨Wx_tA36, AV.le_refl _⟩⟩ (And.intro ⟨5, (AO.var 36 [(bp (((r : Nat) : Int) < 0)), (AV.sl 1 (ns .i64 (digs (((r : Nat) : Int)).natAbs)))]), rfl, rfl, rfl, Or.inl ⟨Wx_tA36, AV.le_refl _⟩⟩ (trivial)), rfl, ?_⟩
        have e := part2 (d := y.natAbs) (Decidable.not_not.1 h2) (by omega) hE.1 hE.2 (sgn_zero.1 h3)
        rw [hyy] at e
        exact tup_eq2 (congrArg intR e.1) (congrArg intR (e.2.trans (by rw [sgn_zero.1 h3]; rfl)))
      · refine awp_skip ?_
        refine hK11 _ ?_
        refine awp_seq fun K14 hK14 => ?_
        refine awp_regionD rfl ?_
        refine o_loadA [(bp (((q : Nat) : Int) < 0)), (AV.sl 1 (ns .i64 (digs (((q : Nat) : Int)).natAbs)))] Gd.none Wx_tA36 rfl rfl rfl rfl rfl ?_
        refine o_call [(nm .i64 (1))] (intR ((1 : Int))) Gd.none Wx_tC31 rfl (c_rOf ((1 : Int)) (by first | decide | omega) (by first | decide | omega)) ?_
        refine o_call [(AV.agg [(bp (((q : Nat) : Int) < 0)), (AV.sl 1 (ns .i64 (digs (((q : Nat) : Int)).natAbs)))]), (intR ((1 : Int)))] (intR ((((q : Nat) : Int) + (1 : Int)))) Gd.none Wx_tC32 rfl (c_rAdd (((q : Nat) : Int)) ((1 : Int)) (by first | assumption | omega | (simp only [Int.natAbs_neg]; omega)) (by first | assumption | omega | (simp only [Int.natAbs_neg]; omega))) ?_
        refine o_call [(intR ((((q : Nat) : Int) + (1 : Int))))] (intR ((-(((q : Nat) : Int) + (1 : Int))))) Gd.none Wx_tC81 rfl (c_rMinus ((((q : Nat) : Int) + (1 : Int)))) ?_
        refine o_loadA [(bp (y < 0)), (AV.sl 1 (ns .i64 (digs (y).natAbs)))] Gd.none Wx_tA36 rfl rfl rfl rfl rfl ?_
        refine o_loadA [(bp (((r : Nat) : Int) < 0)), (AV.sl 1 (ns .i64 (digs (((r : Nat) : Int)).natAbs)))] Gd.none Wx_tA36 rfl rfl rfl rfl rfl ?_
        refine o_call [(AV.agg [(bp (y < 0)), (AV.sl 1 (ns .i64 (digs (y).natAbs)))]), (AV.agg [(bp (((r : Nat) : Int) < 0)), (AV.sl 1 (ns .i64 (digs (((r : Nat) : Int)).natAbs)))])] (intR ((y - ((r : Nat) : Int)))) Gd.none Wx_tC35 rfl (c_rSub (y) (((r : Nat) : Int)) (by first | assumption | omega | (simp only [Int.natAbs_neg]; omega)) (by first | assumption | omega | (simp only [Int.natAbs_neg]; omega))) ?_
        refine o_store [(2, (AO.var 36 [(bp (x < 0)), (AV.sl 1 (ns .i64 (digs (x).natAbs)))])), (3, (AO.var 36 [(bp (y < 0)), (AV.sl 1 (ns .i64 (digs (y).natAbs)))])), (4, (AO.var 36 [(bp ((-(((q : Nat) : Int) + (1 : Int))) < 0)), (AV.sl 1 (ns .i64 (digs ((-(((q : Nat) : Int) + (1 : Int)))).natAbs)))])), (5, (AO.var 36 [(AV.lit (.bool false)), (AV.lit (.slice none 0 0))])), (6, (AO.var 36 [(bp (((q : Nat) : Int) < 0)), (AV.sl 1 (ns .i64 (digs (((q : Nat) : Int)).natAbs)))])), (7, (AO.var 36 [(bp (((r : Nat) : Int) < 0)), (AV.sl 1 (ns .i64 (digs (((r : Nat) : Int)).natAbs)))]))] Gd.none Wx_tZ36 rfl rfl rfl rfl rfl rfl ?_
        refine o_store [(2, (AO.var 36 [(bp (x < 0)), (AV.sl 1 (ns .i64 (digs (x).natAbs)))])), (3, (AO.var 36 [(bp (y < 0)), (AV.sl 1 (ns .i64 (digs (y).natAbs)))])), (4, (AO.var 36 [(bp ((-(((q : Nat) : Int) + (1 : Int))) < 0)), (AV.sl 1 (ns .i64 (digs ((-(((q : Nat) : Int) + (1 : Int)))).natAbs)))])), (5, (AO.var 36 [(bp ((y - ((r : Nat) : Int)) < 0)), (AV.sl 1 (ns .i64 (digs ((y - ((r : Nat) : Int))).natAbs)))])), (6, (AO.var 36 [(bp (((q : Nat) : Int) < 0)), (AV.sl 1 (ns .i64 (digs (((q : Nat) : Int)).natAbs)))])), (7, (AO.var 36 [(bp (((r : Nat) : Int) < 0)), (AV.sl 1 (ns .i64 (digs (((r : Nat) : Int)).natAbs)))]))] Gd.none Wx_tZ36 rfl rfl rfl rfl rfl rfl ?_
        refine aops_end ⟨by kernel_rfl, ?_⟩
        refine hK14 _ ?_
        refine awp_ret ?_
        refine post_ret ⟨[(AV.agg [(bp ((-(((q : Nat) : Int) + (1 : Int))) < 0)), (AV.sl 1 (ns .i64 (digs ((-(((q : Nat) : Int) + (1 : Int)))).natAbs)))]), (AV.agg [(bp ((y - ((r : Nat) : Int)) < 0)), (AV.sl 1 (ns .i64 (digs ((y - ((r : Nat) : Int))).natAbs)))])], And.intro ⟨4, (AO.var 36 [(bp ((-(((q : Nat) : Int) + (1 : Int))) < 0)), (AV.sl 1 (ns .i64 (digs ((-(((q : Nat) : Int) + (1 : Int)))).natAbs)))]), rfl, rfl, rfl, Or.inl ⟨Wx_tA36, AV.le_refl _⟩⟩ (And.intro ⟨5, (AO.var 36 [(bp ((y - ((r : Nat) : Int)) < 0)), (AV.sl 1 (ns .i64 (digs ((y - ((r : Nat) : Int))).natAbs)))]), rfl, rfl, rfl, Or.inl ⟨Wx_tA36, AV.le_refl _⟩⟩ (trivial)), rfl, ?_⟩
        have e := part3 (d := y.natAbs) (Decidable.not_not.1 h2) (by omega) hE.1 hE.2 (fun e => h3 (sgn_zero.2 e))
        rw [hyy] at e
        exact tup_eq2 (congrArg intR (e.1.trans (by omega))) (congrArg intR e.2)

theorem c_rGcd (x y : Int) (hx : (digs x.natAbs).length ≤ 800000000) (hyl : (digs y.natAbs).length ≤ 800000000) : ECalls cx 60 [(intR (x)), (intR (y))] (intR ((Int.gcd x y : Nat) : Int)) := by
  refine ecalls_of_awp Tryd.func60 (c := _) rfl (Nat.le_of_ble_eq_true rfl) ?_
  show awp cx 25 _ (postF cx Tryd.f60 _) ⟨[(0, (intR (x))), (1, (intR (y)))], []⟩
  refine awp_seq fun K0 hK0 => ?_
  refine awp_region rfl ?_
  refine o_box 2 [(bp (x < 0)), (AV.sl 1 (ns .i64 (digs (x).natAbs)))] Gd.none rfl rfl ?_
  refine o_box 3 [(bp (y < 0)), (AV.sl 1 (ns .i64 (digs (y).natAbs)))] Gd.none rfl rfl ?_
  refine o_alloc 4 [(AV.lit (.bool false)), (AV.lit (.slice none 0 0))] Gd.none Wx_tO36 rfl rfl rfl ?_
  refine aops_end ?_
  refine hK0 _ ?_
  refine awp_seq fun K1 hK1 => ?_
  refine awp_regionD rfl ?_
  refine o_fieldRef 1 Gd.none Wx_tF36_1 rfl rfl ?_
  refine o_loadS (AV.sl 1 (ns .i64 (digs (x).natAbs))) Gd.none Wx_tS22 rfl rfl rfl ?_
  refine o_build [(AV.lit (.bool false)), (AV.sl 1 (ns .i64 (digs (x).natAbs)))] [(1, [(AV.sl 1 (ns .i64 (digs (x).natAbs)))])] Gd.none Wx_tP36 Wx_tO36 rfl rfl rfl ?_
  refine n_as (v' := (intR (((x.natAbs : Nat) : Int)))) (by exact absR x) ?_
  refine o_fieldRef 1 Gd.none Wx_tF36_1 rfl rfl ?_
  refine o_loadS (AV.sl 1 (ns .i64 (digs (y).natAbs))) Gd.none Wx_tS22 rfl rfl rfl ?_
  refine o_build [(AV.lit (.bool false)), (AV.sl 1 (ns .i64 (digs (y).natAbs)))] [(1, [(AV.sl 1 (ns .i64 (digs (y).natAbs)))])] Gd.none Wx_tP36 Wx_tO36 rfl rfl rfl ?_
  refine n_as (v' := (intR (((y.natAbs : Nat) : Int)))) (by exact absR y) ?_
  refine o_store [(4, (AO.var 36 [(AV.lit (.bool false)), (AV.lit (.slice none 0 0))])), (3, (AO.var 36 [(bp (y < 0)), (AV.sl 1 (ns .i64 (digs (y).natAbs)))])), (2, (AO.var 36 [(bp (((x.natAbs : Nat) : Int) < 0)), (AV.sl 1 (ns .i64 (digs (((x.natAbs : Nat) : Int)).natAbs)))]))] Gd.none Wx_tZ36 rfl rfl rfl rfl rfl rfl ?_
  refine o_store [(4, (AO.var 36 [(AV.lit (.bool false)), (AV.lit (.slice none 0 0))])), (3, (AO.var 36 [(bp (((y.natAbs : Nat) : Int) < 0)), (AV.sl 1 (ns .i64 (digs (((y.natAbs : Nat) : Int)).natAbs)))])), (2, (AO.var 36 [(bp (((x.natAbs : Nat) : Int) < 0)), (AV.sl 1 (ns .i64 (digs (((x.natAbs : Nat) : Int)).natAbs)))]))] Gd.none Wx_tZ36 rfl rfl rfl rfl rfl rfl ?_
  refine aops_end ⟨by kernel_rfl, ?_⟩
  refine hK1 _ ?_
  refine awp_seq fun K2 hK2 => ?_
  refine awp_block ?_
  refine awp_loopR (fun κ σ => ∃ (u : Nat), ∃ (v : Nat), (Nat.gcd u v = Int.gcd x y) ∧ ((digs u).length ≤ 800000000) ∧ ((digs v).length ≤ 800000000) ∧ (v) = κ ∧ σ = ⟨[(2, (AV.ref 2 (0))), (3, (AV.ref 3 (0))), (4, (AV.ref 4 (0)))], [(2, (AO.var 36 [(bp (((u : Nat) : Int) < 0)), (AV.sl 1 (ns .i64 (digs (((u : Nat) : Int)).natAbs)))])), (3, (AO.var 36 [(bp (((v : Nat) : Int) < 0)), (AV.sl 1 (ns .i64 (digs (((v : Nat) : Int)).natAbs)))])), (4, (AO.var 36 [(AV.lit (.bool false)), (AV.lit (.slice none 0 0))]))]⟩) ⟨_, _, ⟨x.natAbs, y.natAbs, rfl, hx, hyl, rfl, rfl⟩, ?wk0⟩ ?rd0
  case wk0 =>
    exact Wk.sub (And.intro (by exact rfl) (And.intro (by exact rfl) (And.intro (by exact rfl) (trivial)))) (And.intro (by first | rfl | exact row_ns (by simp) | exact congrArg (fun x => some (AO.blk (.stringIter _ x))) (by omega)) (And.intro (by first | rfl | exact row_ns (by simp) | exact congrArg (fun x => some (AO.blk (.stringIter _ x))) (by omega)) (And.intro (by first | rfl | exact row_ns (by simp) | exact congrArg (fun x => some (AO.blk (.stringIter _ x))) (by omega)) (trivial))))
  rintro κ _ ⟨u, v, hg, hu, hv, rfl, rfl⟩
  have hu2 : (digs (((u : Nat) : Int)).natAbs).length ≤ 800000000 := hu
  have hv2 : (digs (((v : Nat) : Int)).natAbs).length ≤ 800000000 := hv
  refine awp_seq fun K3 hK3 => ?_
  refine awp_seq fun K4 hK4 => ?_
  refine awp_region rfl ?_
  refine o_loadA [(bp (((v : Nat) : Int) < 0)), (AV.sl 1 (ns .i64 (digs (((v : Nat) : Int)).natAbs)))] Gd.none Wx_tA36 rfl rfl rfl rfl rfl ?_
  refine o_call [(AV.agg [(bp (((v : Nat) : Int) < 0)), (AV.sl 1 (ns .i64 (digs (((v : Nat) : Int)).natAbs)))])] (AV.lit (.int .i64 (sgn (((v : Nat) : Int))))) Gd.none Wx_tC61 rfl (c_rSign (((v : Nat) : Int))) ?_
  refine o_neq (a := (sgn (((v : Nat) : Int)))) (c := (((0 : Nat) : Int))) Gd.none rfl rfl ?_
  refine aops_end ?_
  refine hK4 _ ?_
  refine awp_condQ (q := (sgn (((v : Nat) : Int))) ≠ (((0 : Nat) : Int))) rfl (fun h1 => ?_) (fun h1 => ?_)
  · have hv0 : 0 < v := Nat.pos_of_ne_zero fun e => h1 (sgn_zero.2 e)
    refine awp_skip ?_
    refine hK3 _ ?_
    refine awp_block ?_
    refine awp_seq fun K5 hK5 => ?_
    refine awp_region rfl ?_
    refine o_loadA [(bp (((u : Nat) : Int) < 0)), (AV.sl 1 (ns .i64 (digs (((u : Nat) : Int)).natAbs)))] Gd.none Wx_tA36 rfl rfl rfl rfl rfl ?_
    refine o_loadA [(bp (((v : Nat) : Int) < 0)), (AV.sl 1 (ns .i64 (digs (((v : Nat) : Int)).natAbs)))] Gd.none Wx_tA36 rfl rfl rfl rfl rfl ?_
    refine o_call [(AV.agg [(bp (((u : Nat) : Int) < 0)), (AV.sl 1 (ns .i64 (digs (((u : Nat) : Int)).natAbs)))]), (AV.agg [(bp (((v : Nat) : Int) < 0)), (AV.sl 1 (ns .i64 (digs (((v : Nat) : Int)).natAbs)))])] (AV.tup [(intR ((((u : Nat) : Int) / ((v : Nat) : Int)))), (intR ((((u : Nat) : Int) % ((v : Nat) : Int))))]) Gd.none Wx_tC62 rfl (c_rDiv (((u : Nat) : Int)) (((v : Nat) : Int)) (by omega) (by omega) (by omega)) ?_
    refine o_move (AV.tup [(intR ((((u : Nat) : Int) / ((v : Nat) : Int)))), (intR ((((u : Nat) : Int) % ((v : Nat) : Int))))]) Gd.none rfl ?_
    refine o_extract (intR ((((u : Nat) : Int) / ((v : Nat) : Int)))) Gd.none rfl rfl ?_
    refine o_extract (intR ((((u : Nat) : Int) % ((v : Nat) : Int)))) Gd.none rfl rfl ?_
    refine n_as (v' := (intR (((u % v : Nat) : Int)))) (by exact congrArg intR (Int.natCast_emod u v).symm) ?_
    refine o_alloc 101 [(AV.lit (.bool false)), (AV.lit (.slice none 0 0))] Gd.none Wx_tO36 rfl rfl rfl ?_
    refine o_alloc 102 [(AV.lit (.bool false)), (AV.lit (.slice none 0 0))] Gd.none Wx_tO36 rfl rfl rfl ?_
    refine o_store [(102, (AO.var 36 [(AV.lit (.bool false)), (AV.lit (.slice none 0 0))])), (101, (AO.var 36 [(bp ((((u : Nat) : Int) / ((v : Nat) : Int)) < 0)), (AV.sl 1 (ns .i64 (digs ((((u : Nat) : Int) / ((v : Nat) : Int))).natAbs)))])), (2, (AO.var 36 [(bp (((u : Nat) : Int) < 0)), (AV.sl 1 (ns .i64 (digs (((u : Nat) : Int)).natAbs)))])), (3, (AO.var 36 [(bp (((v : Nat) : Int) < 0)), (AV.sl 1 (ns .i64 (digs (((v : Nat) : Int)).natAbs)))])), (4, (AO.var 36 [(AV.lit (.bool false)), (AV.lit (.slice none 0 0))]))] Gd.none Wx_tZ36 rfl rfl rfl rfl rfl rfl ?_
    refine o_store [(102, (AO.var 36 [(bp (((u % v : Nat) : Int) < 0)), (AV.sl 1 (ns .i64 (digs (((u % v : Nat) : Int)).natAbs)))])), (101, (AO.var 36 [(bp ((((u : Nat) : Int) / ((v : Nat) : Int)) < 0)), (AV.sl 1 (ns .i64 (digs ((((u : Nat) : Int) / ((v : Nat) : Int))).natAbs)))])), (2, (AO.var 36 [(bp (((u : Nat) : Int) < 0)), (AV.sl 1 (ns .i64 (digs (((u : Nat) : Int)).natAbs)))])), (3, (AO.var 36 [(bp (((v : Nat) : Int) < 0)), (AV.sl 1 (ns .i64 (digs (((v : Nat) : Int)).natAbs)))])), (4, (AO.var 36 [(AV.lit (.bool false)), (AV.lit (.slice none 0 0))]))] Gd.none Wx_tZ36 rfl rfl rfl rfl rfl rfl ?_
    refine aops_end ?_
    refine hK5 _ ?_
    refine awp_regionD rfl ?_
    refine o_loadA [(bp (((v : Nat) : Int) < 0)), (AV.sl 1 (ns .i64 (digs (((v : Nat) : Int)).natAbs)))] Gd.none Wx_tA36 rfl rfl rfl rfl rfl ?_
    refine o_loadA [(bp (((u % v : Nat) : Int) < 0)), (AV.sl 1 (ns .i64 (digs (((u % v : Nat) : Int)).natAbs)))] Gd.none Wx_tA36 rfl rfl rfl rfl rfl ?_
    refine o_store [(102, (AO.var 36 [(bp (((u % v : Nat) : Int) < 0)), (AV.sl 1 (ns .i64 (digs (((u % v : Nat) : Int)).natAbs)))])), (101, (AO.var 36 [(bp ((((u : Nat) : Int) / ((v : Nat) : Int)) < 0)), (AV.sl 1 (ns .i64 (digs ((((u : Nat) : Int) / ((v : Nat) : Int))).natAbs)))])), (2, (AO.var 36 [(bp (((v : Nat) : Int) < 0)), (AV.sl 1 (ns .i64 (digs (((v : Nat) : Int)).natAbs)))])), (3, (AO.var 36 [(bp (((v : Nat) : Int) < 0)), (AV.sl 1 (ns .i64 (digs (((v : Nat) : Int)).natAbs)))])), (4, (AO.var 36 [(AV.lit (.bool false)), (AV.lit (.slice none 0 0))]))] Gd.none Wx_tZ36 rfl rfl rfl rfl rfl rfl ?_
    refine o_store [(102, (AO.var 36 [(bp (((u % v : Nat) : Int) < 0)), (AV.sl 1 (ns .i64 (digs (((u % v : Nat) : Int)).natAbs)))])), (101, (AO.var 36 [(bp ((((u : Nat) : Int) / ((v : Nat) : Int)) < 0)), (AV.sl 1 (ns .i64 (digs ((((u : Nat) : Int) / ((v : Nat) : Int))).natAbs)))])), (2, (AO.var 36 [(bp (((v : Nat) : Int) < 0)), (AV.sl 1 (ns .i64 (digs (((v : Nat) : Int)).natAbs)))])), (3, (AO.var 36 [(bp (((u % v : Nat) : Int) < 0)), (AV.sl 1 (ns .i64 (digs (((u % v : Nat) : Int)).natAbs)))])), (4, (AO.var 36 [(AV.lit (.bool false)), (AV.lit (.slice none 0 0))]))] Gd.none Wx_tZ36 rfl rfl rfl rfl rfl rfl ?_
    refine aops_end ⟨by kernel_rfl, ?_⟩
    refine ⟨_, _, ?lt, ⟨v, u % v, (gcd_next hg), hv, (Nat.le_trans (digs_len_mod u hv0) hv), rfl, rfl⟩, ?wk⟩
    case lt => exact Nat.mod_lt u hv0
    case wk => exact Wk.sub (And.intro (by exact rfl) (And.intro (by exact rfl) (And.intro (by exact rfl) (trivial)))) (And.intro (by first | rfl | exact row_ns (by simp) | exact congrArg (fun x => some (AO.blk (.stringIter _ x))) (by omega)) (And.intro (by first | rfl | exact row_ns (by simp) | exact congrArg (fun x => some (AO.blk (.stringIter _ x))) (by omega)) (And.intro (by first | rfl | exact row_ns (by simp) | exact congrArg (fun x => some (AO.blk (.stringIter _ x))) (by omega)) (trivial))))
  · have hvz : v = 0 := sgn_zero.1 (Decidable.not_not.1 h1)
    refine awp_exit ?_
    refine hK2 _ ?_
    refine awp_seq fun K6 hK6 => ?_
    refine awp_region rfl ?_
    refine o_loadA [(bp (((u : Nat) : Int) < 0)), (AV.sl 1 (ns .i64 (digs (((u : Nat) : Int)).natAbs)))] Gd.none Wx_tA36 rfl rfl rfl rfl rfl ?_
    refine o_store [(2, (AO.var 36 [(bp (((u : Nat) : Int) < 0)), (AV.sl 1 (ns .i64 (digs (((u : Nat) : Int)).natAbs)))])), (3, (AO.var 36 [(bp (((v : Nat) : Int) < 0)), (AV.sl 1 (ns .i64 (digs (((v : Nat) : Int)).natAbs)))])), (4, (AO.var 36 [(bp (((u : Nat) : Int) < 0)), (AV.sl 1 (ns .i64 (digs (((u : Nat) : Int)).natAbs)))]))] Gd.none Wx_tZ36 rfl rfl rfl rfl rfl rfl ?_
    refine aops_end ?_
    refine hK6 _ ?_
    refine awp_ret ?_
    refine post_ret ⟨[(AV.agg [(bp (((u : Nat) : Int) < 0)), (AV.sl 1 (ns .i64 (digs (((u : Nat) : Int)).natAbs)))])], And.intro ⟨4, (AO.var 36 [(bp (((u : Nat) : Int) < 0)), (AV.sl 1 (ns .i64 (digs (((u : Nat) : Int)).natAbs)))]), rfl, rfl, rfl, Or.inl ⟨Wx_tA36, AV.le_refl _⟩⟩ (trivial), rfl, ?_⟩
    exact congrArg intR (congrArg Int.ofNat (gcd_end hg hvz))

end Go.Proofs.YtkngglpnejdicaaDoor
