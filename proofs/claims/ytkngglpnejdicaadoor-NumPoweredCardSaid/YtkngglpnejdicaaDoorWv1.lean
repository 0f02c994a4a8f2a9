import Derived.Test.YtkngglpnejdicaaDoorWu
import Derived.Test.YtkngglpnejdicaaDoorLp
set_option linter.unusedVariables false
set_option linter.unusedSimpArgs false
namespace Go.Proofs.YtkngglpnejdicaaDoor
open Go Go.Ab Go.Mth
theorem Wv1_tC29 : callable cx.P 29 = true := by kernel_rfl
theorem Wv1_tC49 : callable cx.P 49 = true := by kernel_rfl
theorem Wv1_tC50 : callable cx.P 50 = true := by kernel_rfl
theorem Wv1_tC51 : callable cx.P 51 = true := by kernel_rfl
theorem c_NumPowered (a : ByteArray) (m n : Int) (hsz : a.size ≤ 9223372036854775807) : ECalls cx 10 [(AV.lit (.string (a))), (AV.lit (.int .i64 (m))), (AV.lit (.int .i64 (n)))] (.lit (.bool true)) := by
  refine ecalls_of_awp Tryd.func10 (c := _) rfl (Nat.le_of_ble_eq_true rfl) ?_
  show awp cx 101 _ (postF cx Tryd.f10 _) ⟨[(0, (AV.lit (.string (a)))), (1, (AV.lit (.int .i64 (m)))), (2, (AV.lit (.int .i64 (n))))], []⟩
  refine awp_seq fun K0 hK0 => ?_
  refine awp_region rfl ?_
  refine o_assign (AV.lit (.bool false)) Gd.none rfl ?_
  refine aops_end ?_
  refine hK0 _ ?_
  refine awp_seq fun K1 hK1 => ?_
  refine awp_seq fun K2 hK2 => ?_
  refine awp_region rfl ?_
  refine o_move (AV.lit (.string (a))) Gd.none rfl ?_
  refine o_call [(AV.lit (.string (a)))] (AV.lit (.bool (okS (a)))) Gd.none Wv1_tC29 rfl (c_rValid (a) (by first | assumption | decide | omega)) ?_
  refine o_not (b := okS (a)) Gd.none rfl ?_
  refine o_move (AV.lit (.bool (!(okS (a))))) Gd.none rfl ?_
  refine o_split (b := !(okS (a))) 18 rfl (fun h1 => ?_) (fun h1 => ?_)
  · refine o_skip (b := !(okS (a))) rfl rfl h1 ?_
    refine o_skip (b := !(okS (a))) rfl rfl h1 ?_
    refine o_pickT (b := !(okS (a))) (AV.lit (.bool true)) Gd.none rfl h1 rfl ?_
    refine o_move (AV.lit (.bool true)) Gd.none rfl ?_
    refine o_skip (b := true) rfl rfl rfl ?_
    refine o_skip (b := true) rfl rfl rfl ?_
    refine o_pickT (b := true) (AV.lit (.bool true)) Gd.none rfl rfl rfl ?_
    refine o_move (AV.lit (.bool true)) Gd.none rfl ?_
    refine o_skip (b := true) rfl rfl rfl ?_
    refine o_skip (b := true) rfl rfl rfl ?_
    refine o_pickT (b := true) (AV.lit (.bool true)) Gd.none rfl rfl rfl ?_
    refine o_move (AV.lit (.bool true)) Gd.none rfl ?_
    refine o_skip (b := true) rfl rfl rfl ?_
    refine o_skip (b := true) rfl rfl rfl ?_
    refine o_skip (b := true) rfl rfl rfl ?_
    refine o_skip (b := true) rfl rfl rfl ?_
    refine o_pickT (b := true) (AV.lit (.bool true)) Gd.none rfl rfl rfl ?_
    refine aops_end ?_
    refine hK2 _ ?_
    refine awp_condB (b := true) rfl (fun _ => ?_) (fun hh => absurd (hh.symm.trans rfl) (by decide))
    refine awp_seq fun K3 hK3 => ?_
    refine awp_region rfl ?_
    refine o_call [] (AV.lit (.bool true)) Gd.none Wv1_tC49 rfl c_l1Awake ?_
    refine o_assign (AV.lit (.bool true)) Gd.none rfl ?_
    refine aops_end ?_
    refine hK3 _ ?_
    refine awp_ret ?_
    refine post_ret ⟨[(AV.lit (.bool true))], And.intro (AV.le_refl _) (trivial), rfl, ?_⟩
    first | rfl | simp [bp]
  · have ha' : okS a = true := by simpa using h1
    refine o_move (AV.lit (.int .i64 (m))) (Gd.yes rfl rfl h1) rfl ?_
    refine o_lss (a := (m)) (c := (((0 : Nat) : Int))) (Gd.yes rfl rfl h1) rfl rfl ?_
    refine o_pickF (b := !(okS (a))) (bp ((m) < (((0 : Nat) : Int)))) Gd.none rfl h1 rfl ?_
    refine o_move (bp ((m) < (((0 : Nat) : Int)))) Gd.none rfl ?_
    refine o_splitP (q := (m) < (((0 : Nat) : Int))) 22 rfl (fun h2 => ?_) (fun h2 => ?_)
    · refine o_skip (b := decide ((m) < (((0 : Nat) : Int)))) rfl rfl (decide_eq_true h2) ?_
      refine o_skip (b := decide ((m) < (((0 : Nat) : Int)))) rfl rfl (decide_eq_true h2) ?_
      refine o_pickT (b := decide ((m) < (((0 : Nat) : Int)))) (AV.lit (.bool true)) Gd.none rfl (decide_eq_true h2) rfl ?_
      refine o_move (AV.lit (.bool true)) Gd.none rfl ?_
      refine o_skip (b := true) rfl rfl rfl ?_
      refine o_skip (b := true) rfl rfl rfl ?_
      refine o_pickT (b := true) (AV.lit (.bool true)) Gd.none rfl rfl rfl ?_
      refine o_move (AV.lit (.bool true)) Gd.none rfl ?_
      refine o_skip (b := true) rfl rfl rfl ?_
      refine o_skip (b := true) rfl rfl rfl ?_
      refine o_skip (b := true) rfl rfl rfl ?_
      refine o_skip (b := true) rfl rfl rfl ?_
      refine o_pickT (b := true) (AV.lit (.bool true)) Gd.none rfl rfl rfl ?_
      refine aops_end ?_
      refine hK2 _ ?_
      refine awp_condB (b := true) rfl (fun _ => ?_) (fun hh => absurd (hh.symm.trans rfl) (by decide))
      refine awp_seq fun K4 hK4 => ?_
      refine awp_region rfl ?_
      refine o_call [] (AV.lit (.bool true)) Gd.none Wv1_tC49 rfl c_l1Awake ?_
      refine o_assign (AV.lit (.bool true)) Gd.none rfl ?_
      refine aops_end ?_
      refine hK4 _ ?_
      refine awp_ret ?_
      refine post_ret ⟨[(AV.lit (.bool true))], And.intro (AV.le_refl _) (trivial), rfl, ?_⟩
      first | rfl | simp [bp]
    · refine o_move (AV.lit (.int .i64 (n))) (Gd.yes rfl rfl (decide_eq_false h2)) rfl ?_
      refine o_lss (a := (n)) (c := (((0 : Nat) : Int))) (Gd.yes rfl rfl (decide_eq_false h2)) rfl rfl ?_
      refine o_pickF (b := decide ((m) < (((0 : Nat) : Int)))) (bp ((n) < (((0 : Nat) : Int)))) Gd.none rfl (decide_eq_false h2) rfl ?_
      refine o_move (bp ((n) < (((0 : Nat) : Int)))) Gd.none rfl ?_
      refine o_splitP (q := (n) < (((0 : Nat) : Int))) 26 rfl (fun h3 => ?_) (fun h3 => ?_)
      · refine o_skip (b := decide ((n) < (((0 : Nat) : Int)))) rfl rfl (decide_eq_true h3) ?_
        refine o_skip (b := decide ((n) < (((0 : Nat) : Int)))) rfl rfl (decide_eq_true h3) ?_
        refine o_pickT (b := decide ((n) < (((0 : Nat) : Int)))) (AV.lit (.bool true)) Gd.none rfl (decide_eq_true h3) rfl ?_
        refine o_move (AV.lit (.bool true)) Gd.none rfl ?_
        refine o_skip (b := true) rfl rfl rfl ?_
        refine o_skip (b := true) rfl rfl rfl ?_
        refine o_skip (b := true) rfl rfl rfl ?_
        refine o_skip (b := true) rfl rfl rfl ?_
        refine o_pickT (b := true) (AV.lit (.bool true)) Gd.none rfl rfl rfl ?_
        refine aops_end ?_
        refine hK2 _ ?_
        refine awp_condB (b := true) rfl (fun _ => ?_) (fun hh => absurd (hh.symm.trans rfl) (by decide))
        refine awp_seq fun K5 hK5 => ?_
        refine awp_region rfl ?_
        refine o_call [] (AV.lit (.bool true)) Gd.none Wv1_tC49 rfl c_l1Awake ?_
        refine o_assign (AV.lit (.bool true)) Gd.none rfl ?_
        refine aops_end ?_
        refine hK5 _ ?_
        refine awp_ret ?_
        refine post_ret ⟨[(AV.lit (.bool true))], And.intro (AV.le_refl _) (trivial), rfl, ?_⟩
        first | rfl | simp [bp]
      · refine o_move (AV.lit (.int .i64 (m))) (Gd.yes rfl rfl (decide_eq_false h3)) rfl ?_
        refine o_gtr (a := (m)) (c := (((10000 : Nat) : Int))) (Gd.yes rfl rfl (decide_eq_false h3)) rfl rfl ?_
        refine o_pickF (b := decide ((n) < (((0 : Nat) : Int)))) (bp ((((10000 : Nat) : Int)) < (m))) Gd.none rfl (decide_eq_false h3) rfl ?_
        refine o_move (bp ((((10000 : Nat) : Int)) < (m))) Gd.none rfl ?_
        refine o_splitP (q := (((10000 : Nat) : Int)) < (m)) 30 rfl (fun h4 => ?_) (fun h4 => ?_)
        · refine o_skip (b := decide ((((10000 : Nat) : Int)) < (m))) rfl rfl (decide_eq_true h4) ?_
          refine o_skip (b := decide ((((10000 : Nat) : Int)) < (m))) rfl rfl (decide_eq_true h4) ?_
          refine o_skip (b := decide ((((10000 : Nat) : Int)) < (m))) rfl rfl (decide_eq_true h4) ?_
          refine o_skip (b := decide ((((10000 : Nat) : Int)) < (m))) rfl rfl (decide_eq_true h4) ?_
          refine o_pickT (b := decide ((((10000 : Nat) : Int)) < (m))) (AV.lit (.bool true)) Gd.none rfl (decide_eq_true h4) rfl ?_
          refine aops_end ?_
          refine hK2 _ ?_
          refine awp_condB (b := true) rfl (fun _ => ?_) (fun hh => absurd (hh.symm.trans rfl) (by decide))
          refine awp_seq fun K6 hK6 => ?_
          refine awp_region rfl ?_
          refine o_call [] (AV.lit (.bool true)) Gd.none Wv1_tC49 rfl c_l1Awake ?_
          refine o_assign (AV.lit (.bool true)) Gd.none rfl ?_
          refine aops_end ?_
          refine hK6 _ ?_
          refine awp_ret ?_
          refine post_ret ⟨[(AV.lit (.bool true))], And.intro (AV.le_refl _) (trivial), rfl, ?_⟩
          first | rfl | simp [bp]
        · refine o_move (AV.lit (.int .i64 (n))) (Gd.yes rfl rfl (decide_eq_false h4)) rfl ?_
          refine o_move (AV.lit (.int .i64 (m))) (Gd.yes rfl rfl (decide_eq_false h4)) rfl ?_
          refine o_sub (a := (((10000 : Nat) : Int))) (c := (m)) (Gd.yes rfl rfl (decide_eq_false h4)) rfl rfl (by exact wrap64 (by omega) (by omega)) ?_
          refine o_gtr (a := (n)) (c := ((((10000 : Nat) : Int)) - (m))) (Gd.yes rfl rfl (decide_eq_false h4)) rfl rfl ?_
          refine o_pickF (b := decide ((((10000 : Nat) : Int)) < (m))) (bp (((((10000 : Nat) : Int)) - (m)) < (n))) Gd.none rfl (decide_eq_false h4) rfl ?_
          refine aops_end ?_
          refine hK2 _ ?_
          refine awp_condQ (q := ((((10000 : Nat) : Int)) - (m)) < (n)) rfl (fun h5 => ?_) (fun h5 => ?_)
          · refine awp_seq fun K7 hK7 => ?_
            refine awp_region rfl ?_
            refine o_call [] (AV.lit (.bool true)) Gd.none Wv1_tC49 rfl c_l1Awake ?_
            refine o_assign (AV.lit (.bool true)) Gd.none rfl ?_
            refine aops_end ?_
            refine hK7 _ ?_
            refine awp_ret ?_
            refine post_ret ⟨[(AV.lit (.bool true))], And.intro (AV.le_refl _) (trivial), rfl, ?_⟩
            first | rfl | simp [bp]
          · obtain ⟨p1, p2, p3, p4⟩ := powered (m := m) (n := n) ha' (by omega) (by omega) (by omega)
            have z1 := pow_sz a m
            have z2 := pow_sz a n
            refine awp_skip ?_
            refine hK1 _ ?_
            refine awp_seq fun K8 hK8 => ?_
            refine awp_region rfl ?_
            refine o_move (AV.lit (.string (a))) Gd.none rfl ?_
            refine o_move (AV.lit (.int .i64 (m))) Gd.none rfl ?_
            refine o_call [(AV.lit (.string (a))), (AV.lit (.int .i64 (m)))] (AV.tup [(AV.lit (.string (powS (a) (m)))), (nm .i64 (powE (a) (m)))]) Gd.none Wv1_tC50 rfl (c_nPower (a) (m) (by first | assumption | decide | omega)) ?_
            refine o_move (AV.tup [(AV.lit (.string (powS (a) (m)))), (nm .i64 (powE (a) (m)))]) Gd.none rfl ?_
            refine o_extract (AV.lit (.string (powS (a) (m)))) Gd.none rfl rfl ?_
            refine o_extract (nm .i64 (powE (a) (m))) Gd.none rfl rfl ?_
            refine o_assign (AV.lit (.string (powS (a) (m)))) Gd.none rfl ?_
            refine o_assign (nm .i64 (powE (a) (m))) Gd.none rfl ?_
            refine aops_end ?_
            refine hK8 _ ?_
            refine awp_seq fun K9 hK9 => ?_
            refine awp_region rfl ?_
            refine o_move (AV.lit (.string (a))) Gd.none rfl ?_
            refine o_move (AV.lit (.int .i64 (n))) Gd.none rfl ?_
            refine o_call [(AV.lit (.string (a))), (AV.lit (.int .i64 (n)))] (AV.tup [(AV.lit (.string (powS (a) (n)))), (nm .i64 (powE (a) (n)))]) Gd.none Wv1_tC50 rfl (c_nPower (a) (n) (by first | assumption | decide | omega)) ?_
            refine o_move (AV.tup [(AV.lit (.string (powS (a) (n)))), (nm .i64 (powE (a) (n)))]) Gd.none rfl ?_
            refine o_extract (AV.lit (.string (powS (a) (n)))) Gd.none rfl rfl ?_
            refine o_extract (nm .i64 (powE (a) (n))) Gd.none rfl rfl ?_
            refine o_assign (AV.lit (.string (powS (a) (n)))) Gd.none rfl ?_
            refine o_assign (nm .i64 (powE (a) (n))) Gd.none rfl ?_
            refine aops_end ?_
            refine hK9 _ ?_
            refine awp_seq fun K10 hK10 => ?_
            refine awp_region rfl ?_
            refine o_move (AV.lit (.string (a))) Gd.none rfl ?_
            refine o_move (AV.lit (.int .i64 (m))) Gd.none rfl ?_
            refine o_move (AV.lit (.int .i64 (n))) Gd.none rfl ?_
            refine o_add (a := (m)) (c := (n)) Gd.none rfl rfl (by exact wrap64 (by omega) (by omega)) ?_
            refine o_call [(AV.lit (.string (a))), (AV.lit (.int .i64 ((m) + (n))))] (AV.tup [(AV.lit (.string (powS (a) ((m) + (n))))), (nm .i64 (powE (a) ((m) + (n))))]) Gd.none Wv1_tC50 rfl (c_nPower (a) ((m) + (n)) (by first | assumption | decide | omega)) ?_
            refine o_move (AV.tup [(AV.lit (.string (powS (a) ((m) + (n))))), (nm .i64 (powE (a) ((m) + (n))))]) Gd.none rfl ?_
            refine o_extract (AV.lit (.string (powS (a) ((m) + (n))))) Gd.none rfl rfl ?_
            refine o_extract (nm .i64 (powE (a) ((m) + (n)))) Gd.none rfl rfl ?_
            refine o_assign (AV.lit (.string (powS (a) ((m) + (n))))) Gd.none rfl ?_
            refine o_assign (nm .i64 (powE (a) ((m) + (n)))) Gd.none rfl ?_
            refine aops_end ?_
            refine hK10 _ ?_
            refine awp_seq fun K11 hK11 => ?_
            refine awp_seq fun K12 hK12 => ?_
            refine awp_region rfl ?_
            refine o_move (nm .i64 (powE (a) (m))) Gd.none rfl ?_
            refine n_neq (powE (a) (m)) (0) Gd.none rfl rfl ?_
            refine o_move (bp ((powE (a) (m)) ≠ (0))) Gd.none rfl ?_
            refine o_splitP (q := (powE (a) (m)) ≠ (0)) 59 rfl (fun h6 => ?_) (fun h6 => ?_)
            · refine o_skip (b := decide ((powE (a) (m)) ≠ (0))) rfl rfl (decide_eq_true h6) ?_
              refine o_skip (b := decide ((powE (a) (m)) ≠ (0))) rfl rfl (decide_eq_true h6) ?_
              refine o_pickT (b := decide ((powE (a) (m)) ≠ (0))) (AV.lit (.bool true)) Gd.none rfl (decide_eq_true h6) rfl ?_
              refine aops_end ?_
              refine hK12 _ ?_
              refine awp_condB (b := true) rfl (fun _ => ?_) (fun hh => absurd (hh.symm.trans rfl) (by decide))
              refine awp_seq fun K13 hK13 => ?_
              refine awp_region rfl ?_
              refine o_move (nm .i64 (powE (a) (m))) Gd.none rfl ?_
              refine n_eql (powE (a) (m)) (0) Gd.none rfl rfl ?_
              refine o_move (bp ((powE (a) (m)) = (0))) Gd.none rfl ?_
              refine o_move (nm .i64 (powE (a) (m))) (Gd.yes rfl rfl (decide_eq_false h6)) rfl ?_
              refine n_eql (powE (a) (m)) (3) (Gd.yes rfl rfl (decide_eq_false h6)) rfl rfl ?_
              refine o_pickF (b := decide ((powE (a) (m)) = (0))) (bp ((powE (a) (m)) = (3))) Gd.none rfl (decide_eq_false h6) rfl ?_
              refine o_move (bp ((powE (a) (m)) = (3))) Gd.none rfl ?_
              refine o_splitP (q := (powE (a) (m)) = (3)) 69 rfl (fun h7 => ?_) (fun h7 => ?_)
              · refine o_move (nm .i64 (powE (a) (n))) (Gd.yes rfl rfl (decide_eq_true h7)) rfl ?_
                refine n_eql (powE (a) (n)) (0) (Gd.yes rfl rfl (decide_eq_true h7)) rfl rfl ?_
                refine o_move (bp ((powE (a) (n)) = (0))) (Gd.yes rfl rfl (decide_eq_true h7)) rfl ?_
                refine o_splitP (q := (powE (a) (n)) = (0)) 72 rfl (fun h8 => ?_) (fun h8 => ?_)
                · refine o_skip (b := decide ((powE (a) (n)) = (0))) rfl rfl (decide_eq_true h8) ?_
                  refine o_skip (b := decide ((powE (a) (n)) = (0))) rfl rfl (decide_eq_true h8) ?_
                  refine o_pickT (b := decide ((powE (a) (n)) = (0))) (AV.lit (.bool true)) (Gd.yes rfl rfl (decide_eq_true h7)) rfl (decide_eq_true h8) rfl ?_
                  refine o_pickT (b := decide ((powE (a) (m)) = (3))) (AV.lit (.bool true)) Gd.none rfl (decide_eq_true h7) rfl ?_
                  refine o_move (AV.lit (.bool true)) Gd.none rfl ?_
                  refine o_move (nm .i64 (powE (a) ((m) + (n)))) (Gd.yes rfl rfl rfl) rfl ?_
                  refine n_eql (powE (a) ((m) + (n))) (3) (Gd.yes rfl rfl rfl) rfl rfl ?_
                  refine o_pickT (b := true) (bp ((powE (a) ((m) + (n))) = (3))) Gd.none rfl rfl rfl ?_
                  refine o_move (bp ((powE (a) ((m) + (n))) = (3))) Gd.none rfl ?_
                  refine o_splitP (q := (powE (a) ((m) + (n))) = (3)) 81 rfl (fun h9 => ?_) (fun h9 => ?_)
                  · refine o_call [] (AV.lit (.bool true)) (Gd.yes rfl rfl (decide_eq_true h9)) Wv1_tC49 rfl c_l1Awake ?_
                    refine o_pickT (b := decide ((powE (a) ((m) + (n))) = (3))) (AV.lit (.bool true)) Gd.none rfl (decide_eq_true h9) rfl ?_
                    refine o_assign (AV.lit (.bool true)) Gd.none rfl ?_
                    refine aops_end ?_
                    refine hK13 _ ?_
                    refine awp_ret ?_
                    refine post_ret ⟨[(AV.lit (.bool true))], And.intro (AV.le_refl _) (trivial), rfl, ?_⟩
                    first | rfl | simp [bp]
                  · refine o_skip (b := decide ((powE (a) ((m) + (n))) = (3))) rfl rfl (decide_eq_false h9) ?_
                    refine o_pickF (b := decide ((powE (a) ((m) + (n))) = (3))) (AV.lit (.bool false)) Gd.none rfl (decide_eq_false h9) rfl ?_
                    refine o_assign (AV.lit (.bool false)) Gd.none rfl ?_
                    refine aops_end ?_
                    refine hK13 _ ?_
                    refine awp_ret ?_
                    refine post_ret ⟨[(AV.lit (.bool false))], And.intro (AV.le_refl _) (trivial), rfl, ?_⟩
                    exfalso
                    first | (clear p4; omega) | (have q := p4 (by omega) (by omega); first | exact absurd (str_eq.2 q.1) (by assumption) | exact absurd q.2 (by assumption))
                · refine o_move (nm .i64 (powE (a) (n))) (Gd.yes rfl rfl (decide_eq_false h8)) rfl ?_
                  refine n_eql (powE (a) (n)) (3) (Gd.yes rfl rfl (decide_eq_false h8)) rfl rfl ?_
                  refine o_pickF (b := decide ((powE (a) (n)) = (0))) (bp ((powE (a) (n)) = (3))) (Gd.yes rfl rfl (decide_eq_true h7)) rfl (decide_eq_false h8) rfl ?_
                  refine o_pickT (b := decide ((powE (a) (m)) = (3))) (bp ((powE (a) (n)) = (3))) Gd.none rfl (decide_eq_true h7) rfl ?_
                  refine o_move (bp ((powE (a) (n)) = (3))) Gd.none rfl ?_
                  refine o_splitP (q := (powE (a) (n)) = (3)) 77 rfl (fun h10 => ?_) (fun h10 => ?_)
                  · refine o_move (nm .i64 (powE (a) ((m) + (n)))) (Gd.yes rfl rfl (decide_eq_true h10)) rfl ?_
                    refine n_eql (powE (a) ((m) + (n))) (3) (Gd.yes rfl rfl (decide_eq_true h10)) rfl rfl ?_
                    refine o_pickT (b := decide ((powE (a) (n)) = (3))) (bp ((powE (a) ((m) + (n))) = (3))) Gd.none rfl (decide_eq_true h10) rfl ?_
                    refine o_move (bp ((powE (a) ((m) + (n))) = (3))) Gd.none rfl ?_
                    refine o_splitP (q := (powE (a) ((m) + (n))) = (3)) 81 rfl (fun h11 => ?_) (fun h11 => ?_)
                    · refine o_call [] (AV.lit (.bool true)) (Gd.yes rfl rfl (decide_eq_true h11)) Wv1_tC49 rfl c_l1Awake ?_
                      refine o_pickT (b := decide ((powE (a) ((m) + (n))) = (3))) (AV.lit (.bool true)) Gd.none rfl (decide_eq_true h11) rfl ?_
                      refine o_assign (AV.lit (.bool true)) Gd.none rfl ?_
                      refine aops_end ?_
                      refine hK13 _ ?_
                      refine awp_ret ?_
                      refine post_ret ⟨[(AV.lit (.bool true))], And.intro (AV.le_refl _) (trivial), rfl, ?_⟩
                      first | rfl | simp [bp]
                    · refine o_skip (b := decide ((powE (a) ((m) + (n))) = (3))) rfl rfl (decide_eq_false h11) ?_
                      refine o_pickF (b := decide ((powE (a) ((m) + (n))) = (3))) (AV.lit (.bool false)) Gd.none rfl (decide_eq_false h11) rfl ?_
                      refine o_assign (AV.lit (.bool false)) Gd.none rfl ?_
                      refine aops_end ?_
                      refine hK13 _ ?_
                      refine awp_ret ?_
                      refine post_ret ⟨[(AV.lit (.bool false))], And.intro (AV.le_refl _) (trivial), rfl, ?_⟩
                      exfalso
                      first | (clear p4; omega) | (have q := p4 (by omega) (by omega); first | exact absurd (str_eq.2 q.1) (by assumption) | exact absurd q.2 (by assumption))
                  · refine o_skip (b := decide ((powE (a) (n)) = (3))) rfl rfl (decide_eq_false h10) ?_
                    refine o_skip (b := decide ((powE (a) (n)) = (3))) rfl rfl (decide_eq_false h10) ?_
                    refine o_pickF (b := decide ((powE (a) (n)) = (3))) (AV.lit (.bool false)) Gd.none rfl (decide_eq_false h10) rfl ?_
                    refine o_move (AV.lit (.bool false)) Gd.none rfl ?_
                    refine o_skip (b := false) rfl rfl rfl ?_
                    refine o_pickF (b := false) (AV.lit (.bool false)) Gd.none rfl rfl rfl ?_
                    refine o_assign (AV.lit (.bool false)) Gd.none rfl ?_
                    refine aops_end ?_
                    refine hK13 _ ?_
                    refine awp_ret ?_
                    refine post_ret ⟨[(AV.lit (.bool false))], And.intro (AV.le_refl _) (trivial), rfl, ?_⟩
                    exfalso
                    first | (clear p4; omega) | (have q := p4 (by omega) (by omega); first | exact absurd (str_eq.2 q.1) (by assumption) | exact absurd q.2 (by assumption))
              · refine o_skip (b := decide ((powE (a) (m)) = (3))) rfl rfl (decide_eq_false h7) ?_
                refine o_skip (b := decide ((powE (a) (m)) = (3))) rfl rfl (decide_eq_false h7) ?_
                refine o_skip (b := decide ((powE (a) (m)) = (3))) rfl rfl (decide_eq_false h7) ?_
                refine o_skipU rfl rfl ?_
                refine o_skipU rfl rfl ?_
                refine o_skip (b := decide ((powE (a) (m)) = (3))) rfl rfl (decide_eq_false h7) ?_
                refine o_pickF (b := decide ((powE (a) (m)) = (3))) (AV.lit (.bool false)) Gd.none rfl (decide_eq_false h7) rfl ?_
                refine o_move (AV.lit (.bool false)) Gd.none rfl ?_
                refine o_skip (b := false) rfl rfl rfl ?_
                refine o_skip (b := false) rfl rfl rfl ?_
                refine o_pickF (b := false) (AV.lit (.bool false)) Gd.none rfl rfl rfl ?_
                refine o_move (AV.lit (.bool false)) Gd.none rfl ?_
                refine o_skip (b := false) rfl rfl rfl ?_
                refine o_pickF (b := false) (AV.lit (.bool false)) Gd.none rfl rfl rfl ?_
                refine o_assign (AV.lit (.bool false)) Gd.none rfl ?_
                refine aops_end ?_
                refine hK13 _ ?_
                refine awp_ret ?_
                refine post_ret ⟨[(AV.lit (.bool false))], And.intro (AV.le_refl _) (trivial), rfl, ?_⟩
                exfalso
                first | (clear p4; omega) | (have q := p4 (by omega) (by omega); first | exact absurd (str_eq.2 q.1) (by assumption) | exact absurd q.2 (by assumption))
            · refine o_move (nm .i64 (powE (a) (n))) (Gd.yes rfl rfl (decide_eq_false h6)) rfl ?_
              refine n_neq (powE (a) (n)) (0) (Gd.yes rfl rfl (decide_eq_false h6)) rfl rfl ?_
              refine o_pickF (b := decide ((powE (a) (m)) ≠ (0))) (bp ((powE (a) (n)) ≠ (0))) Gd.none rfl (decide_eq_false h6) rfl ?_
              refine aops_end ?_
              refine hK12 _ ?_
              refine awp_condQ (q := (powE (a) (n)) ≠ (0)) rfl (fun h12 => ?_) (fun h12 => ?_)
              · refine awp_seq fun K14 hK14 => ?_
                refine awp_region rfl ?_
                refine o_move (nm .i64 (powE (a) (m))) Gd.none rfl ?_
                refine n_eql (powE (a) (m)) (0) Gd.none rfl rfl ?_
                refine o_move (bp ((powE (a) (m)) = (0))) Gd.none rfl ?_
                refine o_skip (b := decide ((powE (a) (m)) = (0))) rfl rfl (decide_eq_true (Decidable.not_not.1 h6)) ?_
                refine o_skip (b := decide ((powE (a) (m)) = (0))) rfl rfl (decide_eq_true (Decidable.not_not.1 h6)) ?_
                refine o_pickT (b := decide ((powE (a) (m)) = (0))) (AV.lit (.bool true)) Gd.none rfl (decide_eq_true (Decidable.not_not.1 h6)) rfl ?_
                refine o_move (AV.lit (.bool true)) Gd.none rfl ?_
                refine o_move (nm .i64 (powE (a) (n))) (Gd.yes rfl rfl rfl) rfl ?_
                refine n_eql (powE (a) (n)) (0) (Gd.yes rfl rfl rfl) rfl rfl ?_
                refine o_move (bp ((powE (a) (n)) = (0))) (Gd.yes rfl rfl rfl) rfl ?_
                refine o_move (nm .i64 (powE (a) (n))) (Gd.yes rfl rfl (decide_eq_false h12)) rfl ?_
                refine n_eql (powE (a) (n)) (3) (Gd.yes rfl rfl (decide_eq_false h12)) rfl rfl ?_
                refine o_pickF (b := decide ((powE (a) (n)) = (0))) (bp ((powE (a) (n)) = (3))) (Gd.yes rfl rfl rfl) rfl (decide_eq_false h12) rfl ?_
                refine o_pickT (b := true) (bp ((powE (a) (n)) = (3))) Gd.none rfl rfl rfl ?_
                refine o_move (bp ((powE (a) (n)) = (3))) Gd.none rfl ?_
                refine o_splitP (q := (powE (a) (n)) = (3)) 77 rfl (fun h13 => ?_) (fun h13 => ?_)
                · refine o_move (nm .i64 (powE (a) ((m) + (n)))) (Gd.yes rfl rfl (decide_eq_true h13)) rfl ?_
                  refine n_eql (powE (a) ((m) + (n))) (3) (Gd.yes rfl rfl (decide_eq_true h13)) rfl rfl ?_
                  refine o_pickT (b := decide ((powE (a) (n)) = (3))) (bp ((powE (a) ((m) + (n))) = (3))) Gd.none rfl (decide_eq_true h13) rfl ?_
                  refine o_move (bp ((powE (a) ((m) + (n))) = (3))) Gd.none rfl ?_
                  refine o_splitP (q := (powE (a) ((m) + (n))) = (3)) 81 rfl (fun h14 => ?_) (fun h14 => ?_)
                  · refine o_call [] (AV.lit (.bool true)) (Gd.yes rfl rfl (decide_eq_true h14)) Wv1_tC49 rfl c_l1Awake ?_
                    refine o_pickT (b := decide ((powE (a) ((m) + (n))) = (3))) (AV.lit (.bool true)) Gd.none rfl (decide_eq_true h14) rfl ?_
                    refine o_assign (AV.lit (.bool true)) Gd.none rfl ?_
                    refine aops_end ?_
                    refine hK14 _ ?_
                    refine awp_ret ?_
                    refine post_ret ⟨[(AV.lit (.bool true))], And.intro (AV.le_refl _) (trivial), rfl, ?_⟩
                    first | rfl | simp [bp]
                  · refine o_skip (b := decide ((powE (a) ((m) + (n))) = (3))) rfl rfl (decide_eq_false h14) ?_
                    refine o_pickF (b := decide ((powE (a) ((m) + (n))) = (3))) (AV.lit (.bool false)) Gd.none rfl (decide_eq_false h14) rfl ?_
                    refine o_assign (AV.lit (.bool false)) Gd.none rfl ?_
                    refine aops_end ?_
                    refine hK14 _ ?_
                    refine awp_ret ?_
                    refine post_ret ⟨[(AV.lit (.bool false))], And.intro (AV.le_refl _) (trivial), rfl, ?_⟩
                    exfalso
                    first | (clear p4; omega) | (have q := p4 (by omega) (by omega); first | exact absurd (str_eq.2 q.1) (by assumption) | exact absurd q.2 (by assumption))
                · refine o_skip (b := decide ((powE (a) (n)) = (3))) rfl rfl (decide_eq_false h13) ?_
                  refine o_skip (b := decide ((powE (a) (n)) = (3))) rfl rfl (decide_eq_false h13) ?_
                  refine o_pickF (b := decide ((powE (a) (n)) = (3))) (AV.lit (.bool false)) Gd.none rfl (decide_eq_false h13) rfl ?_
                  refine o_move (AV.lit (.bool false)) Gd.none rfl ?_
                  refine o_skip (b := false) rfl rfl rfl ?_
                  refine o_pickF (b := false) (AV.lit (.bool false)) Gd.none rfl rfl rfl ?_
                  refine o_assign (AV.lit (.bool false)) Gd.none rfl ?_
                  refine aops_end ?_
                  refine hK14 _ ?_
                  refine awp_ret ?_
                  refine post_ret ⟨[(AV.lit (.bool false))], And.intro (AV.le_refl _) (trivial), rfl, ?_⟩
                  exfalso
                  first | (clear p4; omega) | (have q := p4 (by omega) (by omega); first | exact absurd (str_eq.2 q.1) (by assumption) | exact absurd q.2 (by assumption))
              · refine awp_skip ?_
                refine hK11 _ ?_
                refine awp_seq fun K15 hK15 => ?_
                refine awp_region rfl ?_
                refine o_move (AV.lit (.string (powS (a) (m)))) Gd.none rfl ?_
                refine o_move (AV.lit (.string (powS (a) (n)))) Gd.none rfl ?_
                refine o_call [(AV.lit (.string (powS (a) (m)))), (AV.lit (.string (powS (a) (n))))] (AV.tup [(AV.lit (.string ((if okS (powS (a) (m)) && okS (powS (a) (n)) then (toldS (numS (powS (a) (m)) * numS (powS (a) (n)))) else (({ data := #[] } : ByteArray)))))), (nm .i64 ((if okS (powS (a) (m)) && okS (powS (a) (n)) then (toldE (numS (powS (a) (m)) * numS (powS (a) (n)))) else (1))))]) Gd.none Wv1_tC51 rfl (c_nMul (powS (a) (m)) (powS (a) (n)) (by first | assumption | decide | omega) (by first | assumption | decide | omega)) ?_
                refine o_move (AV.tup [(AV.lit (.string ((if okS (powS (a) (m)) && okS (powS (a) (n)) then (toldS (numS (powS (a) (m)) * numS (powS (a) (n)))) else (({ data := #[] } : ByteArray)))))), (nm .i64 ((if okS (powS (a) (m)) && okS (powS (a) (n)) then (toldE (numS (powS (a) (m)) * numS (powS (a) (n)))) else (1))))]) Gd.none rfl ?_
                refine o_extract (AV.lit (.string ((if okS (powS (a) (m)) && okS (powS (a) (n)) then (toldS (numS (powS (a) (m)) * numS (powS (a) (n)))) else (({ data := #[] } : ByteArray)))))) Gd.none rfl rfl ?_
                refine o_extract (nm .i64 ((if okS (powS (a) (m)) && okS (powS (a) (n)) then (toldE (numS (powS (a) (m)) * numS (powS (a) (n)))) else (1)))) Gd.none rfl rfl ?_
                refine o_assign (AV.lit (.string ((if okS (powS (a) (m)) && okS (powS (a) (n)) then (toldS (numS (powS (a) (m)) * numS (powS (a) (n)))) else (({ data := #[] } : ByteArray)))))) Gd.none rfl ?_
                refine o_assign (nm .i64 ((if okS (powS (a) (m)) && okS (powS (a) (n)) then (toldE (numS (powS (a) (m)) * numS (powS (a) (n)))) else (1)))) Gd.none rfl ?_
                refine aops_end ?_
                refine hK15 _ ?_
                refine awp_seq fun K16 hK16 => ?_
                refine awp_region rfl ?_
                refine o_move (AV.lit (.string ((if okS (powS (a) (m)) && okS (powS (a) (n)) then (toldS (numS (powS (a) (m)) * numS (powS (a) (n)))) else (({ data := #[] } : ByteArray)))))) Gd.none rfl ?_
                refine o_move (AV.lit (.string (powS (a) ((m) + (n))))) Gd.none rfl ?_
                refine o_eqlS (a := ((if okS (powS (a) (m)) && okS (powS (a) (n)) then (toldS (numS (powS (a) (m)) * numS (powS (a) (n)))) else (({ data := #[] } : ByteArray))))) (c := (powS (a) ((m) + (n)))) Gd.none rfl rfl ?_
                refine o_move (bp (((if okS (powS (a) (m)) && okS (powS (a) (n)) then (toldS (numS (powS (a) (m)) * numS (powS (a) (n)))) else (({ data := #[] } : ByteArray)))).toList = (powS (a) ((m) + (n))).toList)) Gd.none rfl ?_
                refine o_splitP (q := ((if okS (powS (a) (m)) && okS (powS (a) (n)) then (toldS (numS (powS (a) (m)) * numS (powS (a) (n)))) else (({ data := #[] } : ByteArray)))).toList = (powS (a) ((m) + (n))).toList) 93 rfl (fun h15 => ?_) (fun h15 => ?_)
                · refine o_move (nm .i64 ((if okS (powS (a) (m)) && okS (powS (a) (n)) then (toldE (numS (powS (a) (m)) * numS (powS (a) (n)))) else (1)))) (Gd.yes rfl rfl (decide_eq_true h15)) rfl ?_
                  refine o_move (nm .i64 (powE (a) ((m) + (n)))) (Gd.yes rfl rfl (decide_eq_true h15)) rfl ?_
                  refine n_eql ((if okS (powS (a) (m)) && okS (powS (a) (n)) then (toldE (numS (powS (a) (m)) * numS (powS (a) (n)))) else (1))) (powE (a) ((m) + (n))) (Gd.yes rfl rfl (decide_eq_true h15)) rfl rfl ?_
                  refine o_pickT (b := decide (((if okS (powS (a) (m)) && okS (powS (a) (n)) then (toldS (numS (powS (a) (m)) * numS (powS (a) (n)))) else (({ data := #[] } : ByteArray)))).toList = (powS (a) ((m) + (n))).toList)) (bp (((if okS (powS (a) (m)) && okS (powS (a) (n)) then (toldE (numS (powS (a) (m)) * numS (powS (a) (n)))) else (1))) = (powE (a) ((m) + (n))))) Gd.none rfl (decide_eq_true h15) rfl ?_
                  refine o_move (bp (((if okS (powS (a) (m)) && okS (powS (a) (n)) then (toldE (numS (powS (a) (m)) * numS (powS (a) (n)))) else (1))) = (powE (a) ((m) + (n))))) Gd.none rfl ?_
                  refine o_splitP (q := ((if okS (powS (a) (m)) && okS (powS (a) (n)) then (toldE (numS (powS (a) (m)) * numS (powS (a) (n)))) else (1))) = (powE (a) ((m) + (n)))) 98 rfl (fun h16 => ?_) (fun h16 => ?_)
                  · refine o_call [] (AV.lit (.bool true)) (Gd.yes rfl rfl (decide_eq_true h16)) Wv1_tC49 rfl c_l1Awake ?_
                    refine o_pickT (b := decide (((if okS (powS (a) (m)) && okS (powS (a) (n)) then (toldE (numS (powS (a) (m)) * numS (powS (a) (n)))) else (1))) = (powE (a) ((m) + (n))))) (AV.lit (.bool true)) Gd.none rfl (decide_eq_true h16) rfl ?_
                    refine o_assign (AV.lit (.bool true)) Gd.none rfl ?_
                    refine aops_end ?_
                    refine hK16 _ ?_
                    refine awp_ret ?_
                    refine post_ret ⟨[(AV.lit (.bool true))], And.intro (AV.le_refl _) (trivial), rfl, ?_⟩
                    first | rfl | simp [bp]
                  · refine o_skip (b := decide (((if okS (powS (a) (m)) && okS (powS (a) (n)) then (toldE (numS (powS (a) (m)) * numS (powS (a) (n)))) else (1))) = (powE (a) ((m) + (n))))) rfl rfl (decide_eq_false h16) ?_
                    refine o_pickF (b := decide (((if okS (powS (a) (m)) && okS (powS (a) (n)) then (toldE (numS (powS (a) (m)) * numS (powS (a) (n)))) else (1))) = (powE (a) ((m) + (n))))) (AV.lit (.bool false)) Gd.none rfl (decide_eq_false h16) rfl ?_
                    refine o_assign (AV.lit (.bool false)) Gd.none rfl ?_
                    refine aops_end ?_
                    refine hK16 _ ?_
                    refine awp_ret ?_
                    refine post_ret ⟨[(AV.lit (.bool false))], And.intro (AV.le_refl _) (trivial), rfl, ?_⟩
                    exfalso
                    first | (clear p4; omega) | (have q := p4 (by omega) (by omega); first | exact absurd (str_eq.2 q.1) (by assumption) | exact absurd q.2 (by assumption))
                · refine o_skip (b := decide (((if okS (powS (a) (m)) && okS (powS (a) (n)) then (toldS (numS (powS (a) (m)) * numS (powS (a) (n)))) else (({ data := #[] } : ByteArray)))).toList = (powS (a) ((m) + (n))).toList)) rfl rfl (decide_eq_false h15) ?_
                  refine o_skip (b := decide (((if okS (powS (a) (m)) && okS (powS (a) (n)) then (toldS (numS (powS (a) (m)) * numS (powS (a) (n)))) else (({ data := #[] } : ByteArray)))).toList = (powS (a) ((m) + (n))).toList)) rfl rfl (decide_eq_false h15) ?_
                  refine o_skip (b := decide (((if okS (powS (a) (m)) && okS (powS (a) (n)) then (toldS (numS (powS (a) (m)) * numS (powS (a) (n)))) else (({ data := #[] } : ByteArray)))).toList = (powS (a) ((m) + (n))).toList)) rfl rfl (decide_eq_false h15) ?_
                  refine o_pickF (b := decide (((if okS (powS (a) (m)) && okS (powS (a) (n)) then (toldS (numS (powS (a) (m)) * numS (powS (a) (n)))) else (({ data := #[] } : ByteArray)))).toList = (powS (a) ((m) + (n))).toList)) (AV.lit (.bool false)) Gd.none rfl (decide_eq_false h15) rfl ?_
                  refine o_move (AV.lit (.bool false)) Gd.none rfl ?_
                  refine o_skip (b := false) rfl rfl rfl ?_
                  refine o_pickF (b := false) (AV.lit (.bool false)) Gd.none rfl rfl rfl ?_
                  refine o_assign (AV.lit (.bool false)) Gd.none rfl ?_
                  refine aops_end ?_
                  refine hK16 _ ?_
                  refine awp_ret ?_
                  refine post_ret ⟨[(AV.lit (.bool false))], And.intro (AV.le_refl _) (trivial), rfl, ?_⟩
                  exfalso
                  first | (clear p4; omega) | (have q := p4 (by omega) (by omega); first | exact absurd (str_eq.2 q.1) (by assumption) | exact absurd q.2 (by assumption))

end Go.Proofs.YtkngglpnejdicaaDoor
