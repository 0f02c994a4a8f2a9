import Derived.Test.YtkngglpnejdicaaDoorWu
import Derived.Test.YtkngglpnejdicaaDoorWx
set_option linter.unusedVariables false
set_option linter.unusedSimpArgs false
namespace Go.Proofs.YtkngglpnejdicaaDoor
open Go Go.Ab Go.Mth
theorem Wv7_tC57 : callable cx.P 57 = true := by kernel_rfl
theorem Wv7_tC58 : callable cx.P 58 = true := by kernel_rfl
theorem Wv7_tC29 : callable cx.P 29 = true := by kernel_rfl
theorem Wv7_tC49 : callable cx.P 49 = true := by kernel_rfl
theorem Wv7_tC24 : callable cx.P 24 = true := by kernel_rfl
theorem Wv7_tO36 : tyZero cx.P 36 = some [(Go.Value.bool false), (Go.Value.slice none 0 0)] := by kernel_rfl
theorem Wv7_tZ36 : tySize cx.P 36 = some 2 := by kernel_rfl
theorem Wv7_tA36 : tyAgg cx.P 36 = some 2 := by kernel_rfl
theorem Wv7_tC60 : callable cx.P 60 = true := by kernel_rfl
theorem Wv7_tC59 : callable cx.P 59 = true := by kernel_rfl
theorem Wv7_tC61 : callable cx.P 61 = true := by kernel_rfl
theorem Wv7_tC62 : callable cx.P 62 = true := by kernel_rfl
theorem c_NumDivides (a b : ByteArray) (hsz : a.size ≤ 9223372036854775807) (hsb : b.size ≤ 9223372036854775807) : ECalls cx 12 [(AV.lit (.string (a))), (AV.lit (.string (b)))] (.lit (.bool true)) := by
  refine ecalls_of_awp Tryd.func12 (c := _) rfl (Nat.le_of_ble_eq_true rfl) ?_
  show awp cx 96 _ (postF cx Tryd.f12 _) ⟨[(0, (AV.lit (.string (a)))), (1, (AV.lit (.string (b))))], []⟩
  refine awp_seq fun K0 hK0 => ?_
  refine awp_region rfl ?_
  refine o_assign (AV.lit (.bool false)) Gd.none rfl ?_
  refine aops_end ?_
  refine hK0 _ ?_
  refine awp_seq fun K1 hK1 => ?_
  refine awp_region rfl ?_
  refine o_move (AV.lit (.string (a))) Gd.none rfl ?_
  refine o_move (AV.lit (.string (b))) Gd.none rfl ?_
  refine o_call [(AV.lit (.string (a))), (AV.lit (.string (b)))] (AV.tup [(AV.lit (.string (divQ (a) (b)))), (AV.lit (.string (divR (a) (b)))), (nm .i64 (divE (a) (b)))]) Gd.none Wv7_tC57 rfl (c_nDivide (a) (b) (by first | assumption | decide | omega) (by first | assumption | decide | omega)) ?_
  refine o_move (AV.tup [(AV.lit (.string (divQ (a) (b)))), (AV.lit (.string (divR (a) (b)))), (nm .i64 (divE (a) (b)))]) Gd.none rfl ?_
  refine o_extract (AV.lit (.string (divQ (a) (b)))) Gd.none rfl rfl ?_
  refine o_extract (AV.lit (.string (divR (a) (b)))) Gd.none rfl rfl ?_
  refine o_extract (nm .i64 (divE (a) (b))) Gd.none rfl rfl ?_
  refine o_assign (AV.lit (.string (divQ (a) (b)))) Gd.none rfl ?_
  refine o_assign (AV.lit (.string (divR (a) (b)))) Gd.none rfl ?_
  refine o_assign (nm .i64 (divE (a) (b))) Gd.none rfl ?_
  refine aops_end ?_
  refine hK1 _ ?_
  refine awp_seq fun K2 hK2 => ?_
  refine awp_region rfl ?_
  refine o_move (AV.lit (.string (a))) Gd.none rfl ?_
  refine o_move (AV.lit (.string (b))) Gd.none rfl ?_
  refine o_call [(AV.lit (.string (a))), (AV.lit (.string (b)))] (AV.tup [(AV.lit (.string ((if okS (a) && okS (b) then (toldS ((Int.gcd (numS (a)) (numS (b)) : Nat) : Int)) else (({ data := #[] } : ByteArray)))))), (nm .i64 ((if okS (a) && okS (b) then (toldE ((Int.gcd (numS (a)) (numS (b)) : Nat) : Int)) else (1))))]) Gd.none Wv7_tC58 rfl (c_nGcd (a) (b) (by first | assumption | decide | omega) (by first | assumption | decide | omega)) ?_
  refine o_move (AV.tup [(AV.lit (.string ((if okS (a) && okS (b) then (toldS ((Int.gcd (numS (a)) (numS (b)) : Nat) : Int)) else (({ data := #[] } : ByteArray)))))), (nm .i64 ((if okS (a) && okS (b) then (toldE ((Int.gcd (numS (a)) (numS (b)) : Nat) : Int)) else (1))))]) Gd.none rfl ?_
  refine o_extract (AV.lit (.string ((if okS (a) && okS (b) then (toldS ((Int.gcd (numS (a)) (numS (b)) : Nat) : Int)) else (({ data := #[] } : ByteArray)))))) Gd.none rfl rfl ?_
  refine o_extract (nm .i64 ((if okS (a) && okS (b) then (toldE ((Int.gcd (numS (a)) (numS (b)) : Nat) : Int)) else (1)))) Gd.none rfl rfl ?_
  refine o_assign (AV.lit (.string ((if okS (a) && okS (b) then (toldS ((Int.gcd (numS (a)) (numS (b)) : Nat) : Int)) else (({ data := #[] } : ByteArray)))))) Gd.none rfl ?_
  refine o_assign (nm .i64 ((if okS (a) && okS (b) then (toldE ((Int.gcd (numS (a)) (numS (b)) : Nat) : Int)) else (1)))) Gd.none rfl ?_
  refine aops_end ?_
  refine hK2 _ ?_
  refine awp_seq fun K3 hK3 => ?_
  refine awp_seq fun K4 hK4 => ?_
  refine awp_region rfl ?_
  refine o_move (AV.lit (.string (a))) Gd.none rfl ?_
  refine o_call [(AV.lit (.string (a)))] (AV.lit (.bool (okS (a)))) Gd.none Wv7_tC29 rfl (c_rValid (a) (by first | assumption | decide | omega)) ?_
  refine o_not (b := okS (a)) Gd.none rfl ?_
  refine o_move (AV.lit (.bool (!(okS (a))))) Gd.none rfl ?_
  refine o_split (b := !(okS (a))) 30 rfl (fun h1 => ?_) (fun h1 => ?_)
  · have ha' : okS a = false := by simpa using h1
    have dn := div_no (a := a) (b := b) (fun h => by rw [ha'] at h; exact absurd h.1 (by decide))
    have q1 : (divQ a b).size = 0 := by rw [dn.1]; rfl
    have q2 : (divR a b).size = 0 := by rw [dn.2.1]; rfl
    have q3 : (if okS (a) && okS (b) then (toldS ((Int.gcd (numS (a)) (numS (b)) : Nat) : Int)) else (({ data := #[] } : ByteArray))).size = 0 := by rw [ha']; first | rfl | (cases okS a <;> rfl)
    have q4 : ((divQ a b) ++ (divR a b)).size = 0 := by rw [ByteArray.size_append]; omega
    refine o_skip (b := !(okS (a))) rfl rfl h1 ?_
    refine o_skip (b := !(okS (a))) rfl rfl h1 ?_
    refine o_skip (b := !(okS (a))) rfl rfl h1 ?_
    refine o_pickT (b := !(okS (a))) (AV.lit (.bool true)) Gd.none rfl h1 rfl ?_
    refine aops_end ?_
    refine hK4 _ ?_
    refine awp_condB (b := true) rfl (fun _ => ?_) (fun hh => absurd (hh.symm.trans rfl) (by decide))
    refine awp_seq fun K5 hK5 => ?_
    refine awp_region rfl ?_
    refine o_move (AV.lit (.string (divQ (a) (b)))) Gd.none rfl ?_
    refine o_move (AV.lit (.string (divR (a) (b)))) Gd.none rfl ?_
    refine o_addS (a := (divQ (a) (b))) (c := (divR (a) (b))) Gd.none rfl rfl (by omega) ?_
    refine o_move (AV.lit (.string ((if okS (a) && okS (b) then (toldS ((Int.gcd (numS (a)) (numS (b)) : Nat) : Int)) else (({ data := #[] } : ByteArray)))))) Gd.none rfl ?_
    refine o_addS (a := ((divQ (a) (b)) ++ (divR (a) (b)))) (c := ((if okS (a) && okS (b) then (toldS ((Int.gcd (numS (a)) (numS (b)) : Nat) : Int)) else (({ data := #[] } : ByteArray))))) Gd.none rfl rfl (by omega) ?_
    refine o_eqlS (a := (((divQ (a) (b)) ++ (divR (a) (b))) ++ ((if okS (a) && okS (b) then (toldS ((Int.gcd (numS (a)) (numS (b)) : Nat) : Int)) else (({ data := #[] } : ByteArray)))))) (c := (({data := #[]} : ByteArray))) Gd.none rfl rfl ?_
    refine o_move (bp ((((divQ (a) (b)) ++ (divR (a) (b))) ++ ((if okS (a) && okS (b) then (toldS ((Int.gcd (numS (a)) (numS (b)) : Nat) : Int)) else (({ data := #[] } : ByteArray))))).toList = (({data := #[]} : ByteArray)).toList)) Gd.none rfl ?_
    refine o_splitP (q := (((divQ (a) (b)) ++ (divR (a) (b))) ++ ((if okS (a) && okS (b) then (toldS ((Int.gcd (numS (a)) (numS (b)) : Nat) : Int)) else (({ data := #[] } : ByteArray))))).toList = (({data := #[]} : ByteArray)).toList) 41 rfl (fun h2 => ?_) (fun h2 => ?_)
    · refine o_move (nm .i64 (divE (a) (b))) (Gd.yes rfl rfl (decide_eq_true h2)) rfl ?_
      refine n_eql (divE (a) (b)) (1) (Gd.yes rfl rfl (decide_eq_true h2)) rfl rfl ?_
      refine o_pickT (b := decide ((((divQ (a) (b)) ++ (divR (a) (b))) ++ ((if okS (a) && okS (b) then (toldS ((Int.gcd (numS (a)) (numS (b)) : Nat) : Int)) else (({ data := #[] } : ByteArray))))).toList = (({data := #[]} : ByteArray)).toList)) (bp ((divE (a) (b)) = (1))) Gd.none rfl (decide_eq_true h2) rfl ?_
      refine o_move (bp ((divE (a) (b)) = (1))) Gd.none rfl ?_
      refine o_splitP (q := (divE (a) (b)) = (1)) 45 rfl (fun h3 => ?_) (fun h3 => ?_)
      · refine o_move (nm .i64 ((if okS (a) && okS (b) then (toldE ((Int.gcd (numS (a)) (numS (b)) : Nat) : Int)) else (1)))) (Gd.yes rfl rfl (decide_eq_true h3)) rfl ?_
        refine n_eql ((if okS (a) && okS (b) then (toldE ((Int.gcd (numS (a)) (numS (b)) : Nat) : Int)) else (1))) (1) (Gd.yes rfl rfl (decide_eq_true h3)) rfl rfl ?_
        refine o_pickT (b := decide ((divE (a) (b)) = (1))) (bp (((if okS (a) && okS (b) then (toldE ((Int.gcd (numS (a)) (numS (b)) : Nat) : Int)) else (1))) = (1))) Gd.none rfl (decide_eq_true h3) rfl ?_
        refine o_move (bp (((if okS (a) && okS (b) then (toldE ((Int.gcd (numS (a)) (numS (b)) : Nat) : Int)) else (1))) = (1))) Gd.none rfl ?_
        refine o_splitP (q := ((if okS (a) && okS (b) then (toldE ((Int.gcd (numS (a)) (numS (b)) : Nat) : Int)) else (1))) = (1)) 49 rfl (fun h4 => ?_) (fun h4 => ?_)
        · refine o_call [] (AV.lit (.bool true)) (Gd.yes rfl rfl (decide_eq_true h4)) Wv7_tC49 rfl c_l1Awake ?_
          refine o_pickT (b := decide (((if okS (a) && okS (b) then (toldE ((Int.gcd (numS (a)) (numS (b)) : Nat) : Int)) else (1))) = (1))) (AV.lit (.bool true)) Gd.none rfl (decide_eq_true h4) rfl ?_
          refine o_assign (AV.lit (.bool true)) Gd.none rfl ?_
          refine aops_end ?_
          refine hK5 _ ?_
          refine awp_ret ?_
          refine post_ret ⟨[(AV.lit (.bool true))], And.intro (AV.le_refl _) (trivial), rfl, ?_⟩
          first | rfl | simp [bp]
        · refine o_skip (b := decide (((if okS (a) && okS (b) then (toldE ((Int.gcd (numS (a)) (numS (b)) : Nat) : Int)) else (1))) = (1))) rfl rfl (decide_eq_false h4) ?_
          refine o_pickF (b := decide (((if okS (a) && okS (b) then (toldE ((Int.gcd (numS (a)) (numS (b)) : Nat) : Int)) else (1))) = (1))) (AV.lit (.bool false)) Gd.none rfl (decide_eq_false h4) rfl ?_
          refine o_assign (AV.lit (.bool false)) Gd.none rfl ?_
          refine aops_end ?_
          refine hK5 _ ?_
          refine awp_ret ?_
          refine post_ret ⟨[(AV.lit (.bool false))], And.intro (AV.le_refl _) (trivial), rfl, ?_⟩
          exact absurd (by rw [ha']; rfl) h4
      · refine o_skip (b := decide ((divE (a) (b)) = (1))) rfl rfl (decide_eq_false h3) ?_
        refine o_skip (b := decide ((divE (a) (b)) = (1))) rfl rfl (decide_eq_false h3) ?_
        refine o_pickF (b := decide ((divE (a) (b)) = (1))) (AV.lit (.bool false)) Gd.none rfl (decide_eq_false h3) rfl ?_
        refine o_move (AV.lit (.bool false)) Gd.none rfl ?_
        refine o_skip (b := false) rfl rfl rfl ?_
        refine o_pickF (b := false) (AV.lit (.bool false)) Gd.none rfl rfl rfl ?_
        refine o_assign (AV.lit (.bool false)) Gd.none rfl ?_
        refine aops_end ?_
        refine hK5 _ ?_
        refine awp_ret ?_
        refine post_ret ⟨[(AV.lit (.bool false))], And.intro (AV.le_refl _) (trivial), rfl, ?_⟩
        exact absurd dn.2.2 h3
    · refine o_skip (b := decide ((((divQ (a) (b)) ++ (divR (a) (b))) ++ ((if okS (a) && okS (b) then (toldS ((Int.gcd (numS (a)) (numS (b)) : Nat) : Int)) else (({ data := #[] } : ByteArray))))).toList = (({data := #[]} : ByteArray)).toList)) rfl rfl (decide_eq_false h2) ?_
      refine o_skip (b := decide ((((divQ (a) (b)) ++ (divR (a) (b))) ++ ((if okS (a) && okS (b) then (toldS ((Int.gcd (numS (a)) (numS (b)) : Nat) : Int)) else (({ data := #[] } : ByteArray))))).toList = (({data := #[]} : ByteArray)).toList)) rfl rfl (decide_eq_false h2) ?_
      refine o_pickF (b := decide ((((divQ (a) (b)) ++ (divR (a) (b))) ++ ((if okS (a) && okS (b) then (toldS ((Int.gcd (numS (a)) (numS (b)) : Nat) : Int)) else (({ data := #[] } : ByteArray))))).toList = (({data := #[]} : ByteArray)).toList)) (AV.lit (.bool false)) Gd.none rfl (decide_eq_false h2) rfl ?_
      refine o_move (AV.lit (.bool false)) Gd.none rfl ?_
      refine o_skip (b := false) rfl rfl rfl ?_
      refine o_skip (b := false) rfl rfl rfl ?_
      refine o_pickF (b := false) (AV.lit (.bool false)) Gd.none rfl rfl rfl ?_
      refine o_move (AV.lit (.bool false)) Gd.none rfl ?_
      refine o_skip (b := false) rfl rfl rfl ?_
      refine o_pickF (b := false) (AV.lit (.bool false)) Gd.none rfl rfl rfl ?_
      refine o_assign (AV.lit (.bool false)) Gd.none rfl ?_
      refine aops_end ?_
      refine hK5 _ ?_
      refine awp_ret ?_
      refine post_ret ⟨[(AV.lit (.bool false))], And.intro (AV.le_refl _) (trivial), rfl, ?_⟩
      exact absurd (by rw [dn.1, dn.2.1, ha']; rfl) h2
  · have ha' : okS a = true := by simpa using h1
    refine o_move (AV.lit (.string (b))) (Gd.yes rfl rfl h1) rfl ?_
    refine o_call [(AV.lit (.string (b)))] (AV.lit (.bool (okS (b)))) (Gd.yes rfl rfl h1) Wv7_tC29 rfl (c_rValid (b) (by first | assumption | decide | omega)) ?_
    refine o_not (b := okS (b)) (Gd.yes rfl rfl h1) rfl ?_
    refine o_pickF (b := !(okS (a))) (AV.lit (.bool (!(okS (b))))) Gd.none rfl h1 rfl ?_
    refine aops_end ?_
    refine hK4 _ ?_
    refine awp_condB (b := !(okS (b))) rfl (fun h5 => ?_) (fun h5 => ?_)
    · have hb' : okS b = false := by simpa using h5
      have dn := div_no (a := a) (b := b) (fun h => by rw [hb'] at h; exact absurd h.2 (by decide))
      have q1 : (divQ a b).size = 0 := by rw [dn.1]; rfl
      have q2 : (divR a b).size = 0 := by rw [dn.2.1]; rfl
      have q3 : (if okS (a) && okS (b) then (toldS ((Int.gcd (numS (a)) (numS (b)) : Nat) : Int)) else (({ data := #[] } : ByteArray))).size = 0 := by rw [hb']; first | rfl | (cases okS a <;> rfl)
      have q4 : ((divQ a b) ++ (divR a b)).size = 0 := by rw [ByteArray.size_append]; omega
      refine awp_seq fun K6 hK6 => ?_
      refine awp_region rfl ?_
      refine o_move (AV.lit (.string (divQ (a) (b)))) Gd.none rfl ?_
      refine o_move (AV.lit (.string (divR (a) (b)))) Gd.none rfl ?_
      refine o_addS (a := (divQ (a) (b))) (c := (divR (a) (b))) Gd.none rfl rfl (by omega) ?_
      refine o_move (AV.lit (.string ((if okS (a) && okS (b) then (toldS ((Int.gcd (numS (a)) (numS (b)) : Nat) : Int)) else (({ data := #[] } : ByteArray)))))) Gd.none rfl ?_
      refine o_addS (a := ((divQ (a) (b)) ++ (divR (a) (b)))) (c := ((if okS (a) && okS (b) then (toldS ((Int.gcd (numS (a)) (numS (b)) : Nat) : Int)) else (({ data := #[] } : ByteArray))))) Gd.none rfl rfl (by omega) ?_
      refine o_eqlS (a := (((divQ (a) (b)) ++ (divR (a) (b))) ++ ((if okS (a) && okS (b) then (toldS ((Int.gcd (numS (a)) (numS (b)) : Nat) : Int)) else (({ data := #[] } : ByteArray)))))) (c := (({data := #[]} : ByteArray))) Gd.none rfl rfl ?_
      refine o_move (bp ((((divQ (a) (b)) ++ (divR (a) (b))) ++ ((if okS (a) && okS (b) then (toldS ((Int.gcd (numS (a)) (numS (b)) : Nat) : Int)) else (({ data := #[] } : ByteArray))))).toList = (({data := #[]} : ByteArray)).toList)) Gd.none rfl ?_
      refine o_splitP (q := (((divQ (a) (b)) ++ (divR (a) (b))) ++ ((if okS (a) && okS (b) then (toldS ((Int.gcd (numS (a)) (numS (b)) : Nat) : Int)) else (({ data := #[] } : ByteArray))))).toList = (({data := #[]} : ByteArray)).toList) 41 rfl (fun h6 => ?_) (fun h6 => ?_)
      · refine o_move (nm .i64 (divE (a) (b))) (Gd.yes rfl rfl (decide_eq_true h6)) rfl ?_
        refine n_eql (divE (a) (b)) (1) (Gd.yes rfl rfl (decide_eq_true h6)) rfl rfl ?_
        refine o_pickT (b := decide ((((divQ (a) (b)) ++ (divR (a) (b))) ++ ((if okS (a) && okS (b) then (toldS ((Int.gcd (numS (a)) (numS (b)) : Nat) : Int)) else (({ data := #[] } : ByteArray))))).toList = (({data := #[]} : ByteArray)).toList)) (bp ((divE (a) (b)) = (1))) Gd.none rfl (decide_eq_true h6) rfl ?_
        refine o_move (bp ((divE (a) (b)) = (1))) Gd.none rfl ?_
        refine o_splitP (q := (divE (a) (b)) = (1)) 45 rfl (fun h7 => ?_) (fun h7 => ?_)
        · refine o_move (nm .i64 ((if okS (a) && okS (b) then (toldE ((Int.gcd (numS (a)) (numS (b)) : Nat) : Int)) else (1)))) (Gd.yes rfl rfl (decide_eq_true h7)) rfl ?_
          refine n_eql ((if okS (a) && okS (b) then (toldE ((Int.gcd (numS (a)) (numS (b)) : Nat) : Int)) else (1))) (1) (Gd.yes rfl rfl (decide_eq_true h7)) rfl rfl ?_
          refine o_pickT (b := decide ((divE (a) (b)) = (1))) (bp (((if okS (a) && okS (b) then (toldE ((Int.gcd (numS (a)) (numS (b)) : Nat) : Int)) else (1))) = (1))) Gd.none rfl (decide_eq_true h7) rfl ?_
          refine o_move (bp (((if okS (a) && okS (b) then (toldE ((Int.gcd (numS (a)) (numS (b)) : Nat) : Int)) else (1))) = (1))) Gd.none rfl ?_
          refine o_splitP (q := ((if okS (a) && okS (b) then (toldE ((Int.gcd (numS (a)) (numS (b)) : Nat) : Int)) else (1))) = (1)) 49 rfl (fun h8 => ?_) (fun h8 => ?_)
          · refine o_call [] (AV.lit (.bool true)) (Gd.yes rfl rfl (decide_eq_true h8)) Wv7_tC49 rfl c_l1Awake ?_
            refine o_pickT (b := decide (((if okS (a) && okS (b) then (toldE ((Int.gcd (numS (a)) (numS (b)) : Nat) : Int)) else (1))) = (1))) (AV.lit (.bool true)) Gd.none rfl (decide_eq_true h8) rfl ?_
            refine o_assign (AV.lit (.bool true)) Gd.none rfl ?_
            refine aops_end ?_
            refine hK6 _ ?_
            refine awp_ret ?_
            refine post_ret ⟨[(AV.lit (.bool true))], And.intro (AV.le_refl _) (trivial), rfl, ?_⟩
            first | rfl | simp [bp]
          · refine o_skip (b := decide (((if okS (a) && okS (b) then (toldE ((Int.gcd (numS (a)) (numS (b)) : Nat) : Int)) else (1))) = (1))) rfl rfl (decide_eq_false h8) ?_
            refine o_pickF (b := decide (((if okS (a) && okS (b) then (toldE ((Int.gcd (numS (a)) (numS (b)) : Nat) : Int)) else (1))) = (1))) (AV.lit (.bool false)) Gd.none rfl (decide_eq_false h8) rfl ?_
            refine o_assign (AV.lit (.bool false)) Gd.none rfl ?_
            refine aops_end ?_
            refine hK6 _ ?_
            refine awp_ret ?_
            refine post_ret ⟨[(AV.lit (.bool false))], And.intro (AV.le_refl _) (trivial), rfl, ?_⟩
            exact absurd (by rw [hb']; cases okS a <;> rfl) h8
        · refine o_skip (b := decide ((divE (a) (b)) = (1))) rfl rfl (decide_eq_false h7) ?_
          refine o_skip (b := decide ((divE (a) (b)) = (1))) rfl rfl (decide_eq_false h7) ?_
          refine o_pickF (b := decide ((divE (a) (b)) = (1))) (AV.lit (.bool false)) Gd.none rfl (decide_eq_false h7) rfl ?_
          refine o_move (AV.lit (.bool false)) Gd.none rfl ?_
          refine o_skip (b := false) rfl rfl rfl ?_
          refine o_pickF (b := false) (AV.lit (.bool false)) Gd.none rfl rfl rfl ?_
          refine o_assign (AV.lit (.bool false)) Gd.none rfl ?_
          refine aops_end ?_
          refine hK6 _ ?_
          refine awp_ret ?_
          refine post_ret ⟨[(AV.lit (.bool false))], And.intro (AV.le_refl _) (trivial), rfl, ?_⟩
          exact absurd dn.2.2 h7
      · refine o_skip (b := decide ((((divQ (a) (b)) ++ (divR (a) (b))) ++ ((if okS (a) && okS (b) then (toldS ((Int.gcd (numS (a)) (numS (b)) : Nat) : Int)) else (({ data := #[] } : ByteArray))))).toList = (({data := #[]} : ByteArray)).toList)) rfl rfl (decide_eq_false h6) ?_
        refine o_skip (b := decide ((((divQ (a) (b)) ++ (divR (a) (b))) ++ ((if okS (a) && okS (b) then (toldS ((Int.gcd (numS (a)) (numS (b)) : Nat) : Int)) else (({ data := #[] } : ByteArray))))).toList = (({data := #[]} : ByteArray)).toList)) rfl rfl (decide_eq_false h6) ?_
        refine o_pickF (b := decide ((((divQ (a) (b)) ++ (divR (a) (b))) ++ ((if okS (a) && okS (b) then (toldS ((Int.gcd (numS (a)) (numS (b)) : Nat) : Int)) else (({ data := #[] } : ByteArray))))).toList = (({data := #[]} : ByteArray)).toList)) (AV.lit (.bool false)) Gd.none rfl (decide_eq_false h6) rfl ?_
        refine o_move (AV.lit (.bool false)) Gd.none rfl ?_
        refine o_skip (b := false) rfl rfl rfl ?_
        refine o_skip (b := false) rfl rfl rfl ?_
        refine o_pickF (b := false) (AV.lit (.bool false)) Gd.none rfl rfl rfl ?_
        refine o_move (AV.lit (.bool false)) Gd.none rfl ?_
        refine o_skip (b := false) rfl rfl rfl ?_
        refine o_pickF (b := false) (AV.lit (.bool false)) Gd.none rfl rfl rfl ?_
        refine o_assign (AV.lit (.bool false)) Gd.none rfl ?_
        refine aops_end ?_
        refine hK6 _ ?_
        refine awp_ret ?_
        refine post_ret ⟨[(AV.lit (.bool false))], And.intro (AV.le_refl _) (trivial), rfl, ?_⟩
        exact absurd (by rw [dn.1, dn.2.1, hb']; cases okS a <;> rfl) h6
    · have hb' : okS b = true := by simpa using h5
      have hla := len_numS (okS_iff.1 ha')
      have hlb := len_numS (okS_iff.1 hb')
      have hlg := len_gcd (numS a) (numS b)
      refine awp_skip ?_
      refine hK3 _ ?_
      refine awp_seq fun K7 hK7 => ?_
      refine awp_region rfl ?_
      refine o_move (AV.lit (.string (a))) Gd.none rfl ?_
      refine o_call [(AV.lit (.string (a)))] (intR ((numS (a)))) Gd.none Wv7_tC24 rfl (c_rParse (a) (by first | assumption | exact okS_iff.1 (by assumption))) ?_
      refine o_move (AV.lit (.string (b))) Gd.none rfl ?_
      refine o_call [(AV.lit (.string (b)))] (intR ((numS (b)))) Gd.none Wv7_tC24 rfl (c_rParse (b) (by first | assumption | exact okS_iff.1 (by assumption))) ?_
      refine o_alloc 2 [(AV.lit (.bool false)), (AV.lit (.slice none 0 0))] Gd.none Wv7_tO36 rfl rfl rfl ?_
      refine o_alloc 3 [(AV.lit (.bool false)), (AV.lit (.slice none 0 0))] Gd.none Wv7_tO36 rfl rfl rfl ?_
      refine o_store [(3, (AO.var 36 [(AV.lit (.bool false)), (AV.lit (.slice none 0 0))])), (2, (AO.var 36 [(bp ((numS (a)) < 0)), (AV.sl 1 (ns .i64 (digs ((numS (a))).natAbs)))]))] Gd.none Wv7_tZ36 rfl rfl rfl rfl rfl rfl ?_
      refine o_store [(3, (AO.var 36 [(bp ((numS (b)) < 0)), (AV.sl 1 (ns .i64 (digs ((numS (b))).natAbs)))])), (2, (AO.var 36 [(bp ((numS (a)) < 0)), (AV.sl 1 (ns .i64 (digs ((numS (a))).natAbs)))]))] Gd.none Wv7_tZ36 rfl rfl rfl rfl rfl rfl ?_
      refine aops_end ?_
      refine hK7 _ ?_
      refine awp_seq fun K8 hK8 => ?_
      refine awp_seq fun K9 hK9 => ?_
      refine awp_region rfl ?_
      refine o_move (AV.lit (.string ((if okS (a) && okS (b) then (toldS ((Int.gcd (numS (a)) (numS (b)) : Nat) : Int)) else (({ data := #[] } : ByteArray)))))) Gd.none rfl ?_
      refine o_move (nm .i64 ((if okS (a) && okS (b) then (toldE ((Int.gcd (numS (a)) (numS (b)) : Nat) : Int)) else (1)))) Gd.none rfl ?_
      refine o_loadA [(bp ((numS (a)) < 0)), (AV.sl 1 (ns .i64 (digs ((numS (a))).natAbs)))] Gd.none Wv7_tA36 rfl rfl rfl rfl rfl ?_
      refine o_loadA [(bp ((numS (b)) < 0)), (AV.sl 1 (ns .i64 (digs ((numS (b))).natAbs)))] Gd.none Wv7_tA36 rfl rfl rfl rfl rfl ?_
      refine o_call [(AV.agg [(bp ((numS (a)) < 0)), (AV.sl 1 (ns .i64 (digs ((numS (a))).natAbs)))]), (AV.agg [(bp ((numS (b)) < 0)), (AV.sl 1 (ns .i64 (digs ((numS (b))).natAbs)))])] (intR (((Int.gcd (numS (a)) (numS (b)) : Nat) : Int))) Gd.none Wv7_tC60 rfl (c_rGcd ((numS (a))) ((numS (b))) (by omega) (by omega)) ?_
      refine o_call [(AV.lit (.string ((if okS (a) && okS (b) then (toldS ((Int.gcd (numS (a)) (numS (b)) : Nat) : Int)) else (({ data := #[] } : ByteArray)))))), (nm .i64 ((if okS (a) && okS (b) then (toldE ((Int.gcd (numS (a)) (numS (b)) : Nat) : Int)) else (1)))), (intR (((Int.gcd (numS (a)) (numS (b)) : Nat) : Int)))] (bp ((if okS (a) && okS (b) then (toldS ((Int.gcd (numS (a)) (numS (b)) : Nat) : Int)) else (({ data := #[] } : ByteArray))) = toldS ((Int.gcd (numS (a)) (numS (b)) : Nat) : Int) ∧ (if okS (a) && okS (b) then (toldE ((Int.gcd (numS (a)) (numS (b)) : Nat) : Int)) else (1)) = toldE ((Int.gcd (numS (a)) (numS (b)) : Nat) : Int))) Gd.none Wv7_tC59 rfl (c_l1Told ((if okS (a) && okS (b) then (toldS ((Int.gcd (numS (a)) (numS (b)) : Nat) : Int)) else (({ data := #[] } : ByteArray)))) ((if okS (a) && okS (b) then (toldE ((Int.gcd (numS (a)) (numS (b)) : Nat) : Int)) else (1))) (((Int.gcd (numS (a)) (numS (b)) : Nat) : Int)) (by first | assumption | omega | (simp only [Int.natAbs_neg]; omega))) ?_
      refine o_notP (q := (if okS (a) && okS (b) then (toldS ((Int.gcd (numS (a)) (numS (b)) : Nat) : Int)) else (({ data := #[] } : ByteArray))) = toldS ((Int.gcd (numS (a)) (numS (b)) : Nat) : Int) ∧ (if okS (a) && okS (b) then (toldE ((Int.gcd (numS (a)) (numS (b)) : Nat) : Int)) else (1)) = toldE ((Int.gcd (numS (a)) (numS (b)) : Nat) : Int)) Gd.none rfl ?_
      refine aops_end ?_
      refine hK9 _ ?_
      refine awp_condQ (q := ¬ ((if okS (a) && okS (b) then (toldS ((Int.gcd (numS (a)) (numS (b)) : Nat) : Int)) else (({ data := #[] } : ByteArray))) = toldS ((Int.gcd (numS (a)) (numS (b)) : Nat) : Int) ∧ (if okS (a) && okS (b) then (toldE ((Int.gcd (numS (a)) (numS (b)) : Nat) : Int)) else (1)) = toldE ((Int.gcd (numS (a)) (numS (b)) : Nat) : Int))) rfl (fun h9 => ?_) (fun h9 => ?_)
      · refine awp_seq fun K10 hK10 => ?_
        refine awp_region rfl ?_
        refine o_assign (AV.lit (.bool false)) Gd.none rfl ?_
        refine aops_end ?_
        refine hK10 _ ?_
        refine awp_ret ?_
        refine post_ret ⟨[(AV.lit (.bool false))], And.intro (AV.le_refl _) (trivial), rfl, ?_⟩
        exact absurd (by rw [ha', hb']; exact ⟨rfl, rfl⟩) h9
      · refine awp_skip ?_
        refine hK8 _ ?_
        refine awp_seq fun K11 hK11 => ?_
        refine awp_seq fun K12 hK12 => ?_
        refine awp_region rfl ?_
        refine o_loadA [(bp ((numS (b)) < 0)), (AV.sl 1 (ns .i64 (digs ((numS (b))).natAbs)))] Gd.none Wv7_tA36 rfl rfl rfl rfl rfl ?_
        refine o_call [(AV.agg [(bp ((numS (b)) < 0)), (AV.sl 1 (ns .i64 (digs ((numS (b))).natAbs)))])] (AV.lit (.int .i64 (sgn ((numS (b)))))) Gd.none Wv7_tC61 rfl (c_rSign ((numS (b)))) ?_
        refine o_leq (a := (sgn ((numS (b))))) (c := (((0 : Nat) : Int))) Gd.none rfl rfl ?_
        refine aops_end ?_
        refine hK12 _ ?_
        refine awp_condQ (q := (sgn ((numS (b)))) ≤ (((0 : Nat) : Int))) rfl (fun h10 => ?_) (fun h10 => ?_)
        · have da := div_arg ⟨ha', hb'⟩ (fun h => absurd (sgn_le.1 h10) (by omega))
          have q4 : ((divQ a b) ++ (divR a b)).size = 0 := by rw [da.1, da.2.1]; rfl
          have q1 : (divQ a b).size = 0 := by rw [da.1]; rfl
          have q2 : (divR a b).size = 0 := by rw [da.2.1]; rfl
          refine awp_seq fun K13 hK13 => ?_
          refine awp_region rfl ?_
          refine o_move (AV.lit (.string (divQ (a) (b)))) Gd.none rfl ?_
          refine o_move (AV.lit (.string (divR (a) (b)))) Gd.none rfl ?_
          refine o_addS (a := (divQ (a) (b))) (c := (divR (a) (b))) Gd.none rfl rfl (by omega) ?_
          refine o_eqlS (a := ((divQ (a) (b)) ++ (divR (a) (b)))) (c := (({data := #[]} : ByteArray))) Gd.none rfl rfl ?_
          refine o_move (bp (((divQ (a) (b)) ++ (divR (a) (b))).toList = (({data := #[]} : ByteArray)).toList)) Gd.none rfl ?_
          refine o_splitP (q := ((divQ (a) (b)) ++ (divR (a) (b))).toList = (({data := #[]} : ByteArray)).toList) 70 rfl (fun h11 => ?_) (fun h11 => ?_)
          · refine o_move (nm .i64 (divE (a) (b))) (Gd.yes rfl rfl (decide_eq_true h11)) rfl ?_
            refine n_eql (divE (a) (b)) (2) (Gd.yes rfl rfl (decide_eq_true h11)) rfl rfl ?_
            refine o_pickT (b := decide (((divQ (a) (b)) ++ (divR (a) (b))).toList = (({data := #[]} : ByteArray)).toList)) (bp ((divE (a) (b)) = (2))) Gd.none rfl (decide_eq_true h11) rfl ?_
            refine o_move (bp ((divE (a) (b)) = (2))) Gd.none rfl ?_
            refine o_splitP (q := (divE (a) (b)) = (2)) 74 rfl (fun h12 => ?_) (fun h12 => ?_)
            · refine o_call [] (AV.lit (.bool true)) (Gd.yes rfl rfl (decide_eq_true h12)) Wv7_tC49 rfl c_l1Awake ?_
              refine o_pickT (b := decide ((divE (a) (b)) = (2))) (AV.lit (.bool true)) Gd.none rfl (decide_eq_true h12) rfl ?_
              refine o_assign (AV.lit (.bool true)) Gd.none rfl ?_
              refine aops_end ?_
              refine hK13 _ ?_
              refine awp_ret ?_
              refine post_ret ⟨[(AV.lit (.bool true))], And.intro (AV.le_refl _) (trivial), rfl, ?_⟩
              first | rfl | simp [bp]
            · refine o_skip (b := decide ((divE (a) (b)) = (2))) rfl rfl (decide_eq_false h12) ?_
              refine o_pickF (b := decide ((divE (a) (b)) = (2))) (AV.lit (.bool false)) Gd.none rfl (decide_eq_false h12) rfl ?_
              refine o_assign (AV.lit (.bool false)) Gd.none rfl ?_
              refine aops_end ?_
              refine hK13 _ ?_
              refine awp_ret ?_
              refine post_ret ⟨[(AV.lit (.bool false))], And.intro (AV.le_refl _) (trivial), rfl, ?_⟩
              exact absurd da.2.2 h12
          · refine o_skip (b := decide (((divQ (a) (b)) ++ (divR (a) (b))).toList = (({data := #[]} : ByteArray)).toList)) rfl rfl (decide_eq_false h11) ?_
            refine o_skip (b := decide (((divQ (a) (b)) ++ (divR (a) (b))).toList = (({data := #[]} : ByteArray)).toList)) rfl rfl (decide_eq_false h11) ?_
            refine o_pickF (b := decide (((divQ (a) (b)) ++ (divR (a) (b))).toList = (({data := #[]} : ByteArray)).toList)) (AV.lit (.bool false)) Gd.none rfl (decide_eq_false h11) rfl ?_
            refine o_move (AV.lit (.bool false)) Gd.none rfl ?_
            refine o_skip (b := false) rfl rfl rfl ?_
            refine o_pickF (b := false) (AV.lit (.bool false)) Gd.none rfl rfl rfl ?_
            refine o_assign (AV.lit (.bool false)) Gd.none rfl ?_
            refine aops_end ?_
            refine hK13 _ ?_
            refine awp_ret ?_
            refine post_ret ⟨[(AV.lit (.bool false))], And.intro (AV.le_refl _) (trivial), rfl, ?_⟩
            exact absurd (by rw [da.1, da.2.1]; rfl) h11
        · have hb0 : 0 < numS b := Int.not_le.1 fun h => h10 (sgn_le.2 h)
          have dy := div_yes ⟨ha', hb'⟩ hb0
          have hfq := fit_div (fit_numS (okS_iff.1 ha')) hb0
          have hlq := fit_len hfq
          have hfr := fit_mod (x := numS a) (fit_numS (okS_iff.1 hb')) hb0
          have hlr := fit_len hfr
          refine awp_skip ?_
          refine hK11 _ ?_
          refine awp_seq fun K14 hK14 => ?_
          refine awp_region rfl ?_
          refine o_loadA [(bp ((numS (a)) < 0)), (AV.sl 1 (ns .i64 (digs ((numS (a))).natAbs)))] Gd.none Wv7_tA36 rfl rfl rfl rfl rfl ?_
          refine o_loadA [(bp ((numS (b)) < 0)), (AV.sl 1 (ns .i64 (digs ((numS (b))).natAbs)))] Gd.none Wv7_tA36 rfl rfl rfl rfl rfl ?_
          refine o_call [(AV.agg [(bp ((numS (a)) < 0)), (AV.sl 1 (ns .i64 (digs ((numS (a))).natAbs)))]), (AV.agg [(bp ((numS (b)) < 0)), (AV.sl 1 (ns .i64 (digs ((numS (b))).natAbs)))])] (AV.tup [(intR (((numS (a)) / (numS (b))))), (intR (((numS (a)) % (numS (b)))))]) Gd.none Wv7_tC62 rfl (c_rDiv ((numS (a))) ((numS (b))) (by omega) (by omega) (by omega)) ?_
          refine o_move (AV.tup [(intR (((numS (a)) / (numS (b))))), (intR (((numS (a)) % (numS (b)))))]) Gd.none rfl ?_
          refine o_extract (intR (((numS (a)) / (numS (b))))) Gd.none rfl rfl ?_
          refine o_extract (intR (((numS (a)) % (numS (b))))) Gd.none rfl rfl ?_
          refine o_alloc 4 [(AV.lit (.bool false)), (AV.lit (.slice none 0 0))] Gd.none Wv7_tO36 rfl rfl rfl ?_
          refine o_alloc 5 [(AV.lit (.bool false)), (AV.lit (.slice none 0 0))] Gd.none Wv7_tO36 rfl rfl rfl ?_
          refine o_store [(5, (AO.var 36 [(AV.lit (.bool false)), (AV.lit (.slice none 0 0))])), (4, (AO.var 36 [(bp (((numS (a)) / (numS (b))) < 0)), (AV.sl 1 (ns .i64 (digs (((numS (a)) / (numS (b)))).natAbs)))])), (3, (AO.var 36 [(bp ((numS (b)) < 0)), (AV.sl 1 (ns .i64 (digs ((numS (b))).natAbs)))])), (2, (AO.var 36 [(bp ((numS (a)) < 0)), (AV.sl 1 (ns .i64 (digs ((numS (a))).natAbs)))]))] Gd.none Wv7_tZ36 rfl rfl rfl rfl rfl rfl ?_
          refine o_store [(5, (AO.var 36 [(bp (((numS (a)) % (numS (b))) < 0)), (AV.sl 1 (ns .i64 (digs (((numS (a)) % (numS (b)))).natAbs)))])), (4, (AO.var 36 [(bp (((numS (a)) / (numS (b))) < 0)), (AV.sl 1 (ns .i64 (digs (((numS (a)) / (numS (b)))).natAbs)))])), (3, (AO.var 36 [(bp ((numS (b)) < 0)), (AV.sl 1 (ns .i64 (digs ((numS (b))).natAbs)))])), (2, (AO.var 36 [(bp ((numS (a)) < 0)), (AV.sl 1 (ns .i64 (digs ((numS (a))).natAbs)))]))] Gd.none Wv7_tZ36 rfl rfl rfl rfl rfl rfl ?_
          refine aops_end ?_
          refine hK14 _ ?_
          refine awp_seq fun K15 hK15 => ?_
          refine awp_region rfl ?_
          refine o_move (AV.lit (.string (divQ (a) (b)))) Gd.none rfl ?_
          refine o_move (nm .i64 (divE (a) (b))) Gd.none rfl ?_
          refine o_loadA [(bp (((numS (a)) / (numS (b))) < 0)), (AV.sl 1 (ns .i64 (digs (((numS (a)) / (numS (b)))).natAbs)))] Gd.none Wv7_tA36 rfl rfl rfl rfl rfl ?_
          refine o_call [(AV.lit (.string (divQ (a) (b)))), (nm .i64 (divE (a) (b))), (AV.agg [(bp (((numS (a)) / (numS (b))) < 0)), (AV.sl 1 (ns .i64 (digs (((numS (a)) / (numS (b)))).natAbs)))])] (bp (divQ (a) (b) = toldS ((numS (a)) / (numS (b))) ∧ divE (a) (b) = toldE ((numS (a)) / (numS (b))))) Gd.none Wv7_tC59 rfl (c_l1Told (divQ (a) (b)) (divE (a) (b)) (((numS (a)) / (numS (b)))) (by first | assumption | omega | (simp only [Int.natAbs_neg]; omega))) ?_
          refine o_move (bp (divQ (a) (b) = toldS ((numS (a)) / (numS (b))) ∧ divE (a) (b) = toldE ((numS (a)) / (numS (b))))) Gd.none rfl ?_
          refine o_splitP (q := divQ (a) (b) = toldS ((numS (a)) / (numS (b))) ∧ divE (a) (b) = toldE ((numS (a)) / (numS (b)))) 87 rfl (fun h13 => ?_) (fun h13 => ?_)
          · refine o_move (AV.lit (.string (divR (a) (b)))) (Gd.yes rfl rfl (decide_eq_true h13)) rfl ?_
            refine o_move (nm .i64 (divE (a) (b))) (Gd.yes rfl rfl (decide_eq_true h13)) rfl ?_
            refine o_loadA [(bp (((numS (a)) % (numS (b))) < 0)), (AV.sl 1 (ns .i64 (digs (((numS (a)) % (numS (b)))).natAbs)))] (Gd.yes rfl rfl (decide_eq_true h13)) Wv7_tA36 rfl rfl rfl rfl rfl ?_
            refine o_call [(AV.lit (.string (divR (a) (b)))), (nm .i64 (divE (a) (b))), (AV.agg [(bp (((numS (a)) % (numS (b))) < 0)), (AV.sl 1 (ns .i64 (digs (((numS (a)) % (numS (b)))).natAbs)))])] (bp (divR (a) (b) = toldS ((numS (a)) % (numS (b))) ∧ divE (a) (b) = toldE ((numS (a)) % (numS (b))))) (Gd.yes rfl rfl (decide_eq_true h13)) Wv7_tC59 rfl (c_l1Told (divR (a) (b)) (divE (a) (b)) (((numS (a)) % (numS (b)))) (by first | assumption | omega | (simp only [Int.natAbs_neg]; omega))) ?_
            refine o_pickT (b := decide (divQ (a) (b) = toldS ((numS (a)) / (numS (b))) ∧ divE (a) (b) = toldE ((numS (a)) / (numS (b))))) (bp (divR (a) (b) = toldS ((numS (a)) % (numS (b))) ∧ divE (a) (b) = toldE ((numS (a)) % (numS (b))))) Gd.none rfl (decide_eq_true h13) rfl ?_
            refine o_move (bp (divR (a) (b) = toldS ((numS (a)) % (numS (b))) ∧ divE (a) (b) = toldE ((numS (a)) % (numS (b))))) Gd.none rfl ?_
            refine o_splitP (q := divR (a) (b) = toldS ((numS (a)) % (numS (b))) ∧ divE (a) (b) = toldE ((numS (a)) % (numS (b)))) 93 rfl (fun h14 => ?_) (fun h14 => ?_)
            · refine o_call [] (AV.lit (.bool true)) (Gd.yes rfl rfl (decide_eq_true h14)) Wv7_tC49 rfl c_l1Awake ?_
              refine o_pickT (b := decide (divR (a) (b) = toldS ((numS (a)) % (numS (b))) ∧ divE (a) (b) = toldE ((numS (a)) % (numS (b))))) (AV.lit (.bool true)) Gd.none rfl (decide_eq_true h14) rfl ?_
              refine o_assign (AV.lit (.bool true)) Gd.none rfl ?_
              refine aops_end ?_
              refine hK15 _ ?_
              refine awp_ret ?_
              refine post_ret ⟨[(AV.lit (.bool true))], And.intro (AV.le_refl _) (trivial), rfl, ?_⟩
              first | rfl | simp [bp]
            · refine o_skip (b := decide (divR (a) (b) = toldS ((numS (a)) % (numS (b))) ∧ divE (a) (b) = toldE ((numS (a)) % (numS (b))))) rfl rfl (decide_eq_false h14) ?_
              refine o_pickF (b := decide (divR (a) (b) = toldS ((numS (a)) % (numS (b))) ∧ divE (a) (b) = toldE ((numS (a)) % (numS (b))))) (AV.lit (.bool false)) Gd.none rfl (decide_eq_false h14) rfl ?_
              refine o_assign (AV.lit (.bool false)) Gd.none rfl ?_
              refine aops_end ?_
              refine hK15 _ ?_
              refine awp_ret ?_
              refine post_ret ⟨[(AV.lit (.bool false))], And.intro (AV.le_refl _) (trivial), rfl, ?_⟩
              exact absurd ⟨dy.2.1.trans (told_fit hfr).1.symm, dy.2.2.trans (told_fit hfr).2.symm⟩ h14
          · refine o_skip (b := decide (divQ (a) (b) = toldS ((numS (a)) / (numS (b))) ∧ divE (a) (b) = toldE ((numS (a)) / (numS (b))))) rfl rfl (decide_eq_false h13) ?_
            refine o_skip (b := decide (divQ (a) (b) = toldS ((numS (a)) / (numS (b))) ∧ divE (a) (b) = toldE ((numS (a)) / (numS (b))))) rfl rfl (decide_eq_false h13) ?_
            refine o_skip (b := decide (divQ (a) (b) = toldS ((numS (a)) / (numS (b))) ∧ divE (a) (b) = toldE ((numS (a)) / (numS (b))))) rfl rfl (decide_eq_false h13) ?_
            refine o_skip (b := decide (divQ (a) (b) = toldS ((numS (a)) / (numS (b))) ∧ divE (a) (b) = toldE ((numS (a)) / (numS (b))))) rfl rfl (decide_eq_false h13) ?_
            refine o_pickF (b := decide (divQ (a) (b) = toldS ((numS (a)) / (numS (b))) ∧ divE (a) (b) = toldE ((numS (a)) / (numS (b))))) (AV.lit (.bool false)) Gd.none rfl (decide_eq_false h13) rfl ?_
            refine o_move (AV.lit (.bool false)) Gd.none rfl ?_
            refine o_skip (b := false) rfl rfl rfl ?_
            refine o_pickF (b := false) (AV.lit (.bool false)) Gd.none rfl rfl rfl ?_
            refine o_assign (AV.lit (.bool false)) Gd.none rfl ?_
            refine aops_end ?_
            refine hK15 _ ?_
            refine awp_ret ?_
            refine post_ret ⟨[(AV.lit (.bool false))], And.intro (AV.le_refl _) (trivial), rfl, ?_⟩
            exact absurd ⟨dy.1.trans (told_fit hfq).1.symm, dy.2.2.trans (told_fit hfq).2.symm⟩ h13

end Go.Proofs.YtkngglpnejdicaaDoor
