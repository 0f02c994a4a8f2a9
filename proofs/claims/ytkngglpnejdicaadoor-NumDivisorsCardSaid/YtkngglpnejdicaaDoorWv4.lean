import Derived.Test.YtkngglpnejdicaaDoorWu
import Derived.Test.YtkngglpnejdicaaDoorLp
set_option linter.unusedVariables false
set_option linter.unusedSimpArgs false
namespace Go.Proofs.YtkngglpnejdicaaDoor
open Go Go.Ab Go.Mth
theorem Wv4_tC29 : callable cx.P 29 = true := by kernel_rfl
theorem Wv4_tC49 : callable cx.P 49 = true := by kernel_rfl
theorem Wv4_tC58 : callable cx.P 58 = true := by kernel_rfl
theorem Wv4_tC63 : callable cx.P 63 = true := by kernel_rfl
theorem Wv4_tC24 : callable cx.P 24 = true := by kernel_rfl
theorem Wv4_tC61 : callable cx.P 61 = true := by kernel_rfl
theorem c_NumDivisors (a b c : ByteArray) (hsz : a.size ≤ 9223372036854775807) (hsb : b.size ≤ 9223372036854775807) (hsc : c.size ≤ 9223372036854775807) : ECalls cx 13 [(AV.lit (.string (a))), (AV.lit (.string (b))), (AV.lit (.string (c)))] (.lit (.bool true)) := by
  refine ecalls_of_awp Tryd.func13 (c := _) rfl (Nat.le_of_ble_eq_true rfl) ?_
  show awp cx 73 _ (postF cx Tryd.f13 _) ⟨[(0, (AV.lit (.string (a)))), (1, (AV.lit (.string (b)))), (2, (AV.lit (.string (c))))], []⟩
  refine awp_seq fun K0 hK0 => ?_
  refine awp_region rfl ?_
  refine o_assign (AV.lit (.bool false)) Gd.none rfl ?_
  refine aops_end ?_
  refine hK0 _ ?_
  refine awp_seq fun K1 hK1 => ?_
  refine awp_seq fun K2 hK2 => ?_
  refine awp_region rfl ?_
  refine o_move (AV.lit (.string (a))) Gd.none rfl ?_
  refine o_call [(AV.lit (.string (a)))] (AV.lit (.bool (okS (a)))) Gd.none Wv4_tC29 rfl (c_rValid (a) (by first | assumption | decide | omega)) ?_
  refine o_not (b := okS (a)) Gd.none rfl ?_
  refine o_move (AV.lit (.bool (!(okS (a))))) Gd.none rfl ?_
  refine o_split (b := !(okS (a))) 12 rfl (fun h1 => ?_) (fun h1 => ?_)
  · refine o_skip (b := !(okS (a))) rfl rfl h1 ?_
    refine o_skip (b := !(okS (a))) rfl rfl h1 ?_
    refine o_skip (b := !(okS (a))) rfl rfl h1 ?_
    refine o_pickT (b := !(okS (a))) (AV.lit (.bool true)) Gd.none rfl h1 rfl ?_
    refine o_move (AV.lit (.bool true)) Gd.none rfl ?_
    refine o_skip (b := true) rfl rfl rfl ?_
    refine o_skip (b := true) rfl rfl rfl ?_
    refine o_skip (b := true) rfl rfl rfl ?_
    refine o_pickT (b := true) (AV.lit (.bool true)) Gd.none rfl rfl rfl ?_
    refine aops_end ?_
    refine hK2 _ ?_
    refine awp_condB (b := true) rfl (fun _ => ?_) (fun hh => absurd (hh.symm.trans rfl) (by decide))
    refine awp_seq fun K3 hK3 => ?_
    refine awp_region rfl ?_
    refine o_call [] (AV.lit (.bool true)) Gd.none Wv4_tC49 rfl c_l1Awake ?_
    refine o_assign (AV.lit (.bool true)) Gd.none rfl ?_
    refine aops_end ?_
    refine hK3 _ ?_
    refine awp_ret ?_
    refine post_ret ⟨[(AV.lit (.bool true))], And.intro (AV.le_refl _) (trivial), rfl, ?_⟩
    first | rfl | simp [bp]
  · have ha' : okS a = true := by simpa using h1
    refine o_move (AV.lit (.string (b))) (Gd.yes rfl rfl h1) rfl ?_
    refine o_call [(AV.lit (.string (b)))] (AV.lit (.bool (okS (b)))) (Gd.yes rfl rfl h1) Wv4_tC29 rfl (c_rValid (b) (by first | assumption | decide | omega)) ?_
    refine o_not (b := okS (b)) (Gd.yes rfl rfl h1) rfl ?_
    refine o_pickF (b := !(okS (a))) (AV.lit (.bool (!(okS (b))))) Gd.none rfl h1 rfl ?_
    refine o_move (AV.lit (.bool (!(okS (b))))) Gd.none rfl ?_
    refine o_split (b := !(okS (b))) 17 rfl (fun h2 => ?_) (fun h2 => ?_)
    · refine o_skip (b := !(okS (b))) rfl rfl h2 ?_
      refine o_skip (b := !(okS (b))) rfl rfl h2 ?_
      refine o_skip (b := !(okS (b))) rfl rfl h2 ?_
      refine o_pickT (b := !(okS (b))) (AV.lit (.bool true)) Gd.none rfl h2 rfl ?_
      refine aops_end ?_
      refine hK2 _ ?_
      refine awp_condB (b := true) rfl (fun _ => ?_) (fun hh => absurd (hh.symm.trans rfl) (by decide))
      refine awp_seq fun K4 hK4 => ?_
      refine awp_region rfl ?_
      refine o_call [] (AV.lit (.bool true)) Gd.none Wv4_tC49 rfl c_l1Awake ?_
      refine o_assign (AV.lit (.bool true)) Gd.none rfl ?_
      refine aops_end ?_
      refine hK4 _ ?_
      refine awp_ret ?_
      refine post_ret ⟨[(AV.lit (.bool true))], And.intro (AV.le_refl _) (trivial), rfl, ?_⟩
      first | rfl | simp [bp]
    · have hb' : okS b = true := by simpa using h2
      refine o_move (AV.lit (.string (c))) (Gd.yes rfl rfl h2) rfl ?_
      refine o_call [(AV.lit (.string (c)))] (AV.lit (.bool (okS (c)))) (Gd.yes rfl rfl h2) Wv4_tC29 rfl (c_rValid (c) (by first | assumption | decide | omega)) ?_
      refine o_not (b := okS (c)) (Gd.yes rfl rfl h2) rfl ?_
      refine o_pickF (b := !(okS (b))) (AV.lit (.bool (!(okS (c))))) Gd.none rfl h2 rfl ?_
      refine aops_end ?_
      refine hK2 _ ?_
      refine awp_condB (b := !(okS (c))) rfl (fun h3 => ?_) (fun h3 => ?_)
      · refine awp_seq fun K5 hK5 => ?_
        refine awp_region rfl ?_
        refine o_call [] (AV.lit (.bool true)) Gd.none Wv4_tC49 rfl c_l1Awake ?_
        refine o_assign (AV.lit (.bool true)) Gd.none rfl ?_
        refine aops_end ?_
        refine hK5 _ ?_
        refine awp_ret ?_
        refine post_ret ⟨[(AV.lit (.bool true))], And.intro (AV.le_refl _) (trivial), rfl, ?_⟩
        first | rfl | simp [bp]
      · have hc' : okS c = true := by simpa using h3
        have hst : (if okS a && okS b then toldS ((Int.gcd (numS a) (numS b) : Nat) : Int) else ({ data := #[] } : ByteArray)).size ≤ 9223372036854775807 := by split; exact told_sz _; decide
        refine awp_skip ?_
        refine hK1 _ ?_
        refine awp_seq fun K6 hK6 => ?_
        refine awp_region rfl ?_
        refine o_move (AV.lit (.string (a))) Gd.none rfl ?_
        refine o_move (AV.lit (.string (b))) Gd.none rfl ?_
        refine o_call [(AV.lit (.string (a))), (AV.lit (.string (b)))] (AV.tup [(AV.lit (.string ((if okS (a) && okS (b) then (toldS ((Int.gcd (numS (a)) (numS (b)) : Nat) : Int)) else (({ data := #[] } : ByteArray)))))), (nm .i64 ((if okS (a) && okS (b) then (toldE ((Int.gcd (numS (a)) (numS (b)) : Nat) : Int)) else (1))))]) Gd.none Wv4_tC58 rfl (c_nGcd (a) (b) (by first | assumption | decide | omega) (by first | assumption | decide | omega)) ?_
        refine o_move (AV.tup [(AV.lit (.string ((if okS (a) && okS (b) then (toldS ((Int.gcd (numS (a)) (numS (b)) : Nat) : Int)) else (({ data := #[] } : ByteArray)))))), (nm .i64 ((if okS (a) && okS (b) then (toldE ((Int.gcd (numS (a)) (numS (b)) : Nat) : Int)) else (1))))]) Gd.none rfl ?_
        refine o_extract (AV.lit (.string ((if okS (a) && okS (b) then (toldS ((Int.gcd (numS (a)) (numS (b)) : Nat) : Int)) else (({ data := #[] } : ByteArray)))))) Gd.none rfl rfl ?_
        refine o_extract (nm .i64 ((if okS (a) && okS (b) then (toldE ((Int.gcd (numS (a)) (numS (b)) : Nat) : Int)) else (1)))) Gd.none rfl rfl ?_
        refine o_assign (AV.lit (.string ((if okS (a) && okS (b) then (toldS ((Int.gcd (numS (a)) (numS (b)) : Nat) : Int)) else (({ data := #[] } : ByteArray)))))) Gd.none rfl ?_
        refine o_assign (nm .i64 ((if okS (a) && okS (b) then (toldE ((Int.gcd (numS (a)) (numS (b)) : Nat) : Int)) else (1)))) Gd.none rfl ?_
        refine aops_end ?_
        refine hK6 _ ?_
        refine awp_seq fun K7 hK7 => ?_
        refine awp_seq fun K8 hK8 => ?_
        refine awp_region rfl ?_
        refine o_move (nm .i64 ((if okS (a) && okS (b) then (toldE ((Int.gcd (numS (a)) (numS (b)) : Nat) : Int)) else (1)))) Gd.none rfl ?_
        refine n_neq ((if okS (a) && okS (b) then (toldE ((Int.gcd (numS (a)) (numS (b)) : Nat) : Int)) else (1))) (0) Gd.none rfl rfl ?_
        refine aops_end ?_
        refine hK8 _ ?_
        refine awp_condQ (q := ((if okS (a) && okS (b) then (toldE ((Int.gcd (numS (a)) (numS (b)) : Nat) : Int)) else (1))) ≠ (0)) rfl (fun h4 => ?_) (fun h4 => ?_)
        · refine awp_seq fun K9 hK9 => ?_
          refine awp_region rfl ?_
          refine o_assign (AV.lit (.bool false)) Gd.none rfl ?_
          refine aops_end ?_
          refine hK9 _ ?_
          refine awp_ret ?_
          refine post_ret ⟨[(AV.lit (.bool false))], And.intro (AV.le_refl _) (trivial), rfl, ?_⟩
          exact absurd (dvs1 ha' hb') h4
        · refine awp_skip ?_
          refine hK7 _ ?_
          refine awp_seq fun K10 hK10 => ?_
          refine awp_seq fun K11 hK11 => ?_
          refine awp_region rfl ?_
          refine o_move (AV.lit (.string ((if okS (a) && okS (b) then (toldS ((Int.gcd (numS (a)) (numS (b)) : Nat) : Int)) else (({ data := #[] } : ByteArray)))))) Gd.none rfl ?_
          refine o_eqlS (a := ((if okS (a) && okS (b) then (toldS ((Int.gcd (numS (a)) (numS (b)) : Nat) : Int)) else (({ data := #[] } : ByteArray))))) (c := (({data := #[48]} : ByteArray))) Gd.none rfl rfl ?_
          refine aops_end ?_
          refine hK11 _ ?_
          refine awp_condQ (q := ((if okS (a) && okS (b) then (toldS ((Int.gcd (numS (a)) (numS (b)) : Nat) : Int)) else (({ data := #[] } : ByteArray)))).toList = (({data := #[48]} : ByteArray)).toList) rfl (fun h5 => ?_) (fun h5 => ?_)
          · refine awp_seq fun K12 hK12 => ?_
            refine awp_region rfl ?_
            refine o_move (AV.lit (.string (a))) Gd.none rfl ?_
            refine o_eqlS (a := (a)) (c := (({data := #[48]} : ByteArray))) Gd.none rfl rfl ?_
            refine o_move (bp ((a).toList = (({data := #[48]} : ByteArray)).toList)) Gd.none rfl ?_
            refine o_splitP (q := (a).toList = (({data := #[48]} : ByteArray)).toList) 35 rfl (fun h6 => ?_) (fun h6 => ?_)
            · refine o_move (AV.lit (.string (b))) (Gd.yes rfl rfl (decide_eq_true h6)) rfl ?_
              refine o_eqlS (a := (b)) (c := (({data := #[48]} : ByteArray))) (Gd.yes rfl rfl (decide_eq_true h6)) rfl rfl ?_
              refine o_pickT (b := decide ((a).toList = (({data := #[48]} : ByteArray)).toList)) (bp ((b).toList = (({data := #[48]} : ByteArray)).toList)) Gd.none rfl (decide_eq_true h6) rfl ?_
              refine o_move (bp ((b).toList = (({data := #[48]} : ByteArray)).toList)) Gd.none rfl ?_
              refine o_splitP (q := (b).toList = (({data := #[48]} : ByteArray)).toList) 39 rfl (fun h7 => ?_) (fun h7 => ?_)
              · refine o_call [] (AV.lit (.bool true)) (Gd.yes rfl rfl (decide_eq_true h7)) Wv4_tC49 rfl c_l1Awake ?_
                refine o_pickT (b := decide ((b).toList = (({data := #[48]} : ByteArray)).toList)) (AV.lit (.bool true)) Gd.none rfl (decide_eq_true h7) rfl ?_
                refine o_assign (AV.lit (.bool true)) Gd.none rfl ?_
                refine aops_end ?_
                refine hK12 _ ?_
                refine awp_ret ?_
                refine post_ret ⟨[(AV.lit (.bool true))], And.intro (AV.le_refl _) (trivial), rfl, ?_⟩
                first | rfl | simp [bp]
              · refine o_skip (b := decide ((b).toList = (({data := #[48]} : ByteArray)).toList)) rfl rfl (decide_eq_false h7) ?_
                refine o_pickF (b := decide ((b).toList = (({data := #[48]} : ByteArray)).toList)) (AV.lit (.bool false)) Gd.none rfl (decide_eq_false h7) rfl ?_
                refine o_assign (AV.lit (.bool false)) Gd.none rfl ?_
                refine aops_end ?_
                refine hK12 _ ?_
                refine awp_ret ?_
                refine post_ret ⟨[(AV.lit (.bool false))], And.intro (AV.le_refl _) (trivial), rfl, ?_⟩
                exact absurd (str_eq.2 (dvs2 ha' hb' (str_eq.1 h5)).2) h7
            · refine o_skip (b := decide ((a).toList = (({data := #[48]} : ByteArray)).toList)) rfl rfl (decide_eq_false h6) ?_
              refine o_skip (b := decide ((a).toList = (({data := #[48]} : ByteArray)).toList)) rfl rfl (decide_eq_false h6) ?_
              refine o_pickF (b := decide ((a).toList = (({data := #[48]} : ByteArray)).toList)) (AV.lit (.bool false)) Gd.none rfl (decide_eq_false h6) rfl ?_
              refine o_move (AV.lit (.bool false)) Gd.none rfl ?_
              refine o_skip (b := false) rfl rfl rfl ?_
              refine o_pickF (b := false) (AV.lit (.bool false)) Gd.none rfl rfl rfl ?_
              refine o_assign (AV.lit (.bool false)) Gd.none rfl ?_
              refine aops_end ?_
              refine hK12 _ ?_
              refine awp_ret ?_
              refine post_ret ⟨[(AV.lit (.bool false))], And.intro (AV.le_refl _) (trivial), rfl, ?_⟩
              exact absurd (str_eq.2 (dvs2 ha' hb' (str_eq.1 h5)).1) h6
          · refine awp_skip ?_
            refine hK10 _ ?_
            refine awp_seq fun K13 hK13 => ?_
            refine awp_seq fun K14 hK14 => ?_
            refine awp_region rfl ?_
            refine o_move (AV.lit (.string ((if okS (a) && okS (b) then (toldS ((Int.gcd (numS (a)) (numS (b)) : Nat) : Int)) else (({ data := #[] } : ByteArray)))))) Gd.none rfl ?_
            refine o_move (AV.lit (.string (a))) Gd.none rfl ?_
            refine o_call [(AV.lit (.string ((if okS (a) && okS (b) then (toldS ((Int.gcd (numS (a)) (numS (b)) : Nat) : Int)) else (({ data := #[] } : ByteArray)))))), (AV.lit (.string (a)))] (bp (divsS ((if okS (a) && okS (b) then (toldS ((Int.gcd (numS (a)) (numS (b)) : Nat) : Int)) else (({ data := #[] } : ByteArray)))) (a))) Gd.none Wv4_tC63 rfl (c_l1Divides ((if okS (a) && okS (b) then (toldS ((Int.gcd (numS (a)) (numS (b)) : Nat) : Int)) else (({ data := #[] } : ByteArray)))) (a) (by first | assumption | decide | omega) (by first | assumption | decide | omega)) ?_
            refine o_notP (q := divsS ((if okS (a) && okS (b) then (toldS ((Int.gcd (numS (a)) (numS (b)) : Nat) : Int)) else (({ data := #[] } : ByteArray)))) (a)) Gd.none rfl ?_
            refine o_move (bp (¬ (divsS ((if okS (a) && okS (b) then (toldS ((Int.gcd (numS (a)) (numS (b)) : Nat) : Int)) else (({ data := #[] } : ByteArray)))) (a)))) Gd.none rfl ?_
            refine o_splitP (q := ¬ (divsS ((if okS (a) && okS (b) then (toldS ((Int.gcd (numS (a)) (numS (b)) : Nat) : Int)) else (({ data := #[] } : ByteArray)))) (a))) 46 rfl (fun h8 => ?_) (fun h8 => ?_)
            · refine o_skip (b := decide (¬ (divsS ((if okS (a) && okS (b) then (toldS ((Int.gcd (numS (a)) (numS (b)) : Nat) : Int)) else (({ data := #[] } : ByteArray)))) (a)))) rfl rfl (decide_eq_true h8) ?_
              refine o_skip (b := decide (¬ (divsS ((if okS (a) && okS (b) then (toldS ((Int.gcd (numS (a)) (numS (b)) : Nat) : Int)) else (({ data := #[] } : ByteArray)))) (a)))) rfl rfl (decide_eq_true h8) ?_
              refine o_skip (b := decide (¬ (divsS ((if okS (a) && okS (b) then (toldS ((Int.gcd (numS (a)) (numS (b)) : Nat) : Int)) else (({ data := #[] } : ByteArray)))) (a)))) rfl rfl (decide_eq_true h8) ?_
              refine o_skip (b := decide (¬ (divsS ((if okS (a) && okS (b) then (toldS ((Int.gcd (numS (a)) (numS (b)) : Nat) : Int)) else (({ data := #[] } : ByteArray)))) (a)))) rfl rfl (decide_eq_true h8) ?_
              refine o_pickT (b := decide (¬ (divsS ((if okS (a) && okS (b) then (toldS ((Int.gcd (numS (a)) (numS (b)) : Nat) : Int)) else (({ data := #[] } : ByteArray)))) (a)))) (AV.lit (.bool true)) Gd.none rfl (decide_eq_true h8) rfl ?_
              refine aops_end ?_
              refine hK14 _ ?_
              refine awp_condB (b := true) rfl (fun _ => ?_) (fun hh => absurd (hh.symm.trans rfl) (by decide))
              refine awp_seq fun K15 hK15 => ?_
              refine awp_region rfl ?_
              refine o_assign (AV.lit (.bool false)) Gd.none rfl ?_
              refine aops_end ?_
              refine hK15 _ ?_
              refine awp_ret ?_
              refine post_ret ⟨[(AV.lit (.bool false))], And.intro (AV.le_refl _) (trivial), rfl, ?_⟩
              exact absurd (dvs3 ha' hb' (fun e => h5 (str_eq.2 e))).1 h8
            · refine o_move (AV.lit (.string ((if okS (a) && okS (b) then (toldS ((Int.gcd (numS (a)) (numS (b)) : Nat) : Int)) else (({ data := #[] } : ByteArray)))))) (Gd.yes rfl rfl (decide_eq_false h8)) rfl ?_
              refine o_move (AV.lit (.string (b))) (Gd.yes rfl rfl (decide_eq_false h8)) rfl ?_
              refine o_call [(AV.lit (.string ((if okS (a) && okS (b) then (toldS ((Int.gcd (numS (a)) (numS (b)) : Nat) : Int)) else (({ data := #[] } : ByteArray)))))), (AV.lit (.string (b)))] (bp (divsS ((if okS (a) && okS (b) then (toldS ((Int.gcd (numS (a)) (numS (b)) : Nat) : Int)) else (({ data := #[] } : ByteArray)))) (b))) (Gd.yes rfl rfl (decide_eq_false h8)) Wv4_tC63 rfl (c_l1Divides ((if okS (a) && okS (b) then (toldS ((Int.gcd (numS (a)) (numS (b)) : Nat) : Int)) else (({ data := #[] } : ByteArray)))) (b) (by first | assumption | decide | omega) (by first | assumption | decide | omega)) ?_
              refine o_notP (q := divsS ((if okS (a) && okS (b) then (toldS ((Int.gcd (numS (a)) (numS (b)) : Nat) : Int)) else (({ data := #[] } : ByteArray)))) (b)) (Gd.yes rfl rfl (decide_eq_false h8)) rfl ?_
              refine o_pickF (b := decide (¬ (divsS ((if okS (a) && okS (b) then (toldS ((Int.gcd (numS (a)) (numS (b)) : Nat) : Int)) else (({ data := #[] } : ByteArray)))) (a)))) (bp (¬ (divsS ((if okS (a) && okS (b) then (toldS ((Int.gcd (numS (a)) (numS (b)) : Nat) : Int)) else (({ data := #[] } : ByteArray)))) (b)))) Gd.none rfl (decide_eq_false h8) rfl ?_
              refine aops_end ?_
              refine hK14 _ ?_
              refine awp_condQ (q := ¬ (divsS ((if okS (a) && okS (b) then (toldS ((Int.gcd (numS (a)) (numS (b)) : Nat) : Int)) else (({ data := #[] } : ByteArray)))) (b))) rfl (fun h9 => ?_) (fun h9 => ?_)
              · refine awp_seq fun K16 hK16 => ?_
                refine awp_region rfl ?_
                refine o_assign (AV.lit (.bool false)) Gd.none rfl ?_
                refine aops_end ?_
                refine hK16 _ ?_
                refine awp_ret ?_
                refine post_ret ⟨[(AV.lit (.bool false))], And.intro (AV.le_refl _) (trivial), rfl, ?_⟩
                exact absurd (dvs3 ha' hb' (fun e => h5 (str_eq.2 e))).2 h9
              · refine awp_skip ?_
                refine hK13 _ ?_
                refine awp_seq fun K17 hK17 => ?_
                refine awp_seq fun K18 hK18 => ?_
                refine awp_region rfl ?_
                refine o_move (AV.lit (.string (c))) Gd.none rfl ?_
                refine o_call [(AV.lit (.string (c)))] (intR ((numS (c)))) Gd.none Wv4_tC24 rfl (c_rParse (c) (by first | assumption | exact okS_iff.1 (by assumption))) ?_
                refine o_call [(intR ((numS (c))))] (AV.lit (.int .i64 (sgn ((numS (c)))))) Gd.none Wv4_tC61 rfl (c_rSign ((numS (c)))) ?_
                refine o_gtr (a := (sgn ((numS (c))))) (c := (((0 : Nat) : Int))) Gd.none rfl rfl ?_
                refine o_move (bp ((((0 : Nat) : Int)) < (sgn ((numS (c)))))) Gd.none rfl ?_
                refine o_splitP (q := (((0 : Nat) : Int)) < (sgn ((numS (c))))) 56 rfl (fun h10 => ?_) (fun h10 => ?_)
                · refine o_move (AV.lit (.string (c))) (Gd.yes rfl rfl (decide_eq_true h10)) rfl ?_
                  refine o_move (AV.lit (.string (a))) (Gd.yes rfl rfl (decide_eq_true h10)) rfl ?_
                  refine o_call [(AV.lit (.string (c))), (AV.lit (.string (a)))] (bp (divsS (c) (a))) (Gd.yes rfl rfl (decide_eq_true h10)) Wv4_tC63 rfl (c_l1Divides (c) (a) (by first | assumption | decide | omega) (by first | assumption | decide | omega)) ?_
                  refine o_pickT (b := decide ((((0 : Nat) : Int)) < (sgn ((numS (c)))))) (bp (divsS (c) (a))) Gd.none rfl (decide_eq_true h10) rfl ?_
                  refine o_move (bp (divsS (c) (a))) Gd.none rfl ?_
                  refine o_splitP (q := divsS (c) (a)) 61 rfl (fun h11 => ?_) (fun h11 => ?_)
                  · refine o_move (AV.lit (.string (c))) (Gd.yes rfl rfl (decide_eq_true h11)) rfl ?_
                    refine o_move (AV.lit (.string (b))) (Gd.yes rfl rfl (decide_eq_true h11)) rfl ?_
                    refine o_call [(AV.lit (.string (c))), (AV.lit (.string (b)))] (bp (divsS (c) (b))) (Gd.yes rfl rfl (decide_eq_true h11)) Wv4_tC63 rfl (c_l1Divides (c) (b) (by first | assumption | decide | omega) (by first | assumption | decide | omega)) ?_
                    refine o_pickT (b := decide (divsS (c) (a))) (bp (divsS (c) (b))) Gd.none rfl (decide_eq_true h11) rfl ?_
                    refine aops_end ?_
                    refine hK18 _ ?_
                    refine awp_condQ (q := divsS (c) (b)) rfl (fun h12 => ?_) (fun h12 => ?_)
                    · refine awp_seq fun K19 hK19 => ?_
                      refine awp_region rfl ?_
                      refine o_move (AV.lit (.string (c))) Gd.none rfl ?_
                      refine o_move (AV.lit (.string ((if okS (a) && okS (b) then (toldS ((Int.gcd (numS (a)) (numS (b)) : Nat) : Int)) else (({ data := #[] } : ByteArray)))))) Gd.none rfl ?_
                      refine o_call [(AV.lit (.string (c))), (AV.lit (.string ((if okS (a) && okS (b) then (toldS ((Int.gcd (numS (a)) (numS (b)) : Nat) : Int)) else (({ data := #[] } : ByteArray))))))] (bp (divsS (c) ((if okS (a) && okS (b) then (toldS ((Int.gcd (numS (a)) (numS (b)) : Nat) : Int)) else (({ data := #[] } : ByteArray)))))) Gd.none Wv4_tC63 rfl (c_l1Divides (c) ((if okS (a) && okS (b) then (toldS ((Int.gcd (numS (a)) (numS (b)) : Nat) : Int)) else (({ data := #[] } : ByteArray)))) (by first | assumption | decide | omega) (by first | assumption | decide | omega)) ?_
                      refine o_move (bp (divsS (c) ((if okS (a) && okS (b) then (toldS ((Int.gcd (numS (a)) (numS (b)) : Nat) : Int)) else (({ data := #[] } : ByteArray)))))) Gd.none rfl ?_
                      refine o_splitP (q := divsS (c) ((if okS (a) && okS (b) then (toldS ((Int.gcd (numS (a)) (numS (b)) : Nat) : Int)) else (({ data := #[] } : ByteArray))))) 69 rfl (fun h13 => ?_) (fun h13 => ?_)
                      · refine o_call [] (AV.lit (.bool true)) (Gd.yes rfl rfl (decide_eq_true h13)) Wv4_tC49 rfl c_l1Awake ?_
                        refine o_pickT (b := decide (divsS (c) ((if okS (a) && okS (b) then (toldS ((Int.gcd (numS (a)) (numS (b)) : Nat) : Int)) else (({ data := #[] } : ByteArray)))))) (AV.lit (.bool true)) Gd.none rfl (decide_eq_true h13) rfl ?_
                        refine o_assign (AV.lit (.bool true)) Gd.none rfl ?_
                        refine aops_end ?_
                        refine hK19 _ ?_
                        refine awp_ret ?_
                        refine post_ret ⟨[(AV.lit (.bool true))], And.intro (AV.le_refl _) (trivial), rfl, ?_⟩
                        first | rfl | simp [bp]
                      · refine o_skip (b := decide (divsS (c) ((if okS (a) && okS (b) then (toldS ((Int.gcd (numS (a)) (numS (b)) : Nat) : Int)) else (({ data := #[] } : ByteArray)))))) rfl rfl (decide_eq_false h13) ?_
                        refine o_pickF (b := decide (divsS (c) ((if okS (a) && okS (b) then (toldS ((Int.gcd (numS (a)) (numS (b)) : Nat) : Int)) else (({ data := #[] } : ByteArray)))))) (AV.lit (.bool false)) Gd.none rfl (decide_eq_false h13) rfl ?_
                        refine o_assign (AV.lit (.bool false)) Gd.none rfl ?_
                        refine aops_end ?_
                        refine hK19 _ ?_
                        refine awp_ret ?_
                        refine post_ret ⟨[(AV.lit (.bool false))], And.intro (AV.le_refl _) (trivial), rfl, ?_⟩
                        exact absurd (dvs4 ha' hb' hc' (sgn_pos.1 h10) h11 h12) h13
                    · refine awp_skip ?_
                      refine hK17 _ ?_
                      refine awp_seq fun K20 hK20 => ?_
                      refine awp_region rfl ?_
                      refine o_call [] (AV.lit (.bool true)) Gd.none Wv4_tC49 rfl c_l1Awake ?_
                      refine o_assign (AV.lit (.bool true)) Gd.none rfl ?_
                      refine aops_end ?_
                      refine hK20 _ ?_
                      refine awp_ret ?_
                      refine post_ret ⟨[(AV.lit (.bool true))], And.intro (AV.le_refl _) (trivial), rfl, ?_⟩
                      first | rfl | simp [bp]
                  · refine o_skip (b := decide (divsS (c) (a))) rfl rfl (decide_eq_false h11) ?_
                    refine o_skip (b := decide (divsS (c) (a))) rfl rfl (decide_eq_false h11) ?_
                    refine o_skip (b := decide (divsS (c) (a))) rfl rfl (decide_eq_false h11) ?_
                    refine o_pickF (b := decide (divsS (c) (a))) (AV.lit (.bool false)) Gd.none rfl (decide_eq_false h11) rfl ?_
                    refine aops_end ?_
                    refine hK18 _ ?_
                    refine awp_condB (b := false) rfl (fun hh => absurd (hh.symm.trans rfl) (by decide)) (fun _ => ?_)
                    refine awp_skip ?_
                    refine hK17 _ ?_
                    refine awp_seq fun K21 hK21 => ?_
                    refine awp_region rfl ?_
                    refine o_call [] (AV.lit (.bool true)) Gd.none Wv4_tC49 rfl c_l1Awake ?_
                    refine o_assign (AV.lit (.bool true)) Gd.none rfl ?_
                    refine aops_end ?_
                    refine hK21 _ ?_
                    refine awp_ret ?_
                    refine post_ret ⟨[(AV.lit (.bool true))], And.intro (AV.le_refl _) (trivial), rfl, ?_⟩
                    first | rfl | simp [bp]
                · refine o_skip (b := decide ((((0 : Nat) : Int)) < (sgn ((numS (c)))))) rfl rfl (decide_eq_false h10) ?_
                  refine o_skip (b := decide ((((0 : Nat) : Int)) < (sgn ((numS (c)))))) rfl rfl (decide_eq_false h10) ?_
                  refine o_skip (b := decide ((((0 : Nat) : Int)) < (sgn ((numS (c)))))) rfl rfl (decide_eq_false h10) ?_
                  refine o_pickF (b := decide ((((0 : Nat) : Int)) < (sgn ((numS (c)))))) (AV.lit (.bool false)) Gd.none rfl (decide_eq_false h10) rfl ?_
                  refine o_move (AV.lit (.bool false)) Gd.none rfl ?_
                  refine o_skip (b := false) rfl rfl rfl ?_
                  refine o_skip (b := false) rfl rfl rfl ?_
                  refine o_skip (b := false) rfl rfl rfl ?_
                  refine o_pickF (b := false) (AV.lit (.bool false)) Gd.none rfl rfl rfl ?_
                  refine aops_end ?_
                  refine hK18 _ ?_
                  refine awp_condB (b := false) rfl (fun hh => absurd (hh.symm.trans rfl) (by decide)) (fun _ => ?_)
                  refine awp_skip ?_
                  refine hK17 _ ?_
                  refine awp_seq fun K22 hK22 => ?_
                  refine awp_region rfl ?_
                  refine o_call [] (AV.lit (.bool true)) Gd.none Wv4_tC49 rfl c_l1Awake ?_
                  refine o_assign (AV.lit (.bool true)) Gd.none rfl ?_
                  refine aops_end ?_
                  refine hK22 _ ?_
                  refine awp_ret ?_
                  refine post_ret ⟨[(AV.lit (.bool true))], And.intro (AV.le_refl _) (trivial), rfl, ?_⟩
                  first | rfl | simp [bp]

end Go.Proofs.YtkngglpnejdicaaDoor
