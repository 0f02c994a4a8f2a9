import Derived.Test.YtkngglpnejdicaaDoorWu
import Derived.Test.YtkngglpnejdicaaDoorLq
set_option linter.unusedVariables false
set_option linter.unusedSimpArgs false
namespace Go.Proofs.YtkngglpnejdicaaDoor
open Go Go.Ab Go.Mth
theorem Wv6_tC29 : callable cx.P 29 = true := by kernel_rfl
theorem Wv6_tC49 : callable cx.P 49 = true := by kernel_rfl
theorem Wv6_tC24 : callable cx.P 24 = true := by kernel_rfl
theorem Wv6_tC61 : callable cx.P 61 = true := by kernel_rfl
theorem Wv6_tC57 : callable cx.P 57 = true := by kernel_rfl
theorem Wv6_tC64 : callable cx.P 64 = true := by kernel_rfl
theorem Wv6_tC53 : callable cx.P 53 = true := by kernel_rfl
theorem Wv6_tC52 : callable cx.P 52 = true := by kernel_rfl
theorem Wv6_tC54 : callable cx.P 54 = true := by kernel_rfl
theorem Wv6_tT9 : cx.P.underlying 9 = some .string := by kernel_rfl
theorem Wv6_tI5 : tyInt cx.P 5 = some .u8 := by kernel_rfl
theorem Wv6_tI3 : tyInt cx.P 3 = some .i64 := by kernel_rfl
theorem Wv6_tC66 : callable cx.P 66 = true := by kernel_rfl
theorem Wv6_tC31 : callable cx.P 31 = true := by kernel_rfl
theorem Wv6_tC26 : callable cx.P 26 = true := by kernel_rfl
theorem Wv6_tC56 : callable cx.P 56 = true := by kernel_rfl
theorem c_NumQuotients (a b : ByteArray) (hsz : a.size ≤ 9223372036854775807) (hsb : b.size ≤ 9223372036854775807) : ECalls cx 17 [(AV.lit (.string (a))), (AV.lit (.string (b)))] (.lit (.bool true)) := by
  refine ecalls_of_awp Tryd.func17 (c := _) rfl (Nat.le_of_ble_eq_true rfl) ?_
  show awp cx 122 _ (postF cx Tryd.f17 _) ⟨[(0, (AV.lit (.string (a)))), (1, (AV.lit (.string (b))))], []⟩
  refine awp_seq fun K0 hK0 => ?_
  refine awp_region rfl ?_
  refine o_assign (AV.lit (.bool false)) Gd.none rfl ?_
  refine aops_end ?_
  refine hK0 _ ?_
  refine awp_seq fun K1 hK1 => ?_
  refine awp_seq fun K2 hK2 => ?_
  refine awp_region rfl ?_
  refine o_move (AV.lit (.string (a))) Gd.none rfl ?_
  refine o_call [(AV.lit (.string (a)))] (AV.lit (.bool (okS (a)))) Gd.none Wv6_tC29 rfl (c_rValid (a) (by first | assumption | decide | omega)) ?_
  refine o_not (b := okS (a)) Gd.none rfl ?_
  refine o_move (AV.lit (.bool (!(okS (a))))) Gd.none rfl ?_
  refine o_split (b := !(okS (a))) 21 rfl (fun h1 => ?_) (fun h1 => ?_)
  · refine o_skip (b := !(okS (a))) rfl rfl h1 ?_
    refine o_skip (b := !(okS (a))) rfl rfl h1 ?_
    refine o_skip (b := !(okS (a))) rfl rfl h1 ?_
    refine o_pickT (b := !(okS (a))) (AV.lit (.bool true)) Gd.none rfl h1 rfl ?_
    refine o_move (AV.lit (.bool true)) Gd.none rfl ?_
    refine o_skip (b := true) rfl rfl rfl ?_
    refine o_skip (b := true) rfl rfl rfl ?_
    refine o_skip (b := true) rfl rfl rfl ?_
    refine o_skip (b := true) rfl rfl rfl ?_
    refine o_pickT (b := true) (AV.lit (.bool true)) Gd.none rfl rfl rfl ?_
    refine aops_end ?_
    refine hK2 _ ?_
    refine awp_condB (b := true) rfl (fun _ => ?_) (fun hh => absurd (hh.symm.trans rfl) (by decide))
    refine awp_seq fun K3 hK3 => ?_
    refine awp_region rfl ?_
    refine o_call [] (AV.lit (.bool true)) Gd.none Wv6_tC49 rfl c_l1Awake ?_
    refine o_assign (AV.lit (.bool true)) Gd.none rfl ?_
    refine aops_end ?_
    refine hK3 _ ?_
    refine awp_ret ?_
    refine post_ret ⟨[(AV.lit (.bool true))], And.intro (AV.le_refl _) (trivial), rfl, ?_⟩
    first | rfl | simp [bp]
  · have ha' : okS a = true := by simpa using h1
    refine o_move (AV.lit (.string (b))) (Gd.yes rfl rfl h1) rfl ?_
    refine o_call [(AV.lit (.string (b)))] (AV.lit (.bool (okS (b)))) (Gd.yes rfl rfl h1) Wv6_tC29 rfl (c_rValid (b) (by first | assumption | decide | omega)) ?_
    refine o_not (b := okS (b)) (Gd.yes rfl rfl h1) rfl ?_
    refine o_pickF (b := !(okS (a))) (AV.lit (.bool (!(okS (b))))) Gd.none rfl h1 rfl ?_
    refine o_move (AV.lit (.bool (!(okS (b))))) Gd.none rfl ?_
    refine o_split (b := !(okS (b))) 26 rfl (fun h2 => ?_) (fun h2 => ?_)
    · refine o_skip (b := !(okS (b))) rfl rfl h2 ?_
      refine o_skip (b := !(okS (b))) rfl rfl h2 ?_
      refine o_skip (b := !(okS (b))) rfl rfl h2 ?_
      refine o_skip (b := !(okS (b))) rfl rfl h2 ?_
      refine o_pickT (b := !(okS (b))) (AV.lit (.bool true)) Gd.none rfl h2 rfl ?_
      refine aops_end ?_
      refine hK2 _ ?_
      refine awp_condB (b := true) rfl (fun _ => ?_) (fun hh => absurd (hh.symm.trans rfl) (by decide))
      refine awp_seq fun K4 hK4 => ?_
      refine awp_region rfl ?_
      refine o_call [] (AV.lit (.bool true)) Gd.none Wv6_tC49 rfl c_l1Awake ?_
      refine o_assign (AV.lit (.bool true)) Gd.none rfl ?_
      refine aops_end ?_
      refine hK4 _ ?_
      refine awp_ret ?_
      refine post_ret ⟨[(AV.lit (.bool true))], And.intro (AV.le_refl _) (trivial), rfl, ?_⟩
      first | rfl | simp [bp]
    · have hb' : okS b = true := by simpa using h2
      refine o_move (AV.lit (.string (b))) (Gd.yes rfl rfl h2) rfl ?_
      refine o_call [(AV.lit (.string (b)))] (intR ((numS (b)))) (Gd.yes rfl rfl h2) Wv6_tC24 rfl (c_rParse (b) (by first | assumption | exact okS_iff.1 (by assumption))) ?_
      refine o_call [(intR ((numS (b))))] (AV.lit (.int .i64 (sgn ((numS (b)))))) (Gd.yes rfl rfl h2) Wv6_tC61 rfl (c_rSign ((numS (b)))) ?_
      refine o_leq (a := (sgn ((numS (b))))) (c := (((0 : Nat) : Int))) (Gd.yes rfl rfl h2) rfl rfl ?_
      refine o_pickF (b := !(okS (b))) (bp ((sgn ((numS (b)))) ≤ (((0 : Nat) : Int)))) Gd.none rfl h2 rfl ?_
      refine aops_end ?_
      refine hK2 _ ?_
      refine awp_condQ (q := (sgn ((numS (b)))) ≤ (((0 : Nat) : Int))) rfl (fun h3 => ?_) (fun h3 => ?_)
      · refine awp_seq fun K5 hK5 => ?_
        refine awp_region rfl ?_
        refine o_call [] (AV.lit (.bool true)) Gd.none Wv6_tC49 rfl c_l1Awake ?_
        refine o_assign (AV.lit (.bool true)) Gd.none rfl ?_
        refine aops_end ?_
        refine hK5 _ ?_
        refine awp_ret ?_
        refine post_ret ⟨[(AV.lit (.bool true))], And.intro (AV.le_refl _) (trivial), rfl, ?_⟩
        first | rfl | simp [bp]
      · have hb0 : 0 < numS b := Int.not_le.1 fun h => h3 (sgn_le.2 h)
        have dy := div_yes ⟨ha', hb'⟩ hb0
        have hfq := fit_div (fit_numS (okS_iff.1 ha')) hb0
        have hlq := fit_len hfq
        have hfr := fit_mod (x := numS a) (fit_numS (okS_iff.1 hb')) hb0
        have hlr := fit_len hfr
        have hsq := txt_sz2 hfq
        have hsr := txt_sz2 hfr
        have hm0 := Int.emod_nonneg (numS a) (show numS b ≠ 0 by omega)
        have hm1 := Int.emod_lt_of_pos (numS a) hb0
        obtain ⟨hnb, hdb⟩ := num_pos (okS_iff.1 hb') hb0
        refine awp_skip ?_
        refine hK1 _ ?_
        refine awp_seq fun K6 hK6 => ?_
        refine awp_region rfl ?_
        refine o_move (AV.lit (.string (a))) Gd.none rfl ?_
        refine o_move (AV.lit (.string (b))) Gd.none rfl ?_
        refine o_call [(AV.lit (.string (a))), (AV.lit (.string (b)))] (AV.tup [(AV.lit (.string (divQ (a) (b)))), (AV.lit (.string (divR (a) (b)))), (nm .i64 (divE (a) (b)))]) Gd.none Wv6_tC57 rfl (c_nDivide (a) (b) (by first | assumption | decide | omega) (by first | assumption | decide | omega)) ?_
        refine o_move (AV.tup [(AV.lit (.string (divQ (a) (b)))), (AV.lit (.string (divR (a) (b)))), (nm .i64 (divE (a) (b)))]) Gd.none rfl ?_
        refine o_extract (AV.lit (.string (divQ (a) (b)))) Gd.none rfl rfl ?_
        refine n_as (v' := (AV.lit (.string (txt (numS (a) / numS (b)))))) (by exact str_as2 dy.1) ?_
        refine o_extract (AV.lit (.string (divR (a) (b)))) Gd.none rfl rfl ?_
        refine n_as (v' := (AV.lit (.string (txt (numS (a) % numS (b)))))) (by exact str_as2 dy.2.1) ?_
        refine o_extract (nm .i64 (divE (a) (b))) Gd.none rfl rfl ?_
        refine n_as (v' := (nm .i64 (0))) (by exact congrArg (nm _) dy.2.2) ?_
        refine o_assign (AV.lit (.string (txt (numS (a) / numS (b))))) Gd.none rfl ?_
        refine o_assign (AV.lit (.string (txt (numS (a) % numS (b))))) Gd.none rfl ?_
        refine o_assign (nm .i64 (0)) Gd.none rfl ?_
        refine aops_end ?_
        refine hK6 _ ?_
        refine awp_seq fun K7 hK7 => ?_
        refine awp_seq fun K8 hK8 => ?_
        refine awp_region rfl ?_
        refine o_move (nm .i64 (0)) Gd.none rfl ?_
        refine n_neq (0) (0) Gd.none rfl rfl ?_
        refine aops_end ?_
        refine hK8 _ ?_
        refine awp_condB (b := decide ((0) ≠ (0))) rfl (fun hh => absurd (hh.symm.trans (decide_eq_false (by decide))) (by decide)) (fun _ => ?_)
        refine awp_skip ?_
        refine hK7 _ ?_
        refine awp_seq fun K9 hK9 => ?_
        refine awp_region rfl ?_
        refine o_move (AV.lit (.string (txt (numS (a) % numS (b))))) Gd.none rfl ?_
        refine o_call [(AV.lit (.string (txt (numS (a) % numS (b))))), (AV.lit (.string (({data := #[48]} : ByteArray))))] (AV.tup [(AV.lit (.int .i64 ((if okS (txt (numS (a) % numS (b))) && okS (({data := #[48]} : ByteArray)) then (cmpZ (numS (txt (numS (a) % numS (b)))) (numS (({data := #[48]} : ByteArray)))) else (0))))), (nm .i64 ((if okS (txt (numS (a) % numS (b))) && okS (({data := #[48]} : ByteArray)) then (0) else (1))))]) Gd.none Wv6_tC64 rfl (c_nCompare (txt (numS (a) % numS (b))) (({data := #[48]} : ByteArray)) (by first | assumption | decide | omega) (by first | assumption | decide | omega)) ?_
        refine o_move (AV.tup [(AV.lit (.int .i64 ((if okS (txt (numS (a) % numS (b))) && okS (({data := #[48]} : ByteArray)) then (cmpZ (numS (txt (numS (a) % numS (b)))) (numS (({data := #[48]} : ByteArray)))) else (0))))), (nm .i64 ((if okS (txt (numS (a) % numS (b))) && okS (({data := #[48]} : ByteArray)) then (0) else (1))))]) Gd.none rfl ?_
        refine o_extract (AV.lit (.int .i64 ((if okS (txt (numS (a) % numS (b))) && okS (({data := #[48]} : ByteArray)) then (cmpZ (numS (txt (numS (a) % numS (b)))) (numS (({data := #[48]} : ByteArray)))) else (0))))) Gd.none rfl rfl ?_
        refine n_as (v' := (AV.lit (.int .i64 (cmpZ (numS (a) % numS (b)) 0)))) (by exact int_eq (qc0 hfr).1) ?_
        refine o_extract (nm .i64 ((if okS (txt (numS (a) % numS (b))) && okS (({data := #[48]} : ByteArray)) then (0) else (1)))) Gd.none rfl rfl ?_
        refine n_as (v' := (nm .i64 (0))) (by exact congrArg (nm _) (qc0 hfr).2) ?_
        refine o_assign (AV.lit (.int .i64 (cmpZ (numS (a) % numS (b)) 0))) Gd.none rfl ?_
        refine o_assign (nm .i64 (0)) Gd.none rfl ?_
        refine aops_end ?_
        refine hK9 _ ?_
        refine awp_seq fun K10 hK10 => ?_
        refine awp_region rfl ?_
        refine o_move (AV.lit (.string (txt (numS (a) % numS (b))))) Gd.none rfl ?_
        refine o_move (AV.lit (.string (b))) Gd.none rfl ?_
        refine o_call [(AV.lit (.string (txt (numS (a) % numS (b))))), (AV.lit (.string (b)))] (AV.tup [(AV.lit (.int .i64 ((if okS (txt (numS (a) % numS (b))) && okS (b) then (cmpZ (numS (txt (numS (a) % numS (b)))) (numS (b))) else (0))))), (nm .i64 ((if okS (txt (numS (a) % numS (b))) && okS (b) then (0) else (1))))]) Gd.none Wv6_tC64 rfl (c_nCompare (txt (numS (a) % numS (b))) (b) (by first | assumption | decide | omega) (by first | assumption | decide | omega)) ?_
        refine o_move (AV.tup [(AV.lit (.int .i64 ((if okS (txt (numS (a) % numS (b))) && okS (b) then (cmpZ (numS (txt (numS (a) % numS (b)))) (numS (b))) else (0))))), (nm .i64 ((if okS (txt (numS (a) % numS (b))) && okS (b) then (0) else (1))))]) Gd.none rfl ?_
        refine o_extract (AV.lit (.int .i64 ((if okS (txt (numS (a) % numS (b))) && okS (b) then (cmpZ (numS (txt (numS (a) % numS (b)))) (numS (b))) else (0))))) Gd.none rfl rfl ?_
        refine n_as (v' := (AV.lit (.int .i64 (cmpZ (numS (a) % numS (b)) (numS (b)))))) (by exact int_eq (qcb hfr hb').1) ?_
        refine o_extract (nm .i64 ((if okS (txt (numS (a) % numS (b))) && okS (b) then (0) else (1)))) Gd.none rfl rfl ?_
        refine n_as (v' := (nm .i64 (0))) (by exact congrArg (nm _) (qcb hfr hb').2) ?_
        refine o_assign (AV.lit (.int .i64 (cmpZ (numS (a) % numS (b)) (numS (b))))) Gd.none rfl ?_
        refine o_assign (nm .i64 (0)) Gd.none rfl ?_
        refine aops_end ?_
        refine hK10 _ ?_
        refine awp_seq fun K11 hK11 => ?_
        refine awp_seq fun K12 hK12 => ?_
        refine awp_region rfl ?_
        refine o_move (nm .i64 (0)) Gd.none rfl ?_
        refine n_neq (0) (0) Gd.none rfl rfl ?_
        refine o_move (bp ((0) ≠ (0))) Gd.none rfl ?_
        refine o_move (nm .i64 (0)) (Gd.yes rfl rfl (decide_eq_false (by decide))) rfl ?_
        refine n_neq (0) (0) (Gd.yes rfl rfl (decide_eq_false (by decide))) rfl rfl ?_
        refine o_pickF (b := decide ((0) ≠ (0))) (bp ((0) ≠ (0))) Gd.none rfl (decide_eq_false (by decide)) rfl ?_
        refine o_move (bp ((0) ≠ (0))) Gd.none rfl ?_
        refine o_move (AV.lit (.int .i64 (cmpZ (numS (a) % numS (b)) 0))) (Gd.yes rfl rfl (decide_eq_false (by decide))) rfl ?_
        refine o_lss (a := (cmpZ (numS (a) % numS (b)) 0)) (c := (((0 : Nat) : Int))) (Gd.yes rfl rfl (decide_eq_false (by decide))) rfl rfl ?_
        refine o_pickF (b := decide ((0) ≠ (0))) (bp ((cmpZ (numS (a) % numS (b)) 0) < (((0 : Nat) : Int)))) Gd.none rfl (decide_eq_false (by decide)) rfl ?_
        refine o_move (bp ((cmpZ (numS (a) % numS (b)) 0) < (((0 : Nat) : Int)))) Gd.none rfl ?_
        refine o_splitP (q := (cmpZ (numS (a) % numS (b)) 0) < (((0 : Nat) : Int))) 63 rfl (fun h4 => ?_) (fun h4 => ?_)
        · refine o_skip (b := decide ((cmpZ (numS (a) % numS (b)) 0) < (((0 : Nat) : Int)))) rfl rfl (decide_eq_true h4) ?_
          refine o_skip (b := decide ((cmpZ (numS (a) % numS (b)) 0) < (((0 : Nat) : Int)))) rfl rfl (decide_eq_true h4) ?_
          refine o_pickT (b := decide ((cmpZ (numS (a) % numS (b)) 0) < (((0 : Nat) : Int)))) (AV.lit (.bool true)) Gd.none rfl (decide_eq_true h4) rfl ?_
          refine o_move (AV.lit (.bool true)) Gd.none rfl ?_
          refine o_skip (b := true) rfl rfl rfl ?_
          refine o_skip (b := true) rfl rfl rfl ?_
          refine o_skip (b := true) rfl rfl rfl ?_
          refine o_skip (b := true) rfl rfl rfl ?_
          refine o_skip (b := true) rfl rfl rfl ?_
          refine o_skip (b := true) rfl rfl rfl ?_
          refine o_skip (b := true) rfl rfl rfl ?_
          refine o_skip (b := true) rfl rfl rfl ?_
          refine o_pickT (b := true) (AV.lit (.bool true)) Gd.none rfl rfl rfl ?_
          refine aops_end ?_
          refine hK12 _ ?_
          refine awp_condB (b := true) rfl (fun _ => ?_) (fun hh => absurd (hh.symm.trans rfl) (by decide))
          refine awp_seq fun K13 hK13 => ?_
          refine awp_region rfl ?_
          refine o_assign (AV.lit (.bool false)) Gd.none rfl ?_
          refine aops_end ?_
          refine hK13 _ ?_
          refine awp_ret ?_
          refine post_ret ⟨[(AV.lit (.bool false))], And.intro (AV.le_refl _) (trivial), rfl, ?_⟩
          exact absurd h4 (cmp_lt0 hm0)
        · refine o_move (AV.lit (.int .i64 (cmpZ (numS (a) % numS (b)) (numS (b))))) (Gd.yes rfl rfl (decide_eq_false h4)) rfl ?_
          refine o_geq (a := (cmpZ (numS (a) % numS (b)) (numS (b)))) (c := (((0 : Nat) : Int))) (Gd.yes rfl rfl (decide_eq_false h4)) rfl rfl ?_
          refine o_pickF (b := decide ((cmpZ (numS (a) % numS (b)) 0) < (((0 : Nat) : Int)))) (bp ((((0 : Nat) : Int)) ≤ (cmpZ (numS (a) % numS (b)) (numS (b))))) Gd.none rfl (decide_eq_false h4) rfl ?_
          refine o_move (bp ((((0 : Nat) : Int)) ≤ (cmpZ (numS (a) % numS (b)) (numS (b))))) Gd.none rfl ?_
          refine o_splitP (q := (((0 : Nat) : Int)) ≤ (cmpZ (numS (a) % numS (b)) (numS (b)))) 67 rfl (fun h5 => ?_) (fun h5 => ?_)
          · refine o_skip (b := decide ((((0 : Nat) : Int)) ≤ (cmpZ (numS (a) % numS (b)) (numS (b))))) rfl rfl (decide_eq_true h5) ?_
            refine o_skip (b := decide ((((0 : Nat) : Int)) ≤ (cmpZ (numS (a) % numS (b)) (numS (b))))) rfl rfl (decide_eq_true h5) ?_
            refine o_skip (b := decide ((((0 : Nat) : Int)) ≤ (cmpZ (numS (a) % numS (b)) (numS (b))))) rfl rfl (decide_eq_true h5) ?_
            refine o_skip (b := decide ((((0 : Nat) : Int)) ≤ (cmpZ (numS (a) % numS (b)) (numS (b))))) rfl rfl (decide_eq_true h5) ?_
            refine o_skip (b := decide ((((0 : Nat) : Int)) ≤ (cmpZ (numS (a) % numS (b)) (numS (b))))) rfl rfl (decide_eq_true h5) ?_
            refine o_skip (b := decide ((((0 : Nat) : Int)) ≤ (cmpZ (numS (a) % numS (b)) (numS (b))))) rfl rfl (decide_eq_true h5) ?_
            refine o_skip (b := decide ((((0 : Nat) : Int)) ≤ (cmpZ (numS (a) % numS (b)) (numS (b))))) rfl rfl (decide_eq_true h5) ?_
            refine o_skip (b := decide ((((0 : Nat) : Int)) ≤ (cmpZ (numS (a) % numS (b)) (numS (b))))) rfl rfl (decide_eq_true h5) ?_
            refine o_pickT (b := decide ((((0 : Nat) : Int)) ≤ (cmpZ (numS (a) % numS (b)) (numS (b))))) (AV.lit (.bool true)) Gd.none rfl (decide_eq_true h5) rfl ?_
            refine aops_end ?_
            refine hK12 _ ?_
            refine awp_condB (b := true) rfl (fun _ => ?_) (fun hh => absurd (hh.symm.trans rfl) (by decide))
            refine awp_seq fun K14 hK14 => ?_
            refine awp_region rfl ?_
            refine o_assign (AV.lit (.bool false)) Gd.none rfl ?_
            refine aops_end ?_
            refine hK14 _ ?_
            refine awp_ret ?_
            refine post_ret ⟨[(AV.lit (.bool false))], And.intro (AV.le_refl _) (trivial), rfl, ?_⟩
            exact absurd h5 (cmp_ltb hm1)
          · refine o_move (AV.lit (.string (b))) (Gd.yes rfl rfl (decide_eq_false h5)) rfl ?_
            refine o_move (AV.lit (.string (txt (numS (a) / numS (b))))) (Gd.yes rfl rfl (decide_eq_false h5)) rfl ?_
            refine o_call [(AV.lit (.string (b))), (AV.lit (.string (txt (numS (a) / numS (b)))))] (AV.lit (.string (proS (b) (txt (numS (a) / numS (b)))))) (Gd.yes rfl rfl (decide_eq_false h5)) Wv6_tC53 rfl (c_l1Pro (b) (txt (numS (a) / numS (b))) (by first | assumption | decide | omega | exact sum_sz _ _ | exact pro_sz _ _) (by first | assumption | decide | omega | exact sum_sz _ _ | exact pro_sz _ _)) ?_
            refine o_move (AV.lit (.string (txt (numS (a) % numS (b))))) (Gd.yes rfl rfl (decide_eq_false h5)) rfl ?_
            refine o_call [(AV.lit (.string (proS (b) (txt (numS (a) / numS (b)))))), (AV.lit (.string (txt (numS (a) % numS (b)))))] (AV.lit (.string (sumS (proS (b) (txt (numS (a) / numS (b)))) (txt (numS (a) % numS (b)))))) (Gd.yes rfl rfl (decide_eq_false h5)) Wv6_tC52 rfl (c_l1Sum (proS (b) (txt (numS (a) / numS (b)))) (txt (numS (a) % numS (b))) (by first | assumption | decide | omega | exact sum_sz _ _ | exact pro_sz _ _) (by first | assumption | decide | omega | exact sum_sz _ _ | exact pro_sz _ _)) ?_
            refine o_move (AV.lit (.string (a))) (Gd.yes rfl rfl (decide_eq_false h5)) rfl ?_
            refine o_call [(AV.lit (.string (sumS (proS (b) (txt (numS (a) / numS (b)))) (txt (numS (a) % numS (b)))))), (AV.lit (.string (a)))] (bp (alikeS (sumS (proS (b) (txt (numS (a) / numS (b)))) (txt (numS (a) % numS (b)))) (a))) (Gd.yes rfl rfl (decide_eq_false h5)) Wv6_tC54 rfl (c_l1Alike (sumS (proS (b) (txt (numS (a) / numS (b)))) (txt (numS (a) % numS (b)))) (a)) ?_
            refine o_notP (q := alikeS (sumS (proS (b) (txt (numS (a) / numS (b)))) (txt (numS (a) % numS (b)))) (a)) (Gd.yes rfl rfl (decide_eq_false h5)) rfl ?_
            refine o_pickF (b := decide ((((0 : Nat) : Int)) ≤ (cmpZ (numS (a) % numS (b)) (numS (b))))) (bp (¬ (alikeS (sumS (proS (b) (txt (numS (a) / numS (b)))) (txt (numS (a) % numS (b)))) (a)))) Gd.none rfl (decide_eq_false h5) rfl ?_
            refine aops_end ?_
            refine hK12 _ ?_
            refine awp_condQ (q := ¬ (alikeS (sumS (proS (b) (txt (numS (a) / numS (b)))) (txt (numS (a) % numS (b)))) (a))) rfl (fun h6 => ?_) (fun h6 => ?_)
            · refine awp_seq fun K15 hK15 => ?_
              refine awp_region rfl ?_
              refine o_assign (AV.lit (.bool false)) Gd.none rfl ?_
              refine aops_end ?_
              refine hK15 _ ?_
              refine awp_ret ?_
              refine post_ret ⟨[(AV.lit (.bool false))], And.intro (AV.le_refl _) (trivial), rfl, ?_⟩
              exact absurd (qalike ha' hb' hb0) h6
            · refine awp_skip ?_
              refine hK11 _ ?_
              refine awp_seq fun K16 hK16 => ?_
              refine awp_seq fun K17 hK17 => ?_
              refine awp_region rfl ?_
              refine o_move (AV.lit (.string (b))) Gd.none rfl ?_
              refine n_lenS (b) Gd.none rfl Wv6_tT9 ?_
              refine n_leq ((b).size) (9) Gd.none rfl rfl ?_
              refine aops_end ?_
              refine hK17 _ ?_
              refine awp_condQ (q := ((b).size) ≤ (9)) rfl (fun h7 => ?_) (fun h7 => ?_)
              · refine awp_seq fun K18 hK18 => ?_
                refine awp_region rfl ?_
                refine o_assign (nm .i64 (0)) Gd.none rfl ?_
                refine aops_end ?_
                refine hK18 _ ?_
                refine awp_seq fun K19 hK19 => ?_
                refine awp_seq fun K20 hK20 => ?_
                refine awp_region rfl ?_
                refine o_assign (nm .i64 (0)) Gd.none rfl ?_
                refine aops_end ?_
                refine hK20 _ ?_
                refine awp_block ?_
                refine awp_loopR (fun κ σ => ∃ (i : Nat), (i ≤ b.size) ∧ (b.size - i) = κ ∧ σ = ⟨[(0, (AV.lit (.string (a)))), (1, (AV.lit (.string (b)))), (6, (AV.lit (.string (txt (numS (a) % numS (b)))))), (12, (nm .i64 (dvk (b) 0 i))), (13, (nm .i64 (i)))], []⟩) ⟨_, _, ⟨0, (by omega), rfl, rfl⟩, ?wk0⟩ ?rd0
                case wk0 =>
                  exact Wk.sub (And.intro (by exact rfl) (And.intro (by exact rfl) (And.intro (by exact rfl) (And.intro (by first | rfl | exact congrArg (nm _) (by omega) | exact nm_int (by omega) | exact nm_int (by simp [IntKind.wrap, IntKind.bits, IntKind.signed]; omega)) (And.intro (by first | rfl | exact congrArg (nm _) (by omega) | exact nm_int (by omega) | exact nm_int (by simp [IntKind.wrap, IntKind.bits, IntKind.signed]; omega)) (trivial)))))) (trivial)
                rintro κ _ ⟨i, hi, rfl, rfl⟩
                have hdk := dvk_nine hdb hi (by omega)
                refine awp_seq fun K21 hK21 => ?_
                refine awp_seq fun K22 hK22 => ?_
                refine awp_region rfl ?_
                refine o_move (nm .i64 (i)) Gd.none rfl ?_
                refine o_move (AV.lit (.string (b))) Gd.none rfl ?_
                refine n_lenS (b) Gd.none rfl Wv6_tT9 ?_
                refine n_lss (i) ((b).size) Gd.none rfl rfl ?_
                refine aops_end ?_
                refine hK22 _ ?_
                refine awp_condQ (q := (i) < ((b).size)) rfl (fun h8 => ?_) (fun h8 => ?_)
                · have hbi := hdb i (by omega)
                  refine awp_skip ?_
                  refine hK21 _ ?_
                  refine awp_seq fun K23 hK23 => ?_
                  refine awp_block ?_
                  refine awp_region rfl ?_
                  refine o_move (nm .i64 (dvk (b) 0 i)) Gd.none rfl ?_
                  refine n_mul (10) (dvk (b) 0 i) Gd.none rfl rfl (by simp only [topOf]; omega) ?_
                  refine o_move (AV.lit (.string (b))) Gd.none rfl ?_
                  refine o_move (nm .i64 (i)) Gd.none rfl ?_
                  refine n_indexS (b) (i) Gd.none Wv6_tT9 rfl rfl (by omega) ?_
                  refine n_sub (byt (b) (i)) (48) Gd.none rfl rfl (by omega) (by simp only [topOf]; omega) ?_
                  refine n_conv ((byt (b) (i)) - (48)) Gd.none rfl Wv6_tI5 Wv6_tI3 (by simp only [topOf]; omega) ?_
                  refine n_add ((10) * (dvk (b) 0 i)) ((byt (b) (i)) - (48)) Gd.none rfl rfl (by simp only [topOf]; omega) ?_
                  refine n_as (v' := (nm .i64 (dvk (b) 0 (i + 1)))) (by exact congrArg (nm _) (dvk_next b i)) ?_
                  refine o_assign (nm .i64 (dvk (b) 0 (i + 1))) Gd.none rfl ?_
                  refine aops_end ?_
                  refine hK23 _ ?_
                  refine awp_region rfl ?_
                  refine o_move (nm .i64 (i)) Gd.none rfl ?_
                  refine n_add (i) (1) Gd.none rfl rfl (by simp only [topOf]; omega) ?_
                  refine o_assign (nm .i64 ((i) + (1))) Gd.none rfl ?_
                  refine aops_end ?_
                  refine ⟨_, _, ?lt, ⟨i + 1, (by omega), rfl, rfl⟩, ?wk⟩
                  case lt => omega
                  case wk => exact Wk.sub (And.intro (by exact rfl) (And.intro (by exact rfl) (And.intro (by exact rfl) (And.intro (by first | rfl | exact congrArg (nm _) (by omega) | exact nm_int (by omega) | exact nm_int (by simp [IntKind.wrap, IntKind.bits, IntKind.signed]; omega)) (And.intro (by first | rfl | exact congrArg (nm _) (by omega) | exact nm_int (by omega) | exact nm_int (by simp [IntKind.wrap, IntKind.bits, IntKind.signed]; omega)) (trivial)))))) (trivial)
                · have hie : i = b.size := by omega
                  have hid : ((dvk b 0 i : Nat) : Int) = numS b := by rw [hie]; exact hnb.symm
                  have hin : rstIn (numS b) := ⟨by omega, by omega⟩
                  refine awp_exit ?_
                  refine hK19 _ ?_
                  refine awp_seq fun K24 hK24 => ?_
                  refine awp_region rfl ?_
                  refine o_move (AV.lit (.string (a))) Gd.none rfl ?_
                  refine o_move (nm .i64 (dvk (b) 0 i)) Gd.none rfl ?_
                  refine n_as (v' := (AV.lit (.int .i64 (numS (b))))) (by exact int_nm (by omega)) ?_
                  refine o_call [(AV.lit (.string (a))), (AV.lit (.int .i64 (numS (b))))] (AV.tup [(AV.lit (.int .i64 (rstV (a) (numS (b))))), (nm .i64 (rstE (a) (numS (b))))]) Gd.none Wv6_tC66 rfl (c_nRest (a) (numS (b)) (by first | assumption | decide | omega)) ?_
                  refine o_move (AV.tup [(AV.lit (.int .i64 (rstV (a) (numS (b))))), (nm .i64 (rstE (a) (numS (b))))]) Gd.none rfl ?_
                  refine o_extract (AV.lit (.int .i64 (rstV (a) (numS (b))))) Gd.none rfl rfl ?_
                  refine n_as (v' := (AV.lit (.int .i64 ((numS (a) % numS (b)))))) (by exact int_eq (rst_yes ha' hin).1) ?_
                  refine o_extract (nm .i64 (rstE (a) (numS (b)))) Gd.none rfl rfl ?_
                  refine n_as (v' := (nm .i64 (0))) (by exact congrArg (nm _) (rst_yes ha' hin).2) ?_
                  refine o_assign (AV.lit (.int .i64 ((numS (a) % numS (b))))) Gd.none rfl ?_
                  refine o_assign (nm .i64 (0)) Gd.none rfl ?_
                  refine aops_end ?_
                  refine hK24 _ ?_
                  refine awp_seq fun K25 hK25 => ?_
                  refine awp_region rfl ?_
                  refine o_move (AV.lit (.string (txt (numS (a) % numS (b))))) Gd.none rfl ?_
                  refine o_move (AV.lit (.int .i64 ((numS (a) % numS (b))))) Gd.none rfl ?_
                  refine o_call [(AV.lit (.int .i64 ((numS (a) % numS (b)))))] (intR ((numS (a) % numS (b)))) Gd.none Wv6_tC31 rfl (c_rOf ((numS (a) % numS (b))) (by first | decide | omega) (by first | decide | omega)) ?_
                  refine o_call [(intR ((numS (a) % numS (b))))] (AV.lit (.string (txt ((numS (a) % numS (b)))))) Gd.none Wv6_tC26 rfl (c_rText ((numS (a) % numS (b))) (by first | assumption | omega | (simp only [Int.natAbs_neg]; omega))) ?_
                  refine o_call [(AV.lit (.string (txt (numS (a) % numS (b))))), (AV.lit (.string (txt ((numS (a) % numS (b))))))] (AV.tup [(AV.lit (.string ((if okS (txt (numS (a) % numS (b))) && okS (txt ((numS (a) % numS (b)))) then (toldS (numS (txt (numS (a) % numS (b))) - numS (txt ((numS (a) % numS (b)))))) else (({ data := #[] } : ByteArray)))))), (nm .i64 ((if okS (txt (numS (a) % numS (b))) && okS (txt ((numS (a) % numS (b)))) then (toldE (numS (txt (numS (a) % numS (b))) - numS (txt ((numS (a) % numS (b)))))) else (1))))]) Gd.none Wv6_tC56 rfl (c_nSub (txt (numS (a) % numS (b))) (txt ((numS (a) % numS (b)))) (by first | assumption | decide | omega) (by first | assumption | decide | omega)) ?_
                  refine o_move (AV.tup [(AV.lit (.string ((if okS (txt (numS (a) % numS (b))) && okS (txt ((numS (a) % numS (b)))) then (toldS (numS (txt (numS (a) % numS (b))) - numS (txt ((numS (a) % numS (b)))))) else (({ data := #[] } : ByteArray)))))), (nm .i64 ((if okS (txt (numS (a) % numS (b))) && okS (txt ((numS (a) % numS (b)))) then (toldE (numS (txt (numS (a) % numS (b))) - numS (txt ((numS (a) % numS (b)))))) else (1))))]) Gd.none rfl ?_
                  refine o_extract (AV.lit (.string ((if okS (txt (numS (a) % numS (b))) && okS (txt ((numS (a) % numS (b)))) then (toldS (numS (txt (numS (a) % numS (b))) - numS (txt ((numS (a) % numS (b)))))) else (({ data := #[] } : ByteArray)))))) Gd.none rfl rfl ?_
                  refine n_as (v' := (AV.lit (.string (({data := #[48]} : ByteArray))))) (by exact str_as2 (qs0 hfr).1) ?_
                  refine o_extract (nm .i64 ((if okS (txt (numS (a) % numS (b))) && okS (txt ((numS (a) % numS (b)))) then (toldE (numS (txt (numS (a) % numS (b))) - numS (txt ((numS (a) % numS (b)))))) else (1)))) Gd.none rfl rfl ?_
                  refine n_as (v' := (nm .i64 (0))) (by exact congrArg (nm _) (qs0 hfr).2) ?_
                  refine o_assign (AV.lit (.string (({data := #[48]} : ByteArray)))) Gd.none rfl ?_
                  refine o_assign (nm .i64 (0)) Gd.none rfl ?_
                  refine aops_end ?_
                  refine hK25 _ ?_
                  refine awp_seq fun K26 hK26 => ?_
                  refine awp_region rfl ?_
                  refine o_move (nm .i64 (0)) Gd.none rfl ?_
                  refine n_eql (0) (0) Gd.none rfl rfl ?_
                  refine o_move (bp ((0) = (0))) Gd.none rfl ?_
                  refine o_move (nm .i64 (0)) (Gd.yes rfl rfl (decide_eq_true (by decide))) rfl ?_
                  refine n_eql (0) (0) (Gd.yes rfl rfl (decide_eq_true (by decide))) rfl rfl ?_
                  refine o_pickT (b := decide ((0) = (0))) (bp ((0) = (0))) Gd.none rfl (decide_eq_true (by decide)) rfl ?_
                  refine o_move (bp ((0) = (0))) Gd.none rfl ?_
                  refine o_move (AV.lit (.string (({data := #[48]} : ByteArray)))) (Gd.yes rfl rfl (decide_eq_true (by decide))) rfl ?_
                  refine o_eqlS (a := (({data := #[48]} : ByteArray))) (c := (({data := #[48]} : ByteArray))) (Gd.yes rfl rfl (decide_eq_true (by decide))) rfl rfl ?_
                  refine o_pickT (b := decide ((0) = (0))) (bp ((({data := #[48]} : ByteArray)).toList = (({data := #[48]} : ByteArray)).toList)) Gd.none rfl (decide_eq_true (by decide)) rfl ?_
                  refine o_move (bp ((({data := #[48]} : ByteArray)).toList = (({data := #[48]} : ByteArray)).toList)) Gd.none rfl ?_
                  refine o_call [] (AV.lit (.bool true)) (Gd.yes rfl rfl (decide_eq_true rfl)) Wv6_tC49 rfl c_l1Awake ?_
                  refine o_pickT (b := decide ((({data := #[48]} : ByteArray)).toList = (({data := #[48]} : ByteArray)).toList)) (AV.lit (.bool true)) Gd.none rfl (decide_eq_true rfl) rfl ?_
                  refine o_assign (AV.lit (.bool true)) Gd.none rfl ?_
                  refine aops_end ?_
                  refine hK26 _ ?_
                  refine awp_ret ?_
                  refine post_ret ⟨[(AV.lit (.bool true))], And.intro (AV.le_refl _) (trivial), rfl, ?_⟩
                  first | rfl | simp [bp]
              · refine awp_skip ?_
                refine hK16 _ ?_
                refine awp_seq fun K27 hK27 => ?_
                refine awp_region rfl ?_
                refine o_call [] (AV.lit (.bool true)) Gd.none Wv6_tC49 rfl c_l1Awake ?_
                refine o_assign (AV.lit (.bool true)) Gd.none rfl ?_
                refine aops_end ?_
                refine hK27 _ ?_
                refine awp_ret ?_
                refine post_ret ⟨[(AV.lit (.bool true))], And.intro (AV.le_refl _) (trivial), rfl, ?_⟩
                first | rfl | simp [bp]

end Go.Proofs.YtkngglpnejdicaaDoor
