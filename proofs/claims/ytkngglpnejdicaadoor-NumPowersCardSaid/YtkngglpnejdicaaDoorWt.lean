import Derived.Test.YtkngglpnejdicaaDoorWk
import Derived.Test.YtkngglpnejdicaaDoorWs
import Derived.Test.YtkngglpnejdicaaDoorQz
set_option linter.unusedVariables false
set_option linter.unusedSimpArgs false
namespace Go.Proofs.YtkngglpnejdicaaDoor
open Go Go.Ab Go.Mth
theorem Wt_tC96 : callable cx.P 96 = true := by kernel_rfl
theorem Wt_tC90 : callable cx.P 90 = true := by kernel_rfl
theorem Wt_tC65 : callable cx.P 65 = true := by kernel_rfl
theorem Wt_tC69 : callable cx.P 69 = true := by kernel_rfl
theorem Wt_tO89 : tyZero cx.P 89 = some [(Go.Value.bool false), (Go.Value.slice none 0 0)] := by kernel_rfl
theorem Wt_tZ89 : tySize cx.P 89 = some 2 := by kernel_rfl
theorem Wt_tA89 : tyAgg cx.P 89 = some 2 := by kernel_rfl
theorem Wt_tC94 : callable cx.P 94 = true := by kernel_rfl
theorem Wt_tC95 : callable cx.P 95 = true := by kernel_rfl
theorem Wt_tC86 : callable cx.P 86 = true := by kernel_rfl
theorem Wt_tC71 : callable cx.P 71 = true := by kernel_rfl
theorem Wt_tC88 : callable cx.P 88 = true := by kernel_rfl
theorem Wt_tC89 : callable cx.P 89 = true := by kernel_rfl
theorem Wt_tC98 : callable cx.P 98 = true := by kernel_rfl
theorem c_nGcd (a b : ByteArray) (ha : a.size ≤ 9223372036854775807) (hb : b.size ≤ 9223372036854775807) : ECalls cx 58 [(AV.lit (.string (a))), (AV.lit (.string (b)))] (.tup [.lit (.string (if okS a && okS b then toldS ((Int.gcd (numS a) (numS b) : Nat) : Int) else { data := #[] })), nm .i64 (if okS a && okS b then toldE ((Int.gcd (numS a) (numS b) : Nat) : Int) else 1)]) := by
  refine ecalls_of_awp Tryd.func58 (c := _) rfl (Nat.le_of_ble_eq_true rfl) ?_
  show awp cx 11 _ (postF cx Tryd.f58 _) ⟨[(0, (AV.lit (.string (a)))), (1, (AV.lit (.string (b))))], []⟩
  refine awp_seq fun K0 hK0 => ?_
  refine awp_region rfl ?_
  refine o_assign (AV.lit (.string (({data := #[]} : ByteArray)))) Gd.none rfl ?_
  refine o_assign (nm .i64 (0)) Gd.none rfl ?_
  refine aops_end ?_
  refine hK0 _ ?_
  refine awp_seq fun K1 hK1 => ?_
  refine awp_region rfl ?_
  refine o_move (AV.lit (.string (a))) Gd.none rfl ?_
  refine o_move (AV.lit (.string (b))) Gd.none rfl ?_
  refine o_call [(AV.lit (.string (a))), (AV.lit (.string (b))), (AV.clo 96 [])] (AV.tup [(AV.lit (.string (if okS a && okS b then toldS ((Int.gcd (numS a) (numS b) : Nat) : Int) else { data := #[] }))), (nm .i64 (if okS a && okS b then toldE ((Int.gcd (numS a) (numS b) : Nat) : Int) else 1))]) Gd.none Wt_tC90 rfl (c_nBinary a b 96 (fun x y => ((Int.gcd x y : Nat) : Int)) Wt_tC96 (fun x y hx hy => c_wGcd x y (by omega) (by omega)) (fun x y hx hy => by have := len_gcd x y; omega) ha hb) ?_
  refine o_extract (AV.lit (.string (if okS a && okS b then toldS ((Int.gcd (numS a) (numS b) : Nat) : Int) else { data := #[] }))) Gd.none rfl rfl ?_
  refine o_extract (nm .i64 (if okS a && okS b then toldE ((Int.gcd (numS a) (numS b) : Nat) : Int) else 1)) Gd.none rfl rfl ?_
  refine o_assign (AV.lit (.string (if okS a && okS b then toldS ((Int.gcd (numS a) (numS b) : Nat) : Int) else { data := #[] }))) Gd.none rfl ?_
  refine o_assign (nm .i64 (if okS a && okS b then toldE ((Int.gcd (numS a) (numS b) : Nat) : Int) else 1)) Gd.none rfl ?_
  refine aops_end ?_
  refine hK1 _ ?_
  refine awp_ret ?_
  refine post_ret ⟨[(AV.lit (.string (if okS a && okS b then toldS ((Int.gcd (numS a) (numS b) : Nat) : Int) else { data := #[] }))), (nm .i64 (if okS a && okS b then toldE ((Int.gcd (numS a) (numS b) : Nat) : Int) else 1))], And.intro (AV.le_refl _) (And.intro (AV.le_refl _) (trivial)), rfl, ?_⟩
  rfl

theorem c_nDivide (a b : ByteArray) (ha : a.size ≤ 9223372036854775807) (hb : b.size ≤ 9223372036854775807) : ECalls cx 57 [(AV.lit (.string (a))), (AV.lit (.string (b)))] (.tup [.lit (.string (divQ a b)), .lit (.string (divR a b)), nm .i64 (divE a b)]) := by
  refine ecalls_of_awp Tryd.func57 (c := _) rfl (Nat.le_of_ble_eq_true rfl) ?_
  show awp cx 45 _ (postF cx Tryd.f57 _) ⟨[(0, (AV.lit (.string (a)))), (1, (AV.lit (.string (b))))], []⟩
  refine awp_seq fun K0 hK0 => ?_
  refine awp_region rfl ?_
  refine o_assign (AV.lit (.string (({data := #[]} : ByteArray)))) Gd.none rfl ?_
  refine o_assign (AV.lit (.string (({data := #[]} : ByteArray)))) Gd.none rfl ?_
  refine o_assign (nm .i64 (0)) Gd.none rfl ?_
  refine aops_end ?_
  refine hK0 _ ?_
  refine awp_seq fun K1 hK1 => ?_
  refine awp_seq fun K2 hK2 => ?_
  refine awp_region rfl ?_
  refine o_move (AV.lit (.string (a))) Gd.none rfl ?_
  refine o_call [(AV.lit (.string (a)))] (AV.lit (.bool (okS (a)))) Gd.none Wt_tC65 rfl (c_nValid (a) (by first | assumption | omega)) ?_
  refine o_not (b := okS (a)) Gd.none rfl ?_
  refine o_move (AV.lit (.bool (!(okS (a))))) Gd.none rfl ?_
  refine o_split (b := !(okS (a))) 16 rfl (fun h1 => ?_) (fun h1 => ?_)
  · have ha' : okS a = false := by simpa using h1
    refine o_skip (b := !(okS (a))) rfl rfl h1 ?_
    refine o_skip (b := !(okS (a))) rfl rfl h1 ?_
    refine o_skip (b := !(okS (a))) rfl rfl h1 ?_
    refine o_pickT (b := !(okS (a))) (AV.lit (.bool true)) Gd.none rfl h1 rfl ?_
    refine aops_end ?_
    refine hK2 _ ?_
    refine awp_condB (b := true) rfl (fun _ => ?_) (fun hh => absurd (hh.symm.trans rfl) (by decide))
    refine awp_seq fun K3 hK3 => ?_
    refine awp_region rfl ?_
    refine o_assign (AV.lit (.string (({data := #[]} : ByteArray)))) Gd.none rfl ?_
    refine o_assign (AV.lit (.string (({data := #[]} : ByteArray)))) Gd.none rfl ?_
    refine o_assign (nm .i64 (1)) Gd.none rfl ?_
    refine aops_end ?_
    refine hK3 _ ?_
    refine awp_ret ?_
    refine post_ret ⟨[(AV.lit (.string (({data := #[]} : ByteArray)))), (AV.lit (.string (({data := #[]} : ByteArray)))), (nm .i64 (1))], And.intro (AV.le_refl _) (And.intro (AV.le_refl _) (And.intro (AV.le_refl _) (trivial))), rfl, ?_⟩
    have e := div_no (a := a) (b := b) (fun h => by rw [ha'] at h; exact absurd h.1 (by decide))
    exact tup_eq3 (str_as2 e.1) (str_as2 e.2.1) (congrArg (nm _) e.2.2)
  · have ha' : okS a = true := by simpa using h1
    have hSa := okS_iff.1 ha'
    have hla := len_numS hSa
    refine o_move (AV.lit (.string (b))) (Gd.yes rfl rfl h1) rfl ?_
    refine o_call [(AV.lit (.string (b)))] (AV.lit (.bool (okS (b)))) (Gd.yes rfl rfl h1) Wt_tC65 rfl (c_nValid (b) (by first | assumption | omega)) ?_
    refine o_not (b := okS (b)) (Gd.yes rfl rfl h1) rfl ?_
    refine o_pickF (b := !(okS (a))) (AV.lit (.bool (!(okS (b))))) Gd.none rfl h1 rfl ?_
    refine aops_end ?_
    refine hK2 _ ?_
    refine awp_condB (b := !(okS (b))) rfl (fun h2 => ?_) (fun h2 => ?_)
    · have hb' : okS b = false := by simpa using h2
      refine awp_seq fun K4 hK4 => ?_
      refine awp_region rfl ?_
      refine o_assign (AV.lit (.string (({data := #[]} : ByteArray)))) Gd.none rfl ?_
      refine o_assign (AV.lit (.string (({data := #[]} : ByteArray)))) Gd.none rfl ?_
      refine o_assign (nm .i64 (1)) Gd.none rfl ?_
      refine aops_end ?_
      refine hK4 _ ?_
      refine awp_ret ?_
      refine post_ret ⟨[(AV.lit (.string (({data := #[]} : ByteArray)))), (AV.lit (.string (({data := #[]} : ByteArray)))), (nm .i64 (1))], And.intro (AV.le_refl _) (And.intro (AV.le_refl _) (And.intro (AV.le_refl _) (trivial))), rfl, ?_⟩
      have e := div_no (a := a) (b := b) (fun h => by rw [hb'] at h; exact absurd h.2 (by decide))
      exact tup_eq3 (str_as2 e.1) (str_as2 e.2.1) (congrArg (nm _) e.2.2)
    · have hb' : okS b = true := by simpa using h2
      have hSb := okS_iff.1 hb'
      have hlb := len_numS hSb
      refine awp_skip ?_
      refine hK1 _ ?_
      refine awp_seq fun K5 hK5 => ?_
      refine awp_region rfl ?_
      refine o_move (AV.lit (.string (a))) Gd.none rfl ?_
      refine o_call [(AV.lit (.string (a)))] (intW ((numS (a)))) Gd.none Wt_tC69 rfl (c_wParse (a) (by first | assumption | exact okS_iff.1 (by assumption))) ?_
      refine o_move (AV.lit (.string (b))) Gd.none rfl ?_
      refine o_call [(AV.lit (.string (b)))] (intW ((numS (b)))) Gd.none Wt_tC69 rfl (c_wParse (b) (by first | assumption | exact okS_iff.1 (by assumption))) ?_
      refine o_alloc 2 [(AV.lit (.bool false)), (AV.lit (.slice none 0 0))] Gd.none Wt_tO89 rfl rfl rfl ?_
      refine o_alloc 3 [(AV.lit (.bool false)), (AV.lit (.slice none 0 0))] Gd.none Wt_tO89 rfl rfl rfl ?_
      refine o_store [(3, (AO.var 89 [(AV.lit (.bool false)), (AV.lit (.slice none 0 0))])), (2, (AO.var 89 [(bp ((numS (a)) < 0)), (AV.sl 1 (ns .u32 (digs ((numS (a))).natAbs)))]))] Gd.none Wt_tZ89 rfl rfl rfl rfl rfl rfl ?_
      refine o_store [(3, (AO.var 89 [(bp ((numS (b)) < 0)), (AV.sl 1 (ns .u32 (digs ((numS (b))).natAbs)))])), (2, (AO.var 89 [(bp ((numS (a)) < 0)), (AV.sl 1 (ns .u32 (digs ((numS (a))).natAbs)))]))] Gd.none Wt_tZ89 rfl rfl rfl rfl rfl rfl ?_
      refine aops_end ?_
      refine hK5 _ ?_
      refine awp_seq fun K6 hK6 => ?_
      refine awp_seq fun K7 hK7 => ?_
      refine awp_region rfl ?_
      refine o_loadA [(bp ((numS (b)) < 0)), (AV.sl 1 (ns .u32 (digs ((numS (b))).natAbs)))] Gd.none Wt_tA89 rfl rfl rfl rfl rfl ?_
      refine o_call [(AV.agg [(bp ((numS (b)) < 0)), (AV.sl 1 (ns .u32 (digs ((numS (b))).natAbs)))])] (AV.lit (.int .i64 (sgn ((numS (b)))))) Gd.none Wt_tC94 rfl (c_wSign ((numS (b)))) ?_
      refine o_leq (a := (sgn ((numS (b))))) (c := (((0 : Nat) : Int))) Gd.none rfl rfl ?_
      refine aops_end ?_
      refine hK7 _ ?_
      refine awp_condQ (q := (sgn ((numS (b)))) ≤ (((0 : Nat) : Int))) rfl (fun h3 => ?_) (fun h3 => ?_)
      · have hb0 := sgn_le.1 h3
        refine awp_seq fun K8 hK8 => ?_
        refine awp_region rfl ?_
        refine o_assign (AV.lit (.string (({data := #[]} : ByteArray)))) Gd.none rfl ?_
        refine o_assign (AV.lit (.string (({data := #[]} : ByteArray)))) Gd.none rfl ?_
        refine o_assign (nm .i64 (2)) Gd.none rfl ?_
        refine aops_end ?_
        refine hK8 _ ?_
        refine awp_ret ?_
        refine post_ret ⟨[(AV.lit (.string (({data := #[]} : ByteArray)))), (AV.lit (.string (({data := #[]} : ByteArray)))), (nm .i64 (2))], And.intro (AV.le_refl _) (And.intro (AV.le_refl _) (And.intro (AV.le_refl _) (trivial))), rfl, ?_⟩
        have e := div_arg ⟨ha', hb'⟩ (by omega)
        exact tup_eq3 (str_as2 e.1) (str_as2 e.2.1) (congrArg (nm _) e.2.2)
      · have hb0 : 0 < numS b := Int.not_le.1 fun h => h3 (sgn_le.2 h)
        have hfq := fit_div (fit_numS hSa) hb0
        have hlq := fit_len hfq
        have hfr := fit_mod (x := numS a) (fit_numS hSb) hb0
        have hlr := fit_len hfr
        refine awp_skip ?_
        refine hK6 _ ?_
        refine awp_seq fun K9 hK9 => ?_
        refine awp_region rfl ?_
        refine o_loadA [(bp ((numS (a)) < 0)), (AV.sl 1 (ns .u32 (digs ((numS (a))).natAbs)))] Gd.none Wt_tA89 rfl rfl rfl rfl rfl ?_
        refine o_loadA [(bp ((numS (b)) < 0)), (AV.sl 1 (ns .u32 (digs ((numS (b))).natAbs)))] Gd.none Wt_tA89 rfl rfl rfl rfl rfl ?_
        refine o_call [(AV.agg [(bp ((numS (a)) < 0)), (AV.sl 1 (ns .u32 (digs ((numS (a))).natAbs)))]), (AV.agg [(bp ((numS (b)) < 0)), (AV.sl 1 (ns .u32 (digs ((numS (b))).natAbs)))])] (AV.tup [(intW (((numS (a)) / (numS (b))))), (intW (((numS (a)) % (numS (b)))))]) Gd.none Wt_tC95 rfl (c_wDivide ((numS (a))) ((numS (b))) (by omega) (by omega) (by omega)) ?_
        refine o_move (AV.tup [(intW (((numS (a)) / (numS (b))))), (intW (((numS (a)) % (numS (b)))))]) Gd.none rfl ?_
        refine o_extract (intW (((numS (a)) / (numS (b))))) Gd.none rfl rfl ?_
        refine o_extract (intW (((numS (a)) % (numS (b))))) Gd.none rfl rfl ?_
        refine o_alloc 4 [(AV.lit (.bool false)), (AV.lit (.slice none 0 0))] Gd.none Wt_tO89 rfl rfl rfl ?_
        refine o_alloc 5 [(AV.lit (.bool false)), (AV.lit (.slice none 0 0))] Gd.none Wt_tO89 rfl rfl rfl ?_
        refine o_store [(5, (AO.var 89 [(AV.lit (.bool false)), (AV.lit (.slice none 0 0))])), (4, (AO.var 89 [(bp (((numS (a)) / (numS (b))) < 0)), (AV.sl 1 (ns .u32 (digs (((numS (a)) / (numS (b)))).natAbs)))])), (3, (AO.var 89 [(bp ((numS (b)) < 0)), (AV.sl 1 (ns .u32 (digs ((numS (b))).natAbs)))])), (2, (AO.var 89 [(bp ((numS (a)) < 0)), (AV.sl 1 (ns .u32 (digs ((numS (a))).natAbs)))]))] Gd.none Wt_tZ89 rfl rfl rfl rfl rfl rfl ?_
        refine o_store [(5, (AO.var 89 [(bp (((numS (a)) % (numS (b))) < 0)), (AV.sl 1 (ns .u32 (digs (((numS (a)) % (numS (b)))).natAbs)))])), (4, (AO.var 89 [(bp (((numS (a)) / (numS (b))) < 0)), (AV.sl 1 (ns .u32 (digs (((numS (a)) / (numS (b)))).natAbs)))])), (3, (AO.var 89 [(bp ((numS (b)) < 0)), (AV.sl 1 (ns .u32 (digs ((numS (b))).natAbs)))])), (2, (AO.var 89 [(bp ((numS (a)) < 0)), (AV.sl 1 (ns .u32 (digs ((numS (a))).natAbs)))]))] Gd.none Wt_tZ89 rfl rfl rfl rfl rfl rfl ?_
        refine aops_end ?_
        refine hK9 _ ?_
        refine awp_seq fun K10 hK10 => ?_
        refine awp_region rfl ?_
        refine o_loadA [(bp (((numS (a)) / (numS (b))) < 0)), (AV.sl 1 (ns .u32 (digs (((numS (a)) / (numS (b)))).natAbs)))] Gd.none Wt_tA89 rfl rfl rfl rfl rfl ?_
        refine o_call [(AV.agg [(bp (((numS (a)) / (numS (b))) < 0)), (AV.sl 1 (ns .u32 (digs (((numS (a)) / (numS (b)))).natAbs)))])] (AV.tup [(AV.lit (.string (toldS (((numS (a)) / (numS (b))))))), (nm .i64 (toldE (((numS (a)) / (numS (b))))))]) Gd.none Wt_tC86 rfl (c_nTold (((numS (a)) / (numS (b)))) (by first | assumption | omega | (simp only [Int.natAbs_neg]; omega))) ?_
        refine o_move (AV.tup [(AV.lit (.string (toldS (((numS (a)) / (numS (b))))))), (nm .i64 (toldE (((numS (a)) / (numS (b))))))]) Gd.none rfl ?_
        refine o_extract (AV.lit (.string (toldS (((numS (a)) / (numS (b))))))) Gd.none rfl rfl ?_
        refine n_as (v' := (AV.lit (.string (txt (numS (a) / numS (b)))))) (by exact str_as2 (told_fit hfq).1) ?_
        refine o_extract (nm .i64 (toldE (((numS (a)) / (numS (b)))))) Gd.none rfl rfl ?_
        refine n_as (v' := (nm .i64 (0))) (by exact congrArg (nm _) (told_fit hfq).2) ?_
        refine o_assign (AV.lit (.string (txt (numS (a) / numS (b))))) Gd.none rfl ?_
        refine o_assign (nm .i64 (0)) Gd.none rfl ?_
        refine aops_end ?_
        refine hK10 _ ?_
        refine awp_seq fun K11 hK11 => ?_
        refine awp_seq fun K12 hK12 => ?_
        refine awp_region rfl ?_
        refine o_move (nm .i64 (0)) Gd.none rfl ?_
        refine n_neq (0) (0) Gd.none rfl rfl ?_
        refine aops_end ?_
        refine hK12 _ ?_
        refine awp_condB (b := decide ((0) ≠ (0))) rfl (fun hh => absurd (hh.symm.trans (decide_eq_false (by decide))) (by decide)) (fun _ => ?_)
        refine awp_skip ?_
        refine hK11 _ ?_
        refine awp_seq fun K13 hK13 => ?_
        refine awp_region rfl ?_
        refine o_move (AV.lit (.string (txt (numS (a) / numS (b))))) Gd.none rfl ?_
        refine o_loadA [(bp (((numS (a)) % (numS (b))) < 0)), (AV.sl 1 (ns .u32 (digs (((numS (a)) % (numS (b)))).natAbs)))] Gd.none Wt_tA89 rfl rfl rfl rfl rfl ?_
        refine o_call [(AV.agg [(bp (((numS (a)) % (numS (b))) < 0)), (AV.sl 1 (ns .u32 (digs (((numS (a)) % (numS (b)))).natAbs)))])] (AV.lit (.string (txt (((numS (a)) % (numS (b))))))) Gd.none Wt_tC71 rfl (c_wText (((numS (a)) % (numS (b)))) (by first | assumption | omega | (simp only [Int.natAbs_neg]; omega))) ?_
        refine o_assign (AV.lit (.string (txt (numS (a) / numS (b))))) Gd.none rfl ?_
        refine o_assign (AV.lit (.string (txt (((numS (a)) % (numS (b))))))) Gd.none rfl ?_
        refine o_assign (nm .i64 (0)) Gd.none rfl ?_
        refine aops_end ?_
        refine hK13 _ ?_
        refine awp_ret ?_
        refine post_ret ⟨[(AV.lit (.string (txt (numS (a) / numS (b))))), (AV.lit (.string (txt (((numS (a)) % (numS (b))))))), (nm .i64 (0))], And.intro (AV.le_refl _) (And.intro (AV.le_refl _) (And.intro (AV.le_refl _) (trivial))), rfl, ?_⟩
        have e := div_yes ⟨ha', hb'⟩ hb0
        exact tup_eq3 (str_as2 e.1) (str_as2 e.2.1) (congrArg (nm _) e.2.2)

theorem c_nPower (a : ByteArray) (n : Int) (ha : a.size ≤ 9223372036854775807) : ECalls cx 50 [(AV.lit (.string (a))), (AV.lit (.int .i64 (n)))] (.tup [.lit (.string (powS a n)), nm .i64 (powE a n)]) := by
  refine ecalls_of_awp Tryd.func50 (c := _) rfl (Nat.le_of_ble_eq_true rfl) ?_
  show awp cx 35 _ (postF cx Tryd.f50 _) ⟨[(0, (AV.lit (.string (a)))), (1, (AV.lit (.int .i64 (n))))], []⟩
  refine awp_seq fun K0 hK0 => ?_
  refine awp_region rfl ?_
  refine o_assign (AV.lit (.string (({data := #[]} : ByteArray)))) Gd.none rfl ?_
  refine o_assign (nm .i64 (0)) Gd.none rfl ?_
  refine aops_end ?_
  refine hK0 _ ?_
  refine awp_seq fun K1 hK1 => ?_
  refine awp_block ?_
  refine awp_seq fun K2 hK2 => ?_
  refine awp_region rfl ?_
  refine o_move (AV.lit (.string (a))) Gd.none rfl ?_
  refine o_call [(AV.lit (.string (a)))] (AV.lit (.bool (okS (a)))) Gd.none Wt_tC65 rfl (c_nValid (a) (by first | assumption | omega)) ?_
  refine o_not (b := okS (a)) Gd.none rfl ?_
  refine o_assign (AV.lit (.bool (!(okS (a))))) Gd.none rfl ?_
  refine aops_end ?_
  refine hK2 _ ?_
  refine awp_condB (b := !(okS (a))) rfl (fun h1 => ?_) (fun h1 => ?_)
  · have ha' : ¬ okS a = true := by simpa using h1
    refine awp_seq fun K3 hK3 => ?_
    refine awp_region rfl ?_
    refine o_assign (AV.lit (.string (({data := #[]} : ByteArray)))) Gd.none rfl ?_
    refine o_assign (nm .i64 (1)) Gd.none rfl ?_
    refine aops_end ?_
    refine hK3 _ ?_
    refine awp_ret ?_
    refine post_ret ⟨[(AV.lit (.string (({data := #[]} : ByteArray)))), (nm .i64 (1))], And.intro (AV.le_refl _) (And.intro (AV.le_refl _) (trivial)), rfl, ?_⟩
    have e := pow_no (n := n) ha'
    exact tup_eq2 (str_as2 e.1) (congrArg (nm _) e.2)
  · have ha' : okS a = true := by simpa using h1
    have hSa := okS_iff.1 ha'
    have hla := len_numS hSa
    have hfa : ndig (numS a).natAbs ≤ 2000 := fit_numS hSa
    have hdp := ndig_pos (numS a).natAbs
    have hml : (ndig (numS a).natAbs - 1) * n.toNat ≤ 2000 * n.toNat := Nat.mul_le_mul_right _ (by omega)
    refine awp_seq fun K4 hK4 => ?_
    refine awp_region rfl ?_
    refine o_move (AV.lit (.int .i64 (n))) Gd.none rfl ?_
    refine o_lss (a := (n)) (c := (((0 : Nat) : Int))) Gd.none rfl rfl ?_
    refine o_move (bp ((n) < (((0 : Nat) : Int)))) Gd.none rfl ?_
    refine o_splitP (q := (n) < (((0 : Nat) : Int))) 14 rfl (fun h2 => ?_) (fun h2 => ?_)
    · refine o_skip (b := decide ((n) < (((0 : Nat) : Int)))) rfl rfl (decide_eq_true h2) ?_
      refine o_skip (b := decide ((n) < (((0 : Nat) : Int)))) rfl rfl (decide_eq_true h2) ?_
      refine o_pickT (b := decide ((n) < (((0 : Nat) : Int)))) (AV.lit (.bool true)) Gd.none rfl (decide_eq_true h2) rfl ?_
      refine o_assign (AV.lit (.bool true)) Gd.none rfl ?_
      refine aops_end ?_
      refine hK4 _ ?_
      refine awp_condB (b := true) rfl (fun _ => ?_) (fun hh => absurd (hh.symm.trans rfl) (by decide))
      refine awp_seq fun K5 hK5 => ?_
      refine awp_region rfl ?_
      refine o_assign (AV.lit (.string (({data := #[]} : ByteArray)))) Gd.none rfl ?_
      refine o_assign (nm .i64 (2)) Gd.none rfl ?_
      refine aops_end ?_
      refine hK5 _ ?_
      refine awp_ret ?_
      refine post_ret ⟨[(AV.lit (.string (({data := #[]} : ByteArray)))), (nm .i64 (2))], And.intro (AV.le_refl _) (And.intro (AV.le_refl _) (trivial)), rfl, ?_⟩
      have e := pow_arg (n := n) ha' (fun h => by have := h.1; omega)
      exact tup_eq2 (str_as2 e.1) (congrArg (nm _) e.2)
    · refine o_move (AV.lit (.int .i64 (n))) (Gd.yes rfl rfl (decide_eq_false h2)) rfl ?_
      refine o_gtr (a := (n)) (c := (((10000 : Nat) : Int))) (Gd.yes rfl rfl (decide_eq_false h2)) rfl rfl ?_
      refine o_pickF (b := decide ((n) < (((0 : Nat) : Int)))) (bp ((((10000 : Nat) : Int)) < (n))) Gd.none rfl (decide_eq_false h2) rfl ?_
      refine o_assign (bp ((((10000 : Nat) : Int)) < (n))) Gd.none rfl ?_
      refine aops_end ?_
      refine hK4 _ ?_
      refine awp_condQ (q := (((10000 : Nat) : Int)) < (n)) rfl (fun h3 => ?_) (fun h3 => ?_)
      · refine awp_seq fun K6 hK6 => ?_
        refine awp_region rfl ?_
        refine o_assign (AV.lit (.string (({data := #[]} : ByteArray)))) Gd.none rfl ?_
        refine o_assign (nm .i64 (2)) Gd.none rfl ?_
        refine aops_end ?_
        refine hK6 _ ?_
        refine awp_ret ?_
        refine post_ret ⟨[(AV.lit (.string (({data := #[]} : ByteArray)))), (nm .i64 (2))], And.intro (AV.le_refl _) (And.intro (AV.le_refl _) (trivial)), rfl, ?_⟩
        have e := pow_arg (n := n) ha' (fun h => by have := h.2; omega)
        exact tup_eq2 (str_as2 e.1) (congrArg (nm _) e.2)
      · refine awp_seq fun K7 hK7 => ?_
        refine awp_region rfl ?_
        refine o_move (AV.lit (.int .i64 (n))) Gd.none rfl ?_
        refine o_eql (a := (n)) (c := (((0 : Nat) : Int))) Gd.none rfl rfl ?_
        refine o_assign (bp ((n) = (((0 : Nat) : Int)))) Gd.none rfl ?_
        refine aops_end ?_
        refine hK7 _ ?_
        refine awp_condQ (q := (n) = (((0 : Nat) : Int))) rfl (fun h4 => ?_) (fun h4 => ?_)
        · refine awp_seq fun K8 hK8 => ?_
          refine awp_region rfl ?_
          refine o_assign (AV.lit (.string (({data := #[49]} : ByteArray)))) Gd.none rfl ?_
          refine o_assign (nm .i64 (0)) Gd.none rfl ?_
          refine aops_end ?_
          refine hK8 _ ?_
          refine awp_ret ?_
          refine post_ret ⟨[(AV.lit (.string (({data := #[49]} : ByteArray)))), (nm .i64 (0))], And.intro (AV.le_refl _) (And.intro (AV.le_refl _) (trivial)), rfl, ?_⟩
          have hn0 : n = 0 := by omega
          subst hn0
          have e := pow_zero ha'
          exact tup_eq2 (str_as2 e.1) (congrArg (nm _) e.2)
        · refine awp_skip ?_
          refine hK1 _ ?_
          refine awp_seq fun K9 hK9 => ?_
          refine awp_region rfl ?_
          refine o_move (AV.lit (.string (a))) Gd.none rfl ?_
          refine o_call [(AV.lit (.string (a)))] (intW ((numS (a)))) Gd.none Wt_tC69 rfl (c_wParse (a) (by first | assumption | exact okS_iff.1 (by assumption))) ?_
          refine o_alloc 2 [(AV.lit (.bool false)), (AV.lit (.slice none 0 0))] Gd.none Wt_tO89 rfl rfl rfl ?_
          refine o_store [(2, (AO.var 89 [(bp ((numS (a)) < 0)), (AV.sl 1 (ns .u32 (digs ((numS (a))).natAbs)))]))] Gd.none Wt_tZ89 rfl rfl rfl rfl rfl rfl ?_
          refine aops_end ?_
          refine hK9 _ ?_
          refine awp_seq fun K10 hK10 => ?_
          refine awp_seq fun K11 hK11 => ?_
          refine awp_region rfl ?_
          refine o_loadA [(bp ((numS (a)) < 0)), (AV.sl 1 (ns .u32 (digs ((numS (a))).natAbs)))] Gd.none Wt_tA89 rfl rfl rfl rfl rfl ?_
          refine o_call [(AV.agg [(bp ((numS (a)) < 0)), (AV.sl 1 (ns .u32 (digs ((numS (a))).natAbs)))])] (nm .i64 (ndig ((numS (a))).natAbs)) Gd.none Wt_tC88 rfl (c_wDigits ((numS (a))) (by first | assumption | omega | (simp only [Int.natAbs_neg]; omega))) ?_
          refine n_sub (ndig ((numS (a))).natAbs) (1) Gd.none rfl rfl (by omega) (by simp only [topOf]; omega) ?_
          refine o_move (AV.lit (.int .i64 (n))) Gd.none rfl ?_
          refine n_as (v' := (nm .i64 (n.toNat))) (nm_int (by omega)) ?_
          refine n_mul ((ndig ((numS (a))).natAbs) - (1)) (n.toNat) Gd.none rfl rfl (by simp only [topOf]; omega) ?_
          refine n_geq (((ndig ((numS (a))).natAbs) - (1)) * (n.toNat)) (2000) Gd.none rfl rfl ?_
          refine aops_end ?_
          refine hK11 _ ?_
          refine awp_condQ (q := (2000) ≤ (((ndig ((numS (a))).natAbs) - (1)) * (n.toNat))) rfl (fun h5 => ?_) (fun h5 => ?_)
          · refine awp_seq fun K12 hK12 => ?_
            refine awp_region rfl ?_
            refine o_assign (AV.lit (.string (({data := #[]} : ByteArray)))) Gd.none rfl ?_
            refine o_assign (nm .i64 (3)) Gd.none rfl ?_
            refine aops_end ?_
            refine hK12 _ ?_
            refine awp_ret ?_
            refine post_ret ⟨[(AV.lit (.string (({data := #[]} : ByteArray)))), (nm .i64 (3))], And.intro (AV.le_refl _) (And.intro (AV.le_refl _) (trivial)), rfl, ?_⟩
            have e := pow_long (n := n) ha' ⟨by omega, by omega⟩ (by omega)
            exact tup_eq2 (str_as2 e.1) (congrArg (nm _) e.2)
          · refine awp_skip ?_
            refine hK10 _ ?_
            refine awp_seq fun K13 hK13 => ?_
            refine awp_region rfl ?_
            refine o_loadA [(bp ((numS (a)) < 0)), (AV.sl 1 (ns .u32 (digs ((numS (a))).natAbs)))] Gd.none Wt_tA89 rfl rfl rfl rfl rfl ?_
            refine o_move (AV.lit (.int .i64 (n))) Gd.none rfl ?_
            refine n_as (v' := (nm .i64 (n.toNat))) (nm_int (by omega)) ?_
            refine o_call [(AV.agg [(bp ((numS (a)) < 0)), (AV.sl 1 (ns .u32 (digs ((numS (a))).natAbs)))]), (nm .i64 (n.toNat))] (intW (((numS (a)) ^ (n.toNat)))) Gd.none Wt_tC89 rfl (c_wPower ((numS (a))) (n.toNat) (by omega) (by omega)) ?_
            have hpw := len_powB (x := numS a) (e := n.toNat) (by omega) (by omega)
            refine o_call [(intW (((numS (a)) ^ (n.toNat))))] (AV.tup [(AV.lit (.string (toldS (((numS (a)) ^ (n.toNat)))))), (nm .i64 (toldE (((numS (a)) ^ (n.toNat)))))]) Gd.none Wt_tC86 rfl (c_nTold (((numS (a)) ^ (n.toNat))) (by first | assumption | omega | (simp only [Int.natAbs_neg]; omega))) ?_
            refine o_extract (AV.lit (.string (toldS (((numS (a)) ^ (n.toNat)))))) Gd.none rfl rfl ?_
            refine o_extract (nm .i64 (toldE (((numS (a)) ^ (n.toNat))))) Gd.none rfl rfl ?_
            refine o_assign (AV.lit (.string (toldS (((numS (a)) ^ (n.toNat)))))) Gd.none rfl ?_
            refine o_assign (nm .i64 (toldE (((numS (a)) ^ (n.toNat))))) Gd.none rfl ?_
            refine aops_end ?_
            refine hK13 _ ?_
            refine awp_ret ?_
            refine post_ret ⟨[(AV.lit (.string (toldS (((numS (a)) ^ (n.toNat)))))), (nm .i64 (toldE (((numS (a)) ^ (n.toNat)))))], And.intro (AV.le_refl _) (And.intro (AV.le_refl _) (trivial)), rfl, ?_⟩
            have e := pow_yes (n := n) ha' ⟨by omega, by omega⟩
            exact tup_eq2 (str_as2 e.1) (congrArg (nm _) e.2)

theorem c_nRest (a : ByteArray) (d : Int) (ha : a.size ≤ 9223372036854775807) : ECalls cx 66 [(AV.lit (.string (a))), (AV.lit (.int .i64 (d)))] (.tup [.lit (.int .i64 (rstV a d)), nm .i64 (rstE a d)]) := by
  refine ecalls_of_awp Tryd.func66 (c := _) rfl (Nat.le_of_ble_eq_true rfl) ?_
  show awp cx 27 _ (postF cx Tryd.f66 _) ⟨[(0, (AV.lit (.string (a)))), (1, (AV.lit (.int .i64 (d))))], []⟩
  refine awp_seq fun K0 hK0 => ?_
  refine awp_region rfl ?_
  refine o_assign (nm .i64 (0)) Gd.none rfl ?_
  refine o_assign (nm .i64 (0)) Gd.none rfl ?_
  refine aops_end ?_
  refine hK0 _ ?_
  refine awp_seq fun K1 hK1 => ?_
  refine awp_block ?_
  refine awp_seq fun K2 hK2 => ?_
  refine awp_region rfl ?_
  refine o_move (AV.lit (.string (a))) Gd.none rfl ?_
  refine o_call [(AV.lit (.string (a)))] (AV.lit (.bool (okS (a)))) Gd.none Wt_tC65 rfl (c_nValid (a) (by first | assumption | omega)) ?_
  refine o_not (b := okS (a)) Gd.none rfl ?_
  refine o_assign (AV.lit (.bool (!(okS (a))))) Gd.none rfl ?_
  refine aops_end ?_
  refine hK2 _ ?_
  refine awp_condB (b := !(okS (a))) rfl (fun h1 => ?_) (fun h1 => ?_)
  · have ha' : ¬ okS a = true := by simpa using h1
    refine awp_seq fun K3 hK3 => ?_
    refine awp_region rfl ?_
    refine o_assign (nm .i64 (0)) Gd.none rfl ?_
    refine o_assign (nm .i64 (1)) Gd.none rfl ?_
    refine aops_end ?_
    refine hK3 _ ?_
    refine awp_ret ?_
    refine post_ret ⟨[(nm .i64 (0)), (nm .i64 (1))], And.intro (AV.le_refl _) (And.intro (AV.le_refl _) (trivial)), rfl, ?_⟩
    have e := rst_no (d := d) ha'
    exact tup_eq2 (int_eq e.1) (congrArg (nm _) e.2)
  · have ha' : okS a = true := by simpa using h1
    have hSa := okS_iff.1 ha'
    have hla := len_numS hSa
    refine awp_seq fun K4 hK4 => ?_
    refine awp_region rfl ?_
    refine o_move (AV.lit (.int .i64 (d))) Gd.none rfl ?_
    refine o_lss (a := (d)) (c := (((1 : Nat) : Int))) Gd.none rfl rfl ?_
    refine o_move (bp ((d) < (((1 : Nat) : Int)))) Gd.none rfl ?_
    refine o_splitP (q := (d) < (((1 : Nat) : Int))) 15 rfl (fun h2 => ?_) (fun h2 => ?_)
    · refine o_skip (b := decide ((d) < (((1 : Nat) : Int)))) rfl rfl (decide_eq_true h2) ?_
      refine o_skip (b := decide ((d) < (((1 : Nat) : Int)))) rfl rfl (decide_eq_true h2) ?_
      refine o_pickT (b := decide ((d) < (((1 : Nat) : Int)))) (AV.lit (.bool true)) Gd.none rfl (decide_eq_true h2) rfl ?_
      refine o_assign (AV.lit (.bool true)) Gd.none rfl ?_
      refine aops_end ?_
      refine hK4 _ ?_
      refine awp_condB (b := true) rfl (fun _ => ?_) (fun hh => absurd (hh.symm.trans rfl) (by decide))
      refine awp_seq fun K5 hK5 => ?_
      refine awp_region rfl ?_
      refine o_assign (nm .i64 (0)) Gd.none rfl ?_
      refine o_assign (nm .i64 (2)) Gd.none rfl ?_
      refine aops_end ?_
      refine hK5 _ ?_
      refine awp_ret ?_
      refine post_ret ⟨[(nm .i64 (0)), (nm .i64 (2))], And.intro (AV.le_refl _) (And.intro (AV.le_refl _) (trivial)), rfl, ?_⟩
      have e := rst_arg (d := d) ha' (fun h => by have := h.1; omega)
      exact tup_eq2 (int_eq e.1) (congrArg (nm _) e.2)
    · refine o_move (AV.lit (.int .i64 (d))) (Gd.yes rfl rfl (decide_eq_false h2)) rfl ?_
      refine o_gtr (a := (d)) (c := (((2147483647 : Nat) : Int))) (Gd.yes rfl rfl (decide_eq_false h2)) rfl rfl ?_
      refine o_pickF (b := decide ((d) < (((1 : Nat) : Int)))) (bp ((((2147483647 : Nat) : Int)) < (d))) Gd.none rfl (decide_eq_false h2) rfl ?_
      refine o_assign (bp ((((2147483647 : Nat) : Int)) < (d))) Gd.none rfl ?_
      refine aops_end ?_
      refine hK4 _ ?_
      refine awp_condQ (q := (((2147483647 : Nat) : Int)) < (d)) rfl (fun h3 => ?_) (fun h3 => ?_)
      · refine awp_seq fun K6 hK6 => ?_
        refine awp_region rfl ?_
        refine o_assign (nm .i64 (0)) Gd.none rfl ?_
        refine o_assign (nm .i64 (2)) Gd.none rfl ?_
        refine aops_end ?_
        refine hK6 _ ?_
        refine awp_ret ?_
        refine post_ret ⟨[(nm .i64 (0)), (nm .i64 (2))], And.intro (AV.le_refl _) (And.intro (AV.le_refl _) (trivial)), rfl, ?_⟩
        have e := rst_arg (d := d) ha' (fun h => by have := h.2; omega)
        exact tup_eq2 (int_eq e.1) (congrArg (nm _) e.2)
      · refine awp_skip ?_
        refine hK1 _ ?_
        refine awp_seq fun K7 hK7 => ?_
        refine awp_region rfl ?_
        refine o_move (AV.lit (.string (a))) Gd.none rfl ?_
        refine o_call [(AV.lit (.string (a)))] (intW ((numS (a)))) Gd.none Wt_tC69 rfl (c_wParse (a) (by first | assumption | exact okS_iff.1 (by assumption))) ?_
        refine o_move (AV.lit (.int .i64 (d))) Gd.none rfl ?_
        refine n_as (v' := (nm .i64 (d.toNat))) (nm_int (by omega)) ?_
        refine o_call [(intW ((numS (a)))), (nm .i64 (d.toNat))] (AV.tup [(intW (((numS (a)) / ((d.toNat : Nat) : Int)))), (AV.lit (.int .i64 ((numS (a)) % ((d.toNat : Nat) : Int))))]) Gd.none Wt_tC98 rfl (c_wQR ((numS (a))) (d.toNat) (by omega) (by omega) (by first | assumption | omega | (simp only [Int.natAbs_neg]; omega))) ?_
        refine o_move (AV.tup [(intW (((numS (a)) / ((d.toNat : Nat) : Int)))), (AV.lit (.int .i64 ((numS (a)) % ((d.toNat : Nat) : Int))))]) Gd.none rfl ?_
        refine o_extract (intW (((numS (a)) / ((d.toNat : Nat) : Int)))) Gd.none rfl rfl ?_
        refine o_extract (AV.lit (.int .i64 ((numS (a)) % ((d.toNat : Nat) : Int)))) Gd.none rfl rfl ?_
        refine o_alloc 2 [(AV.lit (.bool false)), (AV.lit (.slice none 0 0))] Gd.none Wt_tO89 rfl rfl rfl ?_
        refine o_store [(2, (AO.var 89 [(bp (((numS (a)) / ((d.toNat : Nat) : Int)) < 0)), (AV.sl 1 (ns .u32 (digs (((numS (a)) / ((d.toNat : Nat) : Int))).natAbs)))]))] Gd.none Wt_tZ89 rfl rfl rfl rfl rfl rfl ?_
        refine o_assign (AV.lit (.int .i64 ((numS (a)) % ((d.toNat : Nat) : Int)))) Gd.none rfl ?_
        refine aops_end ?_
        refine hK7 _ ?_
        refine awp_seq fun K8 hK8 => ?_
        refine awp_region rfl ?_
        refine o_move (AV.lit (.int .i64 ((numS (a)) % ((d.toNat : Nat) : Int)))) Gd.none rfl ?_
        refine o_assign (AV.lit (.int .i64 ((numS (a)) % ((d.toNat : Nat) : Int)))) Gd.none rfl ?_
        refine o_assign (nm .i64 (0)) Gd.none rfl ?_
        refine aops_end ?_
        refine hK8 _ ?_
        refine awp_ret ?_
        refine post_ret ⟨[(AV.lit (.int .i64 ((numS (a)) % ((d.toNat : Nat) : Int)))), (nm .i64 (0))], And.intro (AV.le_refl _) (And.intro (AV.le_refl _) (trivial)), rfl, ?_⟩
        have hdd : ((d.toNat : Nat) : Int) = d := Int.toNat_of_nonneg (by omega)
        have e := rst_yes ha' (d := d) ⟨by omega, by omega⟩
        exact tup_eq2 (int_eq (by rw [hdd]; exact e.1)) (congrArg (nm _) e.2)

end Go.Proofs.YtkngglpnejdicaaDoor
