import Derived.Test.YtkngglpnejdicaaDoorWh
set_option linter.unusedVariables false
set_option linter.unusedSimpArgs false
namespace Go.Proofs.YtkngglpnejdicaaDoor
open Go Go.Ab Go.Mth
theorem Wk_tC65 : callable cx.P 65 = true := by kernel_rfl
theorem Wk_tC69 : callable cx.P 69 = true := by kernel_rfl
theorem Wk_tC86 : callable cx.P 86 = true := by kernel_rfl
theorem Wk_tC92 : callable cx.P 92 = true := by kernel_rfl
theorem Wk_tC90 : callable cx.P 90 = true := by kernel_rfl
theorem Wk_tC91 : callable cx.P 91 = true := by kernel_rfl
theorem Wk_tC93 : callable cx.P 93 = true := by kernel_rfl
theorem Wk_tC76 : callable cx.P 76 = true := by kernel_rfl
theorem c_nBinary (a b : ByteArray) (f : Nat) (g : Int → Int → Int) (hf : callable cx.P f = true) (hg : ∀ x y, (digs x.natAbs).length ≤ 300 → (digs y.natAbs).length ≤ 300 → ECalls cx f [intW x, intW y] (intW (g x y))) (hl : ∀ x y, (digs x.natAbs).length ≤ 300 → (digs y.natAbs).length ≤ 300 → (digs (g x y).natAbs).length ≤ 1000000000) (ha : a.size ≤ 9223372036854775807) (hb : b.size ≤ 9223372036854775807) : ECalls cx 90 [(AV.lit (.string (a))), (AV.lit (.string (b))), (AV.clo f [])] (.tup [.lit (.string (if okS a && okS b then toldS (g (numS a) (numS b)) else { data := #[] })), nm .i64 (if okS a && okS b then toldE (g (numS a) (numS b)) else 1)]) := by
  refine ecalls_of_awp Tryd.func90 (c := _) rfl (Nat.le_of_ble_eq_true rfl) ?_
  show awp cx 25 _ (postF cx Tryd.f90 _) ⟨[(0, (AV.lit (.string (a)))), (1, (AV.lit (.string (b)))), (2, (AV.clo f []))], []⟩
  refine awp_seq fun K0 hK0 => ?_
  refine awp_region rfl ?_
  refine o_assign (AV.lit (.string (({data := #[]} : ByteArray)))) Gd.none rfl ?_
  refine o_assign (nm .i64 (0)) Gd.none rfl ?_
  refine aops_end ?_
  refine hK0 _ ?_
  refine awp_seq fun K1 hK1 => ?_
  refine awp_seq fun K2 hK2 => ?_
  refine awp_region rfl ?_
  refine o_move (AV.lit (.string (a))) Gd.none rfl ?_
  refine o_call [(AV.lit (.string (a)))] (AV.lit (.bool (okS (a)))) Gd.none Wk_tC65 rfl (c_nValid (a) (by first | assumption | omega)) ?_
  refine o_not (b := okS (a)) Gd.none rfl ?_
  refine o_move (AV.lit (.bool (!(okS (a))))) Gd.none rfl ?_
  refine o_split (b := !(okS (a))) 11 rfl (fun h1 => ?_) (fun h1 => ?_)
  · have ha' : okS a = false := by simpa using h1
    refine o_skip (b := !(okS (a))) rfl rfl h1 ?_
    refine o_skip (b := !(okS (a))) rfl rfl h1 ?_
    refine o_skip (b := !(okS (a))) rfl rfl h1 ?_
    refine o_pickT (b := !(okS (a))) (AV.lit (.bool true)) Gd.none rfl h1 rfl ?_
    refine aops_end ?_
    refine hK2 _ ?_
    refine awp_condB (b := true) rfl (fun _ => ?_) (fun hh => absurd (hh.symm.trans rfl) (by decide))
    refine awp_seq fun K3 hK3 => ?_
    refine awp_region rfl ?_
    refine o_assign (AV.lit (.string (({data := #[]} : ByteArray)))) Gd.none rfl ?_
    refine o_assign (nm .i64 (1)) Gd.none rfl ?_
    refine aops_end ?_
    refine hK3 _ ?_
    refine awp_ret ?_
    refine post_ret ⟨[(AV.lit (.string (({data := #[]} : ByteArray)))), (nm .i64 (1))], And.intro (AV.le_refl _) (And.intro (AV.le_refl _) (trivial)), rfl, ?_⟩
    exact tup_eq2 (by rw [ha']; rfl) (by rw [ha']; rfl)
  · have ha' : okS a = true := by simpa using h1
    refine o_move (AV.lit (.string (b))) (Gd.yes rfl rfl h1) rfl ?_
    refine o_call [(AV.lit (.string (b)))] (AV.lit (.bool (okS (b)))) (Gd.yes rfl rfl h1) Wk_tC65 rfl (c_nValid (b) (by first | assumption | omega)) ?_
    refine o_not (b := okS (b)) (Gd.yes rfl rfl h1) rfl ?_
    refine o_pickF (b := !(okS (a))) (AV.lit (.bool (!(okS (b))))) Gd.none rfl h1 rfl ?_
    refine aops_end ?_
    refine hK2 _ ?_
    refine awp_condB (b := !(okS (b))) rfl (fun h2 => ?_) (fun h2 => ?_)
    · have hb' : okS b = false := by simpa using h2
      refine awp_seq fun K4 hK4 => ?_
      refine awp_region rfl ?_
      refine o_assign (AV.lit (.string (({data := #[]} : ByteArray)))) Gd.none rfl ?_
      refine o_assign (nm .i64 (1)) Gd.none rfl ?_
      refine aops_end ?_
      refine hK4 _ ?_
      refine awp_ret ?_
      refine post_ret ⟨[(AV.lit (.string (({data := #[]} : ByteArray)))), (nm .i64 (1))], And.intro (AV.le_refl _) (And.intro (AV.le_refl _) (trivial)), rfl, ?_⟩
      exact tup_eq2 (by rw [ha', hb']; rfl) (by rw [ha', hb']; rfl)
    · have hb' : okS b = true := by simpa using h2
      refine awp_skip ?_
      refine hK1 _ ?_
      refine awp_seq fun K5 hK5 => ?_
      refine awp_region rfl ?_
      refine o_move (AV.clo f []) Gd.none rfl ?_
      refine o_move (AV.lit (.string (a))) Gd.none rfl ?_
      refine o_call [(AV.lit (.string (a)))] (intW ((numS (a)))) Gd.none Wk_tC69 rfl (c_wParse (a) (by first | assumption | exact okS_iff.1 (by assumption))) ?_
      refine o_move (AV.lit (.string (b))) Gd.none rfl ?_
      refine o_call [(AV.lit (.string (b)))] (intW ((numS (b)))) Gd.none Wk_tC69 rfl (c_wParse (b) (by first | assumption | exact okS_iff.1 (by assumption))) ?_
      refine o_callG [] [(intW ((numS (a)))), (intW ((numS (b))))] _ (intW ((g (numS a) (numS b)))) [] Gd.none hf rfl (trivial) rfl rfl (LeL.cons (AV.le_refl _) (LeL.cons (AV.le_refl _) (LeL.nil))) (hg _ _ (len_numS (okS_iff.1 ha')) (len_numS (okS_iff.1 hb'))) rfl ?_
      refine o_call [(intW ((g (numS a) (numS b))))] (AV.tup [(AV.lit (.string (toldS (g (numS a) (numS b))))), (nm .i64 (toldE (g (numS a) (numS b))))]) Gd.none Wk_tC86 rfl (c_nTold ((g (numS a) (numS b))) (hl _ _ (len_numS (okS_iff.1 ha')) (len_numS (okS_iff.1 hb')))) ?_
      refine o_extract (AV.lit (.string (toldS (g (numS a) (numS b))))) Gd.none rfl rfl ?_
      refine o_extract (nm .i64 (toldE (g (numS a) (numS b)))) Gd.none rfl rfl ?_
      refine o_assign (AV.lit (.string (toldS (g (numS a) (numS b))))) Gd.none rfl ?_
      refine o_assign (nm .i64 (toldE (g (numS a) (numS b)))) Gd.none rfl ?_
      refine aops_end ?_
      refine hK5 _ ?_
      refine awp_ret ?_
      refine post_ret ⟨[(AV.lit (.string (toldS (g (numS a) (numS b))))), (nm .i64 (toldE (g (numS a) (numS b))))], And.intro (AV.le_refl _) (And.intro (AV.le_refl _) (trivial)), rfl, ?_⟩
      exact tup_eq2 (by rw [ha', hb']; rfl) (by rw [ha', hb']; rfl)

theorem c_nAdd (a b : ByteArray) (ha : a.size ≤ 9223372036854775807) (hb : b.size ≤ 9223372036854775807) : ECalls cx 55 [(AV.lit (.string (a))), (AV.lit (.string (b)))] (.tup [.lit (.string (if okS a && okS b then toldS (numS a + numS b) else { data := #[] })), nm .i64 (if okS a && okS b then toldE (numS a + numS b) else 1)]) := by
  refine ecalls_of_awp Tryd.func55 (c := _) rfl (Nat.le_of_ble_eq_true rfl) ?_
  show awp cx 11 _ (postF cx Tryd.f55 _) ⟨[(0, (AV.lit (.string (a)))), (1, (AV.lit (.string (b))))], []⟩
  refine awp_seq fun K0 hK0 => ?_
  refine awp_region rfl ?_
  refine o_assign (AV.lit (.string (({data := #[]} : ByteArray)))) Gd.none rfl ?_
  refine o_assign (nm .i64 (0)) Gd.none rfl ?_
  refine aops_end ?_
  refine hK0 _ ?_
  refine awp_seq fun K1 hK1 => ?_
  refine awp_region rfl ?_
  refine o_move (AV.lit (.string (a))) Gd.none rfl ?_
  refine o_move (AV.lit (.string (b))) Gd.none rfl ?_
  refine o_call [(AV.lit (.string (a))), (AV.lit (.string (b))), (AV.clo 92 [])] (AV.tup [(AV.lit (.string (if okS a && okS b then toldS (numS a + numS b) else { data := #[] }))), (nm .i64 (if okS a && okS b then toldE (numS a + numS b) else 1))]) Gd.none Wk_tC90 rfl (c_nBinary a b 92 (fun x y => x + y) Wk_tC92 (fun x y hx hy => c_wAdd x y (by omega) (by omega)) (fun x y hx hy => by have := len_addZ x y; omega) ha hb) ?_
  refine o_extract (AV.lit (.string (if okS a && okS b then toldS (numS a + numS b) else { data := #[] }))) Gd.none rfl rfl ?_
  refine o_extract (nm .i64 (if okS a && okS b then toldE (numS a + numS b) else 1)) Gd.none rfl rfl ?_
  refine o_assign (AV.lit (.string (if okS a && okS b then toldS (numS a + numS b) else { data := #[] }))) Gd.none rfl ?_
  refine o_assign (nm .i64 (if okS a && okS b then toldE (numS a + numS b) else 1)) Gd.none rfl ?_
  refine aops_end ?_
  refine hK1 _ ?_
  refine awp_ret ?_
  refine post_ret ⟨[(AV.lit (.string (if okS a && okS b then toldS (numS a + numS b) else { data := #[] }))), (nm .i64 (if okS a && okS b then toldE (numS a + numS b) else 1))], And.intro (AV.le_refl _) (And.intro (AV.le_refl _) (trivial)), rfl, ?_⟩
  rfl

theorem c_nMul (a b : ByteArray) (ha : a.size ≤ 9223372036854775807) (hb : b.size ≤ 9223372036854775807) : ECalls cx 51 [(AV.lit (.string (a))), (AV.lit (.string (b)))] (.tup [.lit (.string (if okS a && okS b then toldS (numS a * numS b) else { data := #[] })), nm .i64 (if okS a && okS b then toldE (numS a * numS b) else 1)]) := by
  refine ecalls_of_awp Tryd.func51 (c := _) rfl (Nat.le_of_ble_eq_true rfl) ?_
  show awp cx 11 _ (postF cx Tryd.f51 _) ⟨[(0, (AV.lit (.string (a)))), (1, (AV.lit (.string (b))))], []⟩
  refine awp_seq fun K0 hK0 => ?_
  refine awp_region rfl ?_
  refine o_assign (AV.lit (.string (({data := #[]} : ByteArray)))) Gd.none rfl ?_
  refine o_assign (nm .i64 (0)) Gd.none rfl ?_
  refine aops_end ?_
  refine hK0 _ ?_
  refine awp_seq fun K1 hK1 => ?_
  refine awp_region rfl ?_
  refine o_move (AV.lit (.string (a))) Gd.none rfl ?_
  refine o_move (AV.lit (.string (b))) Gd.none rfl ?_
  refine o_call [(AV.lit (.string (a))), (AV.lit (.string (b))), (AV.clo 91 [])] (AV.tup [(AV.lit (.string (if okS a && okS b then toldS (numS a * numS b) else { data := #[] }))), (nm .i64 (if okS a && okS b then toldE (numS a * numS b) else 1))]) Gd.none Wk_tC90 rfl (c_nBinary a b 91 (fun x y => x * y) Wk_tC91 (fun x y hx hy => c_wMul x y (by omega) (by omega)) (fun x y hx hy => by have := len_mulZ x y; omega) ha hb) ?_
  refine o_extract (AV.lit (.string (if okS a && okS b then toldS (numS a * numS b) else { data := #[] }))) Gd.none rfl rfl ?_
  refine o_extract (nm .i64 (if okS a && okS b then toldE (numS a * numS b) else 1)) Gd.none rfl rfl ?_
  refine o_assign (AV.lit (.string (if okS a && okS b then toldS (numS a * numS b) else { data := #[] }))) Gd.none rfl ?_
  refine o_assign (nm .i64 (if okS a && okS b then toldE (numS a * numS b) else 1)) Gd.none rfl ?_
  refine aops_end ?_
  refine hK1 _ ?_
  refine awp_ret ?_
  refine post_ret ⟨[(AV.lit (.string (if okS a && okS b then toldS (numS a * numS b) else { data := #[] }))), (nm .i64 (if okS a && okS b then toldE (numS a * numS b) else 1))], And.intro (AV.le_refl _) (And.intro (AV.le_refl _) (trivial)), rfl, ?_⟩
  rfl

theorem c_nSub (a b : ByteArray) (ha : a.size ≤ 9223372036854775807) (hb : b.size ≤ 9223372036854775807) : ECalls cx 56 [(AV.lit (.string (a))), (AV.lit (.string (b)))] (.tup [.lit (.string (if okS a && okS b then toldS (numS a - numS b) else { data := #[] })), nm .i64 (if okS a && okS b then toldE (numS a - numS b) else 1)]) := by
  refine ecalls_of_awp Tryd.func56 (c := _) rfl (Nat.le_of_ble_eq_true rfl) ?_
  show awp cx 11 _ (postF cx Tryd.f56 _) ⟨[(0, (AV.lit (.string (a)))), (1, (AV.lit (.string (b))))], []⟩
  refine awp_seq fun K0 hK0 => ?_
  refine awp_region rfl ?_
  refine o_assign (AV.lit (.string (({data := #[]} : ByteArray)))) Gd.none rfl ?_
  refine o_assign (nm .i64 (0)) Gd.none rfl ?_
  refine aops_end ?_
  refine hK0 _ ?_
  refine awp_seq fun K1 hK1 => ?_
  refine awp_region rfl ?_
  refine o_move (AV.lit (.string (a))) Gd.none rfl ?_
  refine o_move (AV.lit (.string (b))) Gd.none rfl ?_
  refine o_call [(AV.lit (.string (a))), (AV.lit (.string (b))), (AV.clo 93 [])] (AV.tup [(AV.lit (.string (if okS a && okS b then toldS (numS a - numS b) else { data := #[] }))), (nm .i64 (if okS a && okS b then toldE (numS a - numS b) else 1))]) Gd.none Wk_tC90 rfl (c_nBinary a b 93 (fun x y => x - y) Wk_tC93 (fun x y hx hy => c_wSub x y (by omega) (by omega)) (fun x y hx hy => by have := len_addZ x (-y); rw [Int.natAbs_neg, ← Int.sub_eq_add_neg] at this; omega) ha hb) ?_
  refine o_extract (AV.lit (.string (if okS a && okS b then toldS (numS a - numS b) else { data := #[] }))) Gd.none rfl rfl ?_
  refine o_extract (nm .i64 (if okS a && okS b then toldE (numS a - numS b) else 1)) Gd.none rfl rfl ?_
  refine o_assign (AV.lit (.string (if okS a && okS b then toldS (numS a - numS b) else { data := #[] }))) Gd.none rfl ?_
  refine o_assign (nm .i64 (if okS a && okS b then toldE (numS a - numS b) else 1)) Gd.none rfl ?_
  refine aops_end ?_
  refine hK1 _ ?_
  refine awp_ret ?_
  refine post_ret ⟨[(AV.lit (.string (if okS a && okS b then toldS (numS a - numS b) else { data := #[] }))), (nm .i64 (if okS a && okS b then toldE (numS a - numS b) else 1))], And.intro (AV.le_refl _) (And.intro (AV.le_refl _) (trivial)), rfl, ?_⟩
  rfl

theorem c_nCompare (a b : ByteArray) (ha : a.size ≤ 9223372036854775807) (hb : b.size ≤ 9223372036854775807) : ECalls cx 64 [(AV.lit (.string (a))), (AV.lit (.string (b)))] (.tup [.lit (.int .i64 (if okS a && okS b then cmpZ (numS a) (numS b) else 0)), nm .i64 (if okS a && okS b then 0 else 1)]) := by
  refine ecalls_of_awp Tryd.func64 (c := _) rfl (Nat.le_of_ble_eq_true rfl) ?_
  show awp cx 19 _ (postF cx Tryd.f64 _) ⟨[(0, (AV.lit (.string (a)))), (1, (AV.lit (.string (b))))], []⟩
  refine awp_seq fun K0 hK0 => ?_
  refine awp_region rfl ?_
  refine o_assign (nm .i64 (0)) Gd.none rfl ?_
  refine o_assign (nm .i64 (0)) Gd.none rfl ?_
  refine aops_end ?_
  refine hK0 _ ?_
  refine awp_seq fun K1 hK1 => ?_
  refine awp_seq fun K2 hK2 => ?_
  refine awp_region rfl ?_
  refine o_move (AV.lit (.string (a))) Gd.none rfl ?_
  refine o_call [(AV.lit (.string (a)))] (AV.lit (.bool (okS (a)))) Gd.none Wk_tC65 rfl (c_nValid (a) (by first | assumption | omega)) ?_
  refine o_not (b := okS (a)) Gd.none rfl ?_
  refine o_move (AV.lit (.bool (!(okS (a))))) Gd.none rfl ?_
  refine o_split (b := !(okS (a))) 9 rfl (fun h1 => ?_) (fun h1 => ?_)
  · have ha' : okS a = false := by simpa using h1
    refine o_skip (b := !(okS (a))) rfl rfl h1 ?_
    refine o_skip (b := !(okS (a))) rfl rfl h1 ?_
    refine o_skip (b := !(okS (a))) rfl rfl h1 ?_
    refine o_pickT (b := !(okS (a))) (AV.lit (.bool true)) Gd.none rfl h1 rfl ?_
    refine aops_end ?_
    refine hK2 _ ?_
    refine awp_condB (b := true) rfl (fun _ => ?_) (fun hh => absurd (hh.symm.trans rfl) (by decide))
    refine awp_seq fun K3 hK3 => ?_
    refine awp_region rfl ?_
    refine o_assign (nm .i64 (0)) Gd.none rfl ?_
    refine o_assign (nm .i64 (1)) Gd.none rfl ?_
    refine aops_end ?_
    refine hK3 _ ?_
    refine awp_ret ?_
    refine post_ret ⟨[(nm .i64 (0)), (nm .i64 (1))], And.intro (AV.le_refl _) (And.intro (AV.le_refl _) (trivial)), rfl, ?_⟩
    exact tup_eq2 (by rw [ha']; rfl) (by rw [ha']; rfl)
  · have ha' : okS a = true := by simpa using h1
    refine o_move (AV.lit (.string (b))) (Gd.yes rfl rfl h1) rfl ?_
    refine o_call [(AV.lit (.string (b)))] (AV.lit (.bool (okS (b)))) (Gd.yes rfl rfl h1) Wk_tC65 rfl (c_nValid (b) (by first | assumption | omega)) ?_
    refine o_not (b := okS (b)) (Gd.yes rfl rfl h1) rfl ?_
    refine o_pickF (b := !(okS (a))) (AV.lit (.bool (!(okS (b))))) Gd.none rfl h1 rfl ?_
    refine aops_end ?_
    refine hK2 _ ?_
    refine awp_condB (b := !(okS (b))) rfl (fun h2 => ?_) (fun h2 => ?_)
    · have hb' : okS b = false := by simpa using h2
      refine awp_seq fun K4 hK4 => ?_
      refine awp_region rfl ?_
      refine o_assign (nm .i64 (0)) Gd.none rfl ?_
      refine o_assign (nm .i64 (1)) Gd.none rfl ?_
      refine aops_end ?_
      refine hK4 _ ?_
      refine awp_ret ?_
      refine post_ret ⟨[(nm .i64 (0)), (nm .i64 (1))], And.intro (AV.le_refl _) (And.intro (AV.le_refl _) (trivial)), rfl, ?_⟩
      exact tup_eq2 (by rw [ha', hb']; rfl) (by rw [ha', hb']; rfl)
    · have hb' : okS b = true := by simpa using h2
      refine awp_skip ?_
      refine hK1 _ ?_
      refine awp_seq fun K5 hK5 => ?_
      refine awp_region rfl ?_
      refine o_move (AV.lit (.string (a))) Gd.none rfl ?_
      refine o_call [(AV.lit (.string (a)))] (intW ((numS (a)))) Gd.none Wk_tC69 rfl (c_wParse (a) (by first | assumption | exact okS_iff.1 (by assumption))) ?_
      refine o_move (AV.lit (.string (b))) Gd.none rfl ?_
      refine o_call [(AV.lit (.string (b)))] (intW ((numS (b)))) Gd.none Wk_tC69 rfl (c_wParse (b) (by first | assumption | exact okS_iff.1 (by assumption))) ?_
      refine o_call [(intW ((numS (a)))), (intW ((numS (b))))] (AV.lit (.int .i64 (cmpZ ((numS (a))) ((numS (b)))))) Gd.none Wk_tC76 rfl (c_wCmp ((numS (a))) ((numS (b)))) ?_
      refine o_assign (AV.lit (.int .i64 (cmpZ ((numS (a))) ((numS (b)))))) Gd.none rfl ?_
      refine o_assign (nm .i64 (0)) Gd.none rfl ?_
      refine aops_end ?_
      refine hK5 _ ?_
      refine awp_ret ?_
      refine post_ret ⟨[(AV.lit (.int .i64 (cmpZ ((numS (a))) ((numS (b)))))), (nm .i64 (0))], And.intro (AV.le_refl _) (And.intro (AV.le_refl _) (trivial)), rfl, ?_⟩
      exact tup_eq2 (by rw [ha', hb']; rfl) (by rw [ha', hb']; rfl)

end Go.Proofs.YtkngglpnejdicaaDoor
