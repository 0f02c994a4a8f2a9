import Derived.Test.YtkngglpnejdicaaDoorWk
import Derived.Test.YtkngglpnejdicaaDoorWj
set_option linter.unusedVariables false
set_option linter.unusedSimpArgs false
namespace Go.Proofs.YtkngglpnejdicaaDoor
open Go Go.Ab Go.Mth
theorem Wl_tA24 : tyAgg cx.P 24 = some 3 := by kernel_rfl
theorem Wl_tC39 : callable cx.P 39 = true := by kernel_rfl
theorem Wl_tC65 : callable cx.P 65 = true := by kernel_rfl
theorem Wl_tC69 : callable cx.P 69 = true := by kernel_rfl
theorem Wl_tC85 : callable cx.P 85 = true := by kernel_rfl
theorem Wl_tO89 : tyZero cx.P 89 = some [(Go.Value.bool false), (Go.Value.slice none 0 0)] := by kernel_rfl
theorem Wl_tZ89 : tySize cx.P 89 = some 2 := by kernel_rfl
theorem Wl_tA89 : tyAgg cx.P 89 = some 2 := by kernel_rfl
theorem Wl_tC86 : callable cx.P 86 = true := by kernel_rfl
theorem c_sStep (m : MapM) (a : ByteArray) (ha : a.size ≤ 9223372036854775807) : ECalls cx 45 [(mapV m), (AV.lit (.string (a)))] (.tup [.lit (.string (if okM m && okS a then toldS (stepZ m (numS a)) else { data := #[] })), nm .i64 (if okM m && okS a then toldE (stepZ m (numS a)) else 1)]) := by
  refine ecalls_of_awp Tryd.func45 (c := _) rfl (Nat.le_of_ble_eq_true rfl) ?_
  show awp cx 27 _ (postF cx Tryd.f45 _) ⟨[(0, (mapV m)), (1, (AV.lit (.string (a))))], []⟩
  refine awp_seq fun K0 hK0 => ?_
  refine awp_region rfl ?_
  refine o_box 2 [(AV.lit (.int .i64 (m.mod))), (AV.sl 1 (is .i64 (m.mul))), (AV.sl 1 (is .i64 (m.add)))] Gd.none rfl rfl ?_
  refine o_assign (AV.lit (.string (({data := #[]} : ByteArray)))) Gd.none rfl ?_
  refine o_assign (nm .i64 (0)) Gd.none rfl ?_
  refine aops_end ?_
  refine hK0 _ ?_
  refine awp_seq fun K1 hK1 => ?_
  refine awp_seq fun K2 hK2 => ?_
  refine awp_region rfl ?_
  refine o_loadA [(AV.lit (.int .i64 (m.mod))), (AV.sl 1 (is .i64 (m.mul))), (AV.sl 1 (is .i64 (m.add)))] Gd.none Wl_tA24 rfl rfl rfl rfl rfl ?_
  refine o_call [(AV.agg [(AV.lit (.int .i64 (m.mod))), (AV.sl 1 (is .i64 (m.mul))), (AV.sl 1 (is .i64 (m.add)))])] (AV.lit (.bool (okM m))) Gd.none Wl_tC39 rfl (c_sValid m) ?_
  refine o_not (b := okM m) Gd.none rfl ?_
  refine o_move (AV.lit (.bool (!(okM m)))) Gd.none rfl ?_
  refine o_split (b := !(okM m)) 11 rfl (fun h1 => ?_) (fun h1 => ?_)
  · have hm' : okM m = false := by simpa using h1
    refine o_skip (b := !(okM m)) rfl rfl h1 ?_
    refine o_skip (b := !(okM m)) rfl rfl h1 ?_
    refine o_skip (b := !(okM m)) rfl rfl h1 ?_
    refine o_pickT (b := !(okM m)) (AV.lit (.bool true)) Gd.none rfl h1 rfl ?_
    refine aops_end ?_
    refine hK2 _ ?_
    refine awp_condB (b := true) rfl (fun _ => ?_) (fun hh => absurd (hh.symm.trans rfl) (by decide))
    refine awp_seq fun K3 hK3 => ?_
    refine awp_region rfl ?_
    refine o_assign (AV.lit (.string (({data := #[]} : ByteArray)))) Gd.none rfl ?_
    refine o_assign (nm .i64 (1)) Gd.none rfl ?_
    refine aops_end ?_
    refine hK3 _ ?_
    refine awp_ret ?_
    refine post_ret ⟨[(AV.lit (.string (({data := #[]} : ByteArray)))), (nm .i64 (1))], And.intro (AV.le_refl _) (And.intro (AV.le_refl _) (trivial)), rfl, ?_⟩
    exact tup_eq2 (by rw [hm']; rfl) (by rw [hm']; rfl)
  · have hm' : okM m = true := by simpa using h1
    have hM := okM_iff.1 hm'
    refine o_move (AV.lit (.string (a))) (Gd.yes rfl rfl h1) rfl ?_
    refine o_call [(AV.lit (.string (a)))] (AV.lit (.bool (okS (a)))) (Gd.yes rfl rfl h1) Wl_tC65 rfl (c_nValid (a) (by first | assumption | omega)) ?_
    refine o_not (b := okS (a)) (Gd.yes rfl rfl h1) rfl ?_
    refine o_pickF (b := !(okM m)) (AV.lit (.bool (!(okS (a))))) Gd.none rfl h1 rfl ?_
    refine aops_end ?_
    refine hK2 _ ?_
    refine awp_condB (b := !(okS (a))) rfl (fun h2 => ?_) (fun h2 => ?_)
    · have ha' : okS a = false := by simpa using h2
      refine awp_seq fun K4 hK4 => ?_
      refine awp_region rfl ?_
      refine o_assign (AV.lit (.string (({data := #[]} : ByteArray)))) Gd.none rfl ?_
      refine o_assign (nm .i64 (1)) Gd.none rfl ?_
      refine aops_end ?_
      refine hK4 _ ?_
      refine awp_ret ?_
      refine post_ret ⟨[(AV.lit (.string (({data := #[]} : ByteArray)))), (nm .i64 (1))], And.intro (AV.le_refl _) (And.intro (AV.le_refl _) (trivial)), rfl, ?_⟩
      exact tup_eq2 (by rw [hm', ha']; rfl) (by rw [hm', ha']; rfl)
    · have ha' : okS a = true := by simpa using h2
      have hl := len_numS (okS_iff.1 ha')
      have hl2 := step_len hM hl (by decide)
      refine awp_skip ?_
      refine hK1 _ ?_
      refine awp_seq fun K5 hK5 => ?_
      refine awp_regionD rfl ?_
      refine o_loadA [(AV.lit (.int .i64 (m.mod))), (AV.sl 1 (is .i64 (m.mul))), (AV.sl 1 (is .i64 (m.add)))] Gd.none Wl_tA24 rfl rfl rfl rfl rfl ?_
      refine o_move (AV.lit (.string (a))) Gd.none rfl ?_
      refine o_call [(AV.lit (.string (a)))] (intW ((numS (a)))) Gd.none Wl_tC69 rfl (c_wParse (a) (by first | assumption | exact okS_iff.1 (by assumption))) ?_
      refine o_call [(AV.agg [(AV.lit (.int .i64 (m.mod))), (AV.sl 1 (is .i64 (m.mul))), (AV.sl 1 (is .i64 (m.add)))]), (intW ((numS (a))))] (AV.tup [(intW ((stepZ m (numS (a))))), (AV.lit (.int .i64 ((numS (a)) % m.mod)))]) Gd.none Wl_tC85 rfl (c_sNext m ((numS (a))) (by first | assumption | exact okM_iff.1 (by assumption)) (by first | assumption | omega | (simp only [Int.natAbs_neg]; omega))) ?_
      refine o_move (AV.tup [(intW ((stepZ m (numS (a))))), (AV.lit (.int .i64 ((numS (a)) % m.mod)))]) Gd.none rfl ?_
      refine o_extract (intW ((stepZ m (numS (a))))) Gd.none rfl rfl ?_
      refine o_extract (AV.lit (.int .i64 ((numS (a)) % m.mod))) Gd.none rfl rfl ?_
      refine o_alloc 3 [(AV.lit (.bool false)), (AV.lit (.slice none 0 0))] Gd.none Wl_tO89 rfl rfl rfl ?_
      refine o_store [(3, (AO.var 89 [(bp ((stepZ m (numS (a))) < 0)), (AV.sl 1 (ns .u32 (digs ((stepZ m (numS (a)))).natAbs)))])), (2, (AO.var 24 [(AV.lit (.int .i64 (m.mod))), (AV.sl 1 (is .i64 (m.mul))), (AV.sl 1 (is .i64 (m.add)))]))] Gd.none Wl_tZ89 rfl rfl rfl rfl rfl rfl ?_
      refine o_assign (AV.lit (.int .i64 ((numS (a)) % m.mod))) Gd.none rfl ?_
      refine aops_end ⟨by kernel_rfl, ?_⟩
      refine hK5 _ ?_
      refine awp_seq fun K6 hK6 => ?_
      refine awp_region rfl ?_
      refine o_loadA [(bp ((stepZ m (numS (a))) < 0)), (AV.sl 1 (ns .u32 (digs ((stepZ m (numS (a)))).natAbs)))] Gd.none Wl_tA89 rfl rfl rfl rfl rfl ?_
      refine o_call [(AV.agg [(bp ((stepZ m (numS (a))) < 0)), (AV.sl 1 (ns .u32 (digs ((stepZ m (numS (a)))).natAbs)))])] (AV.tup [(AV.lit (.string (toldS ((stepZ m (numS (a))))))), (nm .i64 (toldE ((stepZ m (numS (a))))))]) Gd.none Wl_tC86 rfl (c_nTold ((stepZ m (numS (a)))) (by first | assumption | omega | (simp only [Int.natAbs_neg]; omega))) ?_
      refine o_extract (AV.lit (.string (toldS ((stepZ m (numS (a))))))) Gd.none rfl rfl ?_
      refine o_extract (nm .i64 (toldE ((stepZ m (numS (a)))))) Gd.none rfl rfl ?_
      refine o_assign (AV.lit (.string (toldS ((stepZ m (numS (a))))))) Gd.none rfl ?_
      refine o_assign (nm .i64 (toldE ((stepZ m (numS (a)))))) Gd.none rfl ?_
      refine aops_end ?_
      refine hK6 _ ?_
      refine awp_ret ?_
      refine post_ret ⟨[(AV.lit (.string (toldS ((stepZ m (numS (a))))))), (nm .i64 (toldE ((stepZ m (numS (a))))))], And.intro (AV.le_refl _) (And.intro (AV.le_refl _) (trivial)), rfl, ?_⟩
      exact tup_eq2 (by rw [hm', ha']; rfl) (by rw [hm', ha']; rfl)

end Go.Proofs.YtkngglpnejdicaaDoor
