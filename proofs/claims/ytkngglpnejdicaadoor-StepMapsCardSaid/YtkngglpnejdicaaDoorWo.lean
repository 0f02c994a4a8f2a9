import Derived.Test.YtkngglpnejdicaaDoorWn
import Derived.Test.YtkngglpnejdicaaDoorLa
set_option linter.unusedVariables false
set_option linter.unusedSimpArgs false
namespace Go.Proofs.YtkngglpnejdicaaDoor
open Go Go.Ab Go.Mth
theorem Wo_tU26 : cx.P.underlying 26 = some (.slice 9) := by kernel_rfl
theorem Wo_tE26 : tyElem cx.P 26 = some (9, 1, 16) := by kernel_rfl
theorem Wo_tS9 : tySc cx.P 9 = true := by kernel_rfl
theorem Wo_tA24 : tyAgg cx.P 24 = some 3 := by kernel_rfl
theorem Wo_tC40 : callable cx.P 40 = true := by kernel_rfl
theorem Wo_tC29 : callable cx.P 29 = true := by kernel_rfl
theorem Wo_tC44 : callable cx.P 44 = true := by kernel_rfl
theorem Wo_tO24 : tyZero cx.P 24 = some [(Go.Value.int IntKind.i64 0), (Go.Value.slice none 0 0), (Go.Value.slice none 0 0)] := by kernel_rfl
theorem Wo_tZ24 : tySize cx.P 24 = some 3 := by kernel_rfl
theorem Wo_tC19 : callable cx.P 19 = true := by kernel_rfl
theorem Wo_tC27 : callable cx.P 27 = true := by kernel_rfl
theorem Wo_tC38 : callable cx.P 38 = true := by kernel_rfl
theorem Wo_tO9 : tyZero cx.P 9 = some [(Go.Value.string {data := #[]})] := by kernel_rfl
theorem Wo_tC73 : callable cx.P 73 = true := by kernel_rfl
theorem Wo_tC20 : callable cx.P 20 = true := by kernel_rfl
theorem Wo_tC43 : callable cx.P 43 = true := by kernel_rfl
theorem Wo_tC18 : callable cx.P 18 = true := by kernel_rfl
theorem Wo_tC21 : callable cx.P 21 = true := by kernel_rfl
theorem Wo_tC22 : callable cx.P 22 = true := by kernel_rfl
theorem Wo_tC24 : callable cx.P 24 = true := by kernel_rfl
theorem Wo_tC23 : callable cx.P 23 = true := by kernel_rfl
theorem Wo_tU33 : cx.P.underlying 33 = some (.slice 36) := by kernel_rfl
theorem Wo_tE33 : tyElem cx.P 33 = some (36, 2, 32) := by kernel_rfl
theorem Wo_tA36 : tyAgg cx.P 36 = some 2 := by kernel_rfl
theorem Wo_tC25 : callable cx.P 25 = true := by kernel_rfl
theorem Wo_tC26 : callable cx.P 26 = true := by kernel_rfl
theorem c_l2Same (x y : List ByteArray) : ECalls cx 73 [(AV.sl 1 (sbs (x))), (AV.sl 1 (sbs (y)))] (bp (x = y)) := by
  refine ecalls_of_awp Tryd.func73 (c := _) rfl (Nat.le_of_ble_eq_true rfl) ?_
  show awp cx 26 _ (postF cx Tryd.f73 _) ⟨[(0, (AV.sl 1 (sbs (x)))), (1, (AV.sl 1 (sbs (y))))], []⟩
  refine awp_bound (i := 0) rfl fun hb => ?_
  replace hb := sbs_bnd hb
  refine awp_bound (i := 1) rfl fun hb2 => ?_
  replace hb2 := sbs_bnd hb2
  refine awp_seq fun K0 hK0 => ?_
  refine awp_region rfl ?_
  refine o_assign (AV.lit (.bool false)) Gd.none rfl ?_
  refine aops_end ?_
  refine hK0 _ ?_
  refine awp_seq fun K1 hK1 => ?_
  refine awp_seq fun K2 hK2 => ?_
  refine awp_region rfl ?_
  refine o_move (AV.sl 1 (sbs (x))) Gd.none rfl ?_
  refine s_len (x) Gd.none Wo_tU26 rfl ?_
  refine o_move (AV.sl 1 (sbs (y))) Gd.none rfl ?_
  refine s_len (y) Gd.none Wo_tU26 rfl ?_
  refine n_neq ((x).length) ((y).length) Gd.none rfl rfl ?_
  refine aops_end ?_
  refine hK2 _ ?_
  refine awp_condQ (q := ((x).length) ≠ ((y).length)) rfl (fun h1 => ?_) (fun h1 => ?_)
  · refine awp_seq fun K3 hK3 => ?_
    refine awp_region rfl ?_
    refine o_assign (AV.lit (.bool false)) Gd.none rfl ?_
    refine aops_end ?_
    refine hK3 _ ?_
    refine awp_ret ?_
    refine post_ret ⟨[(AV.lit (.bool false))], And.intro (AV.le_refl _) (trivial), rfl, ?_⟩
    exact (bl_bp (b := false) (by constructor <;> intro h <;> first | (exfalso; subst h; exact h1 rfl) | cases h)).symm
  · refine awp_skip ?_
    refine hK1 _ ?_
    refine awp_seq fun K4 hK4 => ?_
    refine awp_seq fun K5 hK5 => ?_
    refine awp_region rfl ?_
    refine o_assign (nm .i64 (0)) Gd.none rfl ?_
    refine aops_end ?_
    refine hK5 _ ?_
    refine awp_block ?_
    refine awp_loopR (fun κ σ => ∃ (i : Nat), (i ≤ x.length) ∧ (∀ k, k < i → x.getD k { data := #[] } = y.getD k { data := #[] }) ∧ (x.length - i) = κ ∧ σ = ⟨[(0, (AV.sl 1 (sbs (x)))), (1, (AV.sl 1 (sbs (y)))), (5, (nm .i64 (i)))], []⟩) ⟨_, _, ⟨0, (by omega), (fun k hk => by omega), rfl, rfl⟩, ?wk0⟩ ?rd0
    case wk0 =>
      exact Wk.sub (And.intro (by exact rfl) (And.intro (by exact rfl) (And.intro (by first | rfl | exact congrArg (nm _) (by omega) | exact nm_int (by omega) | exact nm_int (by simp [IntKind.wrap, IntKind.bits, IntKind.signed]; omega)) (trivial)))) (trivial)
    rintro κ _ ⟨i, hi, hv, rfl, rfl⟩
    refine awp_seq fun K6 hK6 => ?_
    refine awp_seq fun K7 hK7 => ?_
    refine awp_region rfl ?_
    refine o_move (nm .i64 (i)) Gd.none rfl ?_
    refine o_move (AV.sl 1 (sbs (x))) Gd.none rfl ?_
    refine s_len (x) Gd.none Wo_tU26 rfl ?_
    refine n_lss (i) ((x).length) Gd.none rfl rfl ?_
    refine aops_end ?_
    refine hK7 _ ?_
    refine awp_condQ (q := (i) < ((x).length)) rfl (fun h2 => ?_) (fun h2 => ?_)
    · refine awp_skip ?_
      refine hK6 _ ?_
      refine awp_seq fun K8 hK8 => ?_
      refine awp_block ?_
      refine awp_seq fun K9 hK9 => ?_
      refine awp_regionD rfl ?_
      refine o_move (AV.sl 1 (sbs (x))) Gd.none rfl ?_
      refine o_move (nm .i64 (i)) Gd.none rfl ?_
      refine s_index (x) (i) Gd.none Wo_tE26 rfl rfl (by omega) ?_
      refine s_loadI (x) (i) Gd.none Wo_tS9 rfl (by omega) ?_
      refine o_move (AV.sl 1 (sbs (y))) Gd.none rfl ?_
      refine o_move (nm .i64 (i)) Gd.none rfl ?_
      refine s_index (y) (i) Gd.none Wo_tE26 rfl rfl (by omega) ?_
      refine s_loadI (y) (i) Gd.none Wo_tS9 rfl (by omega) ?_
      refine o_neqS (a := ((x).getD (i) { data := #[] })) (c := ((y).getD (i) { data := #[] })) Gd.none rfl rfl ?_
      refine aops_end ⟨by kernel_rfl, ?_⟩
      refine hK9 _ ?_
      refine awp_condQ (q := ((x).getD (i) { data := #[] }).toList ≠ ((y).getD (i) { data := #[] }).toList) rfl (fun h3 => ?_) (fun h3 => ?_)
      · refine awp_seq fun K10 hK10 => ?_
        refine awp_region rfl ?_
        refine o_assign (AV.lit (.bool false)) Gd.none rfl ?_
        refine aops_end ?_
        refine hK10 _ ?_
        refine awp_ret ?_
        refine post_ret ⟨[(AV.lit (.bool false))], And.intro (AV.le_refl _) (trivial), rfl, ?_⟩
        exact (bl_bp (b := false) (by constructor <;> intro h <;> first | (exfalso; subst h; exact h3 rfl) | cases h)).symm
      · refine awp_skip ?_
        refine hK8 _ ?_
        refine awp_region rfl ?_
        refine o_move (nm .i64 (i)) Gd.none rfl ?_
        refine n_add (i) (1) Gd.none rfl rfl (by simp only [topOf]; omega) ?_
        refine o_assign (nm .i64 ((i) + (1))) Gd.none rfl ?_
        refine aops_end ?_
        refine ⟨_, _, ?lt, ⟨i + 1, (by omega), (fun k hk => by by_cases e : k = i; subst e; exact str_eq.1 (Decidable.not_not.1 h3); exact hv k (by omega)), rfl, rfl⟩, ?wk⟩
        case lt => omega
        case wk => exact Wk.sub (And.intro (by exact rfl) (And.intro (by exact rfl) (And.intro (by first | rfl | exact congrArg (nm _) (by omega) | exact nm_int (by omega) | exact nm_int (by simp [IntKind.wrap, IntKind.bits, IntKind.signed]; omega)) (trivial)))) (trivial)
    · refine awp_exit ?_
      refine hK4 _ ?_
      refine awp_seq fun K11 hK11 => ?_
      refine awp_region rfl ?_
      refine o_assign (AV.lit (.bool true)) Gd.none rfl ?_
      refine aops_end ?_
      refine hK11 _ ?_
      refine awp_ret ?_
      refine post_ret ⟨[(AV.lit (.bool true))], And.intro (AV.le_refl _) (trivial), rfl, ?_⟩
      exact (bl_bp (b := true) ⟨fun _ => list_extS (by omega) (fun k hk => hv k (by omega)), fun _ => rfl⟩).symm

theorem c_l2Formed (m : MapM) (a : ByteArray) (ha : a.size ≤ 9223372036854775807) : ECalls cx 21 [(mapV m), (AV.lit (.string (a)))] (.lit (.bool (okM m && okS a))) := by
  refine ecalls_of_awp Tryd.func21 (c := _) rfl (Nat.le_of_ble_eq_true rfl) ?_
  show awp cx 11 _ (postF cx Tryd.f21 _) ⟨[(0, (mapV m)), (1, (AV.lit (.string (a))))], []⟩
  refine awp_seq fun K0 hK0 => ?_
  refine awp_region rfl ?_
  refine o_box 2 [(AV.lit (.int .i64 (m.mod))), (AV.sl 1 (is .i64 (m.mul))), (AV.sl 1 (is .i64 (m.add)))] Gd.none rfl rfl ?_
  refine o_assign (AV.lit (.bool false)) Gd.none rfl ?_
  refine aops_end ?_
  refine hK0 _ ?_
  refine awp_seq fun K1 hK1 => ?_
  refine awp_region rfl ?_
  refine o_loadA [(AV.lit (.int .i64 (m.mod))), (AV.sl 1 (is .i64 (m.mul))), (AV.sl 1 (is .i64 (m.add)))] Gd.none Wo_tA24 rfl rfl rfl rfl rfl ?_
  refine o_call [(AV.agg [(AV.lit (.int .i64 (m.mod))), (AV.sl 1 (is .i64 (m.mul))), (AV.sl 1 (is .i64 (m.add)))])] (AV.lit (.bool (okM m))) Gd.none Wo_tC40 rfl (c_gValid m) ?_
  refine o_move (AV.lit (.bool (okM m))) Gd.none rfl ?_
  refine o_split (b := okM m) 7 rfl (fun h1 => ?_) (fun h1 => ?_)
  · refine o_move (AV.lit (.string (a))) (Gd.yes rfl rfl h1) rfl ?_
    refine o_call [(AV.lit (.string (a)))] (AV.lit (.bool (okS (a)))) (Gd.yes rfl rfl h1) Wo_tC29 rfl (c_rValid (a) (by first | assumption | omega)) ?_
    refine o_pickT (b := okM m) (AV.lit (.bool (okS (a)))) Gd.none rfl h1 rfl ?_
    refine o_assign (AV.lit (.bool (okS (a)))) Gd.none rfl ?_
    refine aops_end ?_
    refine hK1 _ ?_
    refine awp_ret ?_
    refine post_ret ⟨[(AV.lit (.bool (okS (a))))], And.intro (AV.le_refl _) (trivial), rfl, ?_⟩
    exact bl_eq (by simp [*])
  · refine o_skip (b := okM m) rfl rfl h1 ?_
    refine o_skip (b := okM m) rfl rfl h1 ?_
    refine o_pickF (b := okM m) (AV.lit (.bool false)) Gd.none rfl h1 rfl ?_
    refine o_assign (AV.lit (.bool false)) Gd.none rfl ?_
    refine aops_end ?_
    refine hK1 _ ?_
    refine awp_ret ?_
    refine post_ret ⟨[(AV.lit (.bool false))], And.intro (AV.le_refl _) (trivial), rfl, ?_⟩
    exact bl_eq (by simp [*])

theorem c_l2Awake  : ECalls cx 22 [] (.lit (.bool true)) := by
  refine ecalls_of_awp Tryd.func22 (c := _) rfl (Nat.le_of_ble_eq_true rfl) ?_
  show awp cx 58 _ (postF cx Tryd.f22 _) ⟨[], []⟩
  refine awp_seq fun K0 hK0 => ?_
  refine awp_region rfl ?_
  refine o_assign (AV.lit (.bool false)) Gd.none rfl ?_
  refine aops_end ?_
  refine hK0 _ ?_
  refine awp_seq fun K1 hK1 => ?_
  refine awp_region rfl ?_
  refine o_call [] (mapV (kinM 3 1)) Gd.none Wo_tC44 rfl c_gCollatz ?_
  refine o_alloc 2 [(nm .i64 (0)), (AV.lit (.slice none 0 0)), (AV.lit (.slice none 0 0))] Gd.none Wo_tO24 rfl rfl rfl ?_
  refine o_store [(2, (AO.var 24 [(AV.lit (.int .i64 ((kinM 3 1).mod))), (AV.sl 1 (is .i64 ((kinM 3 1).mul))), (AV.sl 1 (is .i64 ((kinM 3 1).add)))]))] Gd.none Wo_tZ24 rfl rfl rfl rfl rfl rfl ?_
  refine aops_end ?_
  refine hK1 _ ?_
  refine awp_seq fun K2 hK2 => ?_
  refine awp_region rfl ?_
  refine o_loadA [(AV.lit (.int .i64 ((kinM 3 1).mod))), (AV.sl 1 (is .i64 ((kinM 3 1).mul))), (AV.sl 1 (is .i64 ((kinM 3 1).add)))] Gd.none Wo_tA24 rfl rfl rfl rfl rfl ?_
  refine o_call [(AV.agg [(AV.lit (.int .i64 ((kinM 3 1).mod))), (AV.sl 1 (is .i64 ((kinM 3 1).mul))), (AV.sl 1 (is .i64 ((kinM 3 1).add)))]), (AV.lit (.string (({data := #[55]} : ByteArray)))), (nm .i64 (5))] (AV.tup [(AV.sl 1 (sbs ((orbS (kinM 3 1) (({data := #[55]} : ByteArray)) ((5 : Int))).map txt))), (nm .i64 (orbE (kinM 3 1) (({data := #[55]} : ByteArray)) ((5 : Int))))]) Gd.none Wo_tC19 rfl (c_sOrbit (kinM 3 1) (({data := #[55]} : ByteArray)) ((5 : Int)) (by first | assumption | decide | omega)) ?_
  refine o_move (AV.tup [(AV.sl 1 (sbs ((orbS (kinM 3 1) (({data := #[55]} : ByteArray)) ((5 : Int))).map txt))), (nm .i64 (orbE (kinM 3 1) (({data := #[55]} : ByteArray)) ((5 : Int))))]) Gd.none rfl ?_
  refine o_extract (AV.sl 1 (sbs ((orbS (kinM 3 1) (({data := #[55]} : ByteArray)) ((5 : Int))).map txt))) Gd.none rfl rfl ?_
  refine n_as (v' := (AV.sl 1 (sbs ([({data := #[55]} : ByteArray), ({data := #[49, 49]} : ByteArray), ({data := #[49, 55]} : ByteArray), ({data := #[50, 54]} : ByteArray), ({data := #[49, 51]} : ByteArray), ({data := #[50, 48]} : ByteArray)])))) (by exact ss_as orbS_ex) ?_
  refine o_extract (nm .i64 (orbE (kinM 3 1) (({data := #[55]} : ByteArray)) ((5 : Int)))) Gd.none rfl rfl ?_
  refine n_as (v' := (nm .i64 (0))) (by exact congrArg (nm _) orbE_ex) ?_
  refine o_assign (AV.sl 1 (sbs ([({data := #[55]} : ByteArray), ({data := #[49, 49]} : ByteArray), ({data := #[49, 55]} : ByteArray), ({data := #[50, 54]} : ByteArray), ({data := #[49, 51]} : ByteArray), ({data := #[50, 48]} : ByteArray)]))) Gd.none rfl ?_
  refine o_assign (nm .i64 (0)) Gd.none rfl ?_
  refine aops_end ?_
  refine hK2 _ ?_
  refine awp_seq fun K3 hK3 => ?_
  refine awp_region rfl ?_
  refine o_loadA [(AV.lit (.int .i64 ((kinM 3 1).mod))), (AV.sl 1 (is .i64 ((kinM 3 1).mul))), (AV.sl 1 (is .i64 ((kinM 3 1).add)))] Gd.none Wo_tA24 rfl rfl rfl rfl rfl ?_
  refine o_call [(AV.agg [(AV.lit (.int .i64 ((kinM 3 1).mod))), (AV.sl 1 (is .i64 ((kinM 3 1).mul))), (AV.sl 1 (is .i64 ((kinM 3 1).add)))]), (AV.lit (.string (({data := #[55]} : ByteArray)))), (nm .i64 (100))] (AV.tup [(nm .i64 (fallK (kinM 3 1) (({data := #[55]} : ByteArray)) ((100 : Int)))), (AV.lit (.string (fallT (kinM 3 1) (({data := #[55]} : ByteArray)) ((100 : Int))))), (nm .i64 (fallE (kinM 3 1) (({data := #[55]} : ByteArray)) ((100 : Int))))]) Gd.none Wo_tC27 rfl (c_sFalls (kinM 3 1) (({data := #[55]} : ByteArray)) ((100 : Int)) (by first | assumption | decide | omega)) ?_
  refine o_move (AV.tup [(nm .i64 (fallK (kinM 3 1) (({data := #[55]} : ByteArray)) ((100 : Int)))), (AV.lit (.string (fallT (kinM 3 1) (({data := #[55]} : ByteArray)) ((100 : Int))))), (nm .i64 (fallE (kinM 3 1) (({data := #[55]} : ByteArray)) ((100 : Int))))]) Gd.none rfl ?_
  refine o_extract (nm .i64 (fallK (kinM 3 1) (({data := #[55]} : ByteArray)) ((100 : Int)))) Gd.none rfl rfl ?_
  refine n_as (v' := (nm .i64 (7))) (by exact congrArg (nm _) fallK_ex) ?_
  refine o_extract (AV.lit (.string (fallT (kinM 3 1) (({data := #[55]} : ByteArray)) ((100 : Int))))) Gd.none rfl rfl ?_
  refine n_as (v' := (AV.lit (.string (({data := #[53]} : ByteArray))))) (by exact str_as fallT_ex) ?_
  refine o_extract (nm .i64 (fallE (kinM 3 1) (({data := #[55]} : ByteArray)) ((100 : Int)))) Gd.none rfl rfl ?_
  refine n_as (v' := (nm .i64 (0))) (by exact congrArg (nm _) fallE_ex) ?_
  refine o_assign (nm .i64 (7)) Gd.none rfl ?_
  refine o_assign (AV.lit (.string (({data := #[53]} : ByteArray)))) Gd.none rfl ?_
  refine o_assign (nm .i64 (0)) Gd.none rfl ?_
  refine aops_end ?_
  refine hK3 _ ?_
  refine awp_seq fun K4 hK4 => ?_
  refine awp_region rfl ?_
  refine o_call [(nm .i64 (3)), (nm .i64 (1))] (AV.tup [(mapV (if kinOk ((3 : Int)) ((1 : Int)) then kinM ((3 : Int)) ((1 : Int)) else noM)), (nm .i64 (if kinOk ((3 : Int)) ((1 : Int)) then 0 else 2))]) Gd.none Wo_tC38 rfl (c_sKin ((3 : Int)) ((1 : Int))) ?_
  refine o_move (AV.tup [(mapV (if kinOk ((3 : Int)) ((1 : Int)) then kinM ((3 : Int)) ((1 : Int)) else noM)), (nm .i64 (if kinOk ((3 : Int)) ((1 : Int)) then 0 else 2))]) Gd.none rfl ?_
  refine o_extract (mapV (if kinOk ((3 : Int)) ((1 : Int)) then kinM ((3 : Int)) ((1 : Int)) else noM)) Gd.none rfl rfl ?_
  refine n_as (v' := (mapV (kinM 3 1))) (by exact congrArg mapV (if_pos (by decide))) ?_
  refine o_extract (nm .i64 (if kinOk ((3 : Int)) ((1 : Int)) then 0 else 2)) Gd.none rfl rfl ?_
  refine n_as (v' := (nm .i64 (0))) (by exact congrArg (nm _) (if_pos (by decide))) ?_
  refine o_alloc 3 [(nm .i64 (0)), (AV.lit (.slice none 0 0)), (AV.lit (.slice none 0 0))] Gd.none Wo_tO24 rfl rfl rfl ?_
  refine o_store [(3, (AO.var 24 [(AV.lit (.int .i64 ((kinM 3 1).mod))), (AV.sl 1 (is .i64 ((kinM 3 1).mul))), (AV.sl 1 (is .i64 ((kinM 3 1).add)))])), (2, (AO.var 24 [(AV.lit (.int .i64 ((kinM 3 1).mod))), (AV.sl 1 (is .i64 ((kinM 3 1).mul))), (AV.sl 1 (is .i64 ((kinM 3 1).add)))]))] Gd.none Wo_tZ24 rfl rfl rfl rfl rfl rfl ?_
  refine o_assign (nm .i64 (0)) Gd.none rfl ?_
  refine aops_end ?_
  refine hK4 _ ?_
  refine awp_seq fun K5 hK5 => ?_
  refine awp_regionD rfl ?_
  refine o_move (nm .i64 (0)) Gd.none rfl ?_
  refine n_eql (0) (0) Gd.none rfl rfl ?_
  refine o_move (bp ((0) = (0))) Gd.none rfl ?_
  refine o_move (AV.sl 1 (sbs ([({data := #[55]} : ByteArray), ({data := #[49, 49]} : ByteArray), ({data := #[49, 55]} : ByteArray), ({data := #[50, 54]} : ByteArray), ({data := #[49, 51]} : ByteArray), ({data := #[50, 48]} : ByteArray)]))) (Gd.yes rfl rfl (decide_eq_true (by decide))) rfl ?_
  refine o_buildSlice 4 (sbs ([({data := #[55]} : ByteArray), ({data := #[49, 49]} : ByteArray), ({data := #[49, 55]} : ByteArray), ({data := #[50, 54]} : ByteArray), ({data := #[49, 51]} : ByteArray), ({data := #[50, 48]} : ByteArray)])) [(0, [(AV.lit (.string (({data := #[55]} : ByteArray))))]), (1, [(AV.lit (.string (({data := #[49, 49]} : ByteArray))))]), (2, [(AV.lit (.string (({data := #[49, 55]} : ByteArray))))]), (3, [(AV.lit (.string (({data := #[50, 54]} : ByteArray))))]), (4, [(AV.lit (.string (({data := #[49, 51]} : ByteArray))))]), (5, [(AV.lit (.string (({data := #[50, 48]} : ByteArray))))])] (Gd.yes rfl rfl (decide_eq_true (by decide))) Wo_tE26 rfl Wo_tO9 rfl rfl rfl rfl rfl rfl rfl ?_
  refine o_callG [(4, 1, (sbs ([({data := #[55]} : ByteArray), ({data := #[49, 49]} : ByteArray), ({data := #[49, 55]} : ByteArray), ({data := #[50, 54]} : ByteArray), ({data := #[49, 51]} : ByteArray), ({data := #[50, 48]} : ByteArray)])))] [(AV.sl 1 (sbs ([({data := #[55]} : ByteArray), ({data := #[49, 49]} : ByteArray), ({data := #[49, 55]} : ByteArray), ({data := #[50, 54]} : ByteArray), ({data := #[49, 51]} : ByteArray), ({data := #[50, 48]} : ByteArray)]))), (AV.sl 1 (sbs ([({data := #[55]} : ByteArray), ({data := #[49, 49]} : ByteArray), ({data := #[49, 55]} : ByteArray), ({data := #[50, 54]} : ByteArray), ({data := #[49, 51]} : ByteArray), ({data := #[50, 48]} : ByteArray)])))] _ (bp ([({data := #[55]} : ByteArray), ({data := #[49, 49]} : ByteArray), ({data := #[49, 55]} : ByteArray), ({data := #[50, 54]} : ByteArray), ({data := #[49, 51]} : ByteArray), ({data := #[50, 48]} : ByteArray)] = [({data := #[55]} : ByteArray), ({data := #[49, 49]} : ByteArray), ({data := #[49, 55]} : ByteArray), ({data := #[50, 54]} : ByteArray), ({data := #[49, 51]} : ByteArray), ({data := #[50, 48]} : ByteArray)])) [(3, (AO.var 24 [(AV.lit (.int .i64 ((kinM 3 1).mod))), (AV.sl 1 (is .i64 ((kinM 3 1).mul))), (AV.sl 1 (is .i64 ((kinM 3 1).add)))])), (2, (AO.var 24 [(AV.lit (.int .i64 ((kinM 3 1).mod))), (AV.sl 1 (is .i64 ((kinM 3 1).mul))), (AV.sl 1 (is .i64 ((kinM 3 1).add)))]))] (Gd.yes rfl rfl (decide_eq_true (by decide))) Wo_tC73 rfl (And.intro ⟨_, rfl⟩ (trivial)) rfl rfl (LeL.cons (AV.le_refl _) (LeL.cons (AV.le_refl _) (LeL.nil))) (c_l2Same ([({data := #[55]} : ByteArray), ({data := #[49, 49]} : ByteArray), ({data := #[49, 55]} : ByteArray), ({data := #[50, 54]} : ByteArray), ({data := #[49, 51]} : ByteArray), ({data := #[50, 48]} : ByteArray)]) ([({data := #[55]} : ByteArray), ({data := #[49, 49]} : ByteArray), ({data := #[49, 55]} : ByteArray), ({data := #[50, 54]} : ByteArray), ({data := #[49, 51]} : ByteArray), ({data := #[50, 48]} : ByteArray)])) rfl ?_
  refine o_pickT (b := decide ((0) = (0))) (bp ([({data := #[55]} : ByteArray), ({data := #[49, 49]} : ByteArray), ({data := #[49, 55]} : ByteArray), ({data := #[50, 54]} : ByteArray), ({data := #[49, 51]} : ByteArray), ({data := #[50, 48]} : ByteArray)] = [({data := #[55]} : ByteArray), ({data := #[49, 49]} : ByteArray), ({data := #[49, 55]} : ByteArray), ({data := #[50, 54]} : ByteArray), ({data := #[49, 51]} : ByteArray), ({data := #[50, 48]} : ByteArray)])) Gd.none rfl (decide_eq_true (by decide)) rfl ?_
  refine o_move (bp ([({data := #[55]} : ByteArray), ({data := #[49, 49]} : ByteArray), ({data := #[49, 55]} : ByteArray), ({data := #[50, 54]} : ByteArray), ({data := #[49, 51]} : ByteArray), ({data := #[50, 48]} : ByteArray)] = [({data := #[55]} : ByteArray), ({data := #[49, 49]} : ByteArray), ({data := #[49, 55]} : ByteArray), ({data := #[50, 54]} : ByteArray), ({data := #[49, 51]} : ByteArray), ({data := #[50, 48]} : ByteArray)])) Gd.none rfl ?_
  refine o_move (nm .i64 (0)) (Gd.yes rfl rfl (decide_eq_true rfl)) rfl ?_
  refine n_eql (0) (0) (Gd.yes rfl rfl (decide_eq_true rfl)) rfl rfl ?_
  refine o_pickT (b := decide ([({data := #[55]} : ByteArray), ({data := #[49, 49]} : ByteArray), ({data := #[49, 55]} : ByteArray), ({data := #[50, 54]} : ByteArray), ({data := #[49, 51]} : ByteArray), ({data := #[50, 48]} : ByteArray)] = [({data := #[55]} : ByteArray), ({data := #[49, 49]} : ByteArray), ({data := #[49, 55]} : ByteArray), ({data := #[50, 54]} : ByteArray), ({data := #[49, 51]} : ByteArray), ({data := #[50, 48]} : ByteArray)])) (bp ((0) = (0))) Gd.none rfl (decide_eq_true rfl) rfl ?_
  refine o_move (bp ((0) = (0))) Gd.none rfl ?_
  refine o_move (nm .i64 (7)) (Gd.yes rfl rfl (decide_eq_true (by decide))) rfl ?_
  refine n_eql (7) (7) (Gd.yes rfl rfl (decide_eq_true (by decide))) rfl rfl ?_
  refine o_pickT (b := decide ((0) = (0))) (bp ((7) = (7))) Gd.none rfl (decide_eq_true (by decide)) rfl ?_
  refine o_move (bp ((7) = (7))) Gd.none rfl ?_
  refine o_move (AV.lit (.string (({data := #[53]} : ByteArray)))) (Gd.yes rfl rfl (decide_eq_true (by decide))) rfl ?_
  refine o_eqlS (a := (({data := #[53]} : ByteArray))) (c := (({data := #[53]} : ByteArray))) (Gd.yes rfl rfl (decide_eq_true (by decide))) rfl rfl ?_
  refine o_pickT (b := decide ((7) = (7))) (bp ((({data := #[53]} : ByteArray)).toList = (({data := #[53]} : ByteArray)).toList)) Gd.none rfl (decide_eq_true (by decide)) rfl ?_
  refine o_move (bp ((({data := #[53]} : ByteArray)).toList = (({data := #[53]} : ByteArray)).toList)) Gd.none rfl ?_
  refine o_move (nm .i64 (0)) (Gd.yes rfl rfl (decide_eq_true rfl)) rfl ?_
  refine n_eql (0) (0) (Gd.yes rfl rfl (decide_eq_true rfl)) rfl rfl ?_
  refine o_pickT (b := decide ((({data := #[53]} : ByteArray)).toList = (({data := #[53]} : ByteArray)).toList)) (bp ((0) = (0))) Gd.none rfl (decide_eq_true rfl) rfl ?_
  refine o_move (bp ((0) = (0))) Gd.none rfl ?_
  refine o_loadA [(AV.lit (.int .i64 ((kinM 3 1).mod))), (AV.sl 1 (is .i64 ((kinM 3 1).mul))), (AV.sl 1 (is .i64 ((kinM 3 1).add)))] (Gd.yes rfl rfl (decide_eq_true (by decide))) Wo_tA24 rfl rfl rfl rfl rfl ?_
  refine o_loadA [(AV.lit (.int .i64 ((kinM 3 1).mod))), (AV.sl 1 (is .i64 ((kinM 3 1).mul))), (AV.sl 1 (is .i64 ((kinM 3 1).add)))] (Gd.yes rfl rfl (decide_eq_true (by decide))) Wo_tA24 rfl rfl rfl rfl rfl ?_
  refine o_call [(AV.agg [(AV.lit (.int .i64 ((kinM 3 1).mod))), (AV.sl 1 (is .i64 ((kinM 3 1).mul))), (AV.sl 1 (is .i64 ((kinM 3 1).add)))]), (AV.agg [(AV.lit (.int .i64 ((kinM 3 1).mod))), (AV.sl 1 (is .i64 ((kinM 3 1).mul))), (AV.sl 1 (is .i64 ((kinM 3 1).add)))])] (bp ((kinM 3 1) = (kinM 3 1))) (Gd.yes rfl rfl (decide_eq_true (by decide))) Wo_tC20 rfl (c_gSame (kinM 3 1) (kinM 3 1)) ?_
  refine o_pickT (b := decide ((0) = (0))) (bp ((kinM 3 1) = (kinM 3 1))) Gd.none rfl (decide_eq_true (by decide)) rfl ?_
  refine o_move (bp ((kinM 3 1) = (kinM 3 1))) Gd.none rfl ?_
  refine o_call [] (mapV (kinM 3 1)) (Gd.yes rfl rfl (decide_eq_true rfl)) Wo_tC43 rfl c_sCollatz ?_
  refine o_loadA [(AV.lit (.int .i64 ((kinM 3 1).mod))), (AV.sl 1 (is .i64 ((kinM 3 1).mul))), (AV.sl 1 (is .i64 ((kinM 3 1).add)))] (Gd.yes rfl rfl (decide_eq_true rfl)) Wo_tA24 rfl rfl rfl rfl rfl ?_
  refine o_call [(mapV (kinM 3 1)), (AV.agg [(AV.lit (.int .i64 ((kinM 3 1).mod))), (AV.sl 1 (is .i64 ((kinM 3 1).mul))), (AV.sl 1 (is .i64 ((kinM 3 1).add)))])] (bp ((kinM 3 1) = (kinM 3 1))) (Gd.yes rfl rfl (decide_eq_true rfl)) Wo_tC20 rfl (c_gSame (kinM 3 1) (kinM 3 1)) ?_
  refine o_pickT (b := decide ((kinM 3 1) = (kinM 3 1))) (bp ((kinM 3 1) = (kinM 3 1))) Gd.none rfl (decide_eq_true rfl) rfl ?_
  refine o_assign (bp ((kinM 3 1) = (kinM 3 1))) Gd.none rfl ?_
  refine aops_end ⟨by kernel_rfl, ?_⟩
  refine hK5 _ ?_
  refine awp_ret ?_
  refine post_ret ⟨[(bp ((kinM 3 1) = (kinM 3 1)))], And.intro (AV.le_refl _) (trivial), rfl, ?_⟩
  first | rfl | simp [bp]

theorem c_StepOrbits (m : MapM) (a : ByteArray) (K : Int) (hsz : a.size ≤ 9223372036854775807) (h1m : m.mul.length ≤ 17592186044416) (h2m : m.add.length ≤ 17592186044416) : ECalls cx 3 [(mapV m), (AV.lit (.string (a))), (AV.lit (.int .i64 (K)))] (.lit (.bool true)) := by
  refine ecalls_of_awp Tryd.func3 (c := _) rfl (Nat.le_of_ble_eq_true rfl) ?_
  show awp cx 107 _ (postF cx Tryd.f3 _) ⟨[(0, (mapV m)), (1, (AV.lit (.string (a)))), (2, (AV.lit (.int .i64 (K))))], []⟩
  refine awp_seq fun K0 hK0 => ?_
  refine awp_region rfl ?_
  refine o_box 2 [(AV.lit (.int .i64 (m.mod))), (AV.sl 1 (is .i64 (m.mul))), (AV.sl 1 (is .i64 (m.add)))] Gd.none rfl rfl ?_
  refine o_assign (AV.lit (.bool false)) Gd.none rfl ?_
  refine aops_end ?_
  refine hK0 _ ?_
  refine awp_seq fun K1 hK1 => ?_
  refine awp_region rfl ?_
  refine o_loadA [(AV.lit (.int .i64 (m.mod))), (AV.sl 1 (is .i64 (m.mul))), (AV.sl 1 (is .i64 (m.add)))] Gd.none Wo_tA24 rfl rfl rfl rfl rfl ?_
  refine o_call [(AV.agg [(AV.lit (.int .i64 (m.mod))), (AV.sl 1 (is .i64 (m.mul))), (AV.sl 1 (is .i64 (m.add)))])] (mapV m) Gd.none Wo_tC18 rfl (c_gTwin m (by omega) (by omega)) ?_
  refine o_alloc 3 [(nm .i64 (0)), (AV.lit (.slice none 0 0)), (AV.lit (.slice none 0 0))] Gd.none Wo_tO24 rfl rfl rfl ?_
  refine o_store [(3, (AO.var 24 [(AV.lit (.int .i64 (m.mod))), (AV.sl 1 (is .i64 (m.mul))), (AV.sl 1 (is .i64 (m.add)))])), (2, (AO.var 24 [(AV.lit (.int .i64 (m.mod))), (AV.sl 1 (is .i64 (m.mul))), (AV.sl 1 (is .i64 (m.add)))]))] Gd.none Wo_tZ24 rfl rfl rfl rfl rfl rfl ?_
  refine aops_end ?_
  refine hK1 _ ?_
  refine awp_seq fun K2 hK2 => ?_
  refine awp_region rfl ?_
  refine o_loadA [(AV.lit (.int .i64 (m.mod))), (AV.sl 1 (is .i64 (m.mul))), (AV.sl 1 (is .i64 (m.add)))] Gd.none Wo_tA24 rfl rfl rfl rfl rfl ?_
  refine o_move (AV.lit (.string (a))) Gd.none rfl ?_
  refine o_move (AV.lit (.int .i64 (K))) Gd.none rfl ?_
  refine o_call [(AV.agg [(AV.lit (.int .i64 (m.mod))), (AV.sl 1 (is .i64 (m.mul))), (AV.sl 1 (is .i64 (m.add)))]), (AV.lit (.string (a))), (AV.lit (.int .i64 (K)))] (AV.tup [(AV.sl 1 (sbs ((orbS m (a) (K)).map txt))), (nm .i64 (orbE m (a) (K)))]) Gd.none Wo_tC19 rfl (c_sOrbit m (a) (K) (by first | assumption | decide | omega)) ?_
  refine o_move (AV.tup [(AV.sl 1 (sbs ((orbS m (a) (K)).map txt))), (nm .i64 (orbE m (a) (K)))]) Gd.none rfl ?_
  refine o_extract (AV.sl 1 (sbs ((orbS m (a) (K)).map txt))) Gd.none rfl rfl ?_
  refine o_extract (nm .i64 (orbE m (a) (K))) Gd.none rfl rfl ?_
  refine o_assign (AV.sl 1 (sbs ((orbS m (a) (K)).map txt))) Gd.none rfl ?_
  refine o_assign (nm .i64 (orbE m (a) (K))) Gd.none rfl ?_
  refine aops_end ?_
  refine hK2 _ ?_
  refine awp_seq fun K3 hK3 => ?_
  refine awp_block ?_
  refine awp_seq fun K4 hK4 => ?_
  refine awp_region rfl ?_
  refine o_loadA [(AV.lit (.int .i64 (m.mod))), (AV.sl 1 (is .i64 (m.mul))), (AV.sl 1 (is .i64 (m.add)))] Gd.none Wo_tA24 rfl rfl rfl rfl rfl ?_
  refine o_loadA [(AV.lit (.int .i64 (m.mod))), (AV.sl 1 (is .i64 (m.mul))), (AV.sl 1 (is .i64 (m.add)))] Gd.none Wo_tA24 rfl rfl rfl rfl rfl ?_
  refine o_call [(AV.agg [(AV.lit (.int .i64 (m.mod))), (AV.sl 1 (is .i64 (m.mul))), (AV.sl 1 (is .i64 (m.add)))]), (AV.agg [(AV.lit (.int .i64 (m.mod))), (AV.sl 1 (is .i64 (m.mul))), (AV.sl 1 (is .i64 (m.add)))])] (bp (m = m)) Gd.none Wo_tC20 rfl (c_gSame m m) ?_
  refine o_notP (q := m = m) Gd.none rfl ?_
  refine o_assign (bp (¬ (m = m))) Gd.none rfl ?_
  refine aops_end ?_
  refine hK4 _ ?_
  refine awp_condB (b := decide (¬ (m = m))) rfl (fun hh => absurd (hh.symm.trans (decide_eq_false (fun h => h rfl))) (by decide)) (fun _ => ?_)
  refine awp_seq fun K5 hK5 => ?_
  refine awp_region rfl ?_
  refine o_loadA [(AV.lit (.int .i64 (m.mod))), (AV.sl 1 (is .i64 (m.mul))), (AV.sl 1 (is .i64 (m.add)))] Gd.none Wo_tA24 rfl rfl rfl rfl rfl ?_
  refine o_move (AV.lit (.string (a))) Gd.none rfl ?_
  refine o_call [(AV.agg [(AV.lit (.int .i64 (m.mod))), (AV.sl 1 (is .i64 (m.mul))), (AV.sl 1 (is .i64 (m.add)))]), (AV.lit (.string (a)))] (AV.lit (.bool (okM m && okS (a)))) Gd.none Wo_tC21 rfl (c_l2Formed m (a) (by first | assumption | omega)) ?_
  refine o_not (b := okM m && okS (a)) Gd.none rfl ?_
  refine o_assign (AV.lit (.bool (!(okM m && okS (a))))) Gd.none rfl ?_
  refine aops_end ?_
  refine hK5 _ ?_
  refine awp_condB (b := !(okM m && okS (a))) rfl (fun h1 => ?_) (fun h1 => ?_)
  · refine awp_seq fun K6 hK6 => ?_
    refine awp_region rfl ?_
    refine o_move (AV.sl 1 (sbs ((orbS m (a) (K)).map txt))) Gd.none rfl ?_
    refine n_as (v' := (AV.sl 1 (sbs ([])))) (by exact ss_as (orbS_no (fun h => unformed h1 ⟨h.1, h.2.1⟩))) ?_
    refine s_len [] Gd.none Wo_tU26 rfl ?_
    refine n_eql (0) (0) Gd.none rfl rfl ?_
    refine o_move (bp ((0) = (0))) Gd.none rfl ?_
    refine o_move (nm .i64 (orbE m (a) (K))) (Gd.yes rfl rfl (decide_eq_true (by decide))) rfl ?_
    refine n_as (v' := (nm .i64 (1))) (by exact congrArg (nm _) (orbE_1 (unformed h1))) ?_
    refine n_eql (1) (1) (Gd.yes rfl rfl (decide_eq_true (by decide))) rfl rfl ?_
    refine o_pickT (b := decide ((0) = (0))) (bp ((1) = (1))) Gd.none rfl (decide_eq_true (by decide)) rfl ?_
    refine o_move (bp ((1) = (1))) Gd.none rfl ?_
    refine o_call [] (AV.lit (.bool true)) (Gd.yes rfl rfl (decide_eq_true (by decide))) Wo_tC22 rfl c_l2Awake ?_
    refine o_pickT (b := decide ((1) = (1))) (AV.lit (.bool true)) Gd.none rfl (decide_eq_true (by decide)) rfl ?_
    refine o_assign (AV.lit (.bool true)) Gd.none rfl ?_
    refine aops_end ?_
    refine hK6 _ ?_
    refine awp_ret ?_
    refine post_ret ⟨[(AV.lit (.bool true))], And.intro (AV.le_refl _) (trivial), rfl, ?_⟩
    first | rfl | simp [bp]
  · have hm2 := formed2 h1
    obtain ⟨hm', ha'⟩ := hm2
    have hM := okM_iff.1 hm'
    have hS := okS_iff.1 ha'
    have hlz := len_numS hS
    have hrl := runZ_len hM K.toNat (z := numS a) (by omega)
    have hol := fun i => orbZ_lens hM K.toNat (z := numS a) i (by omega)
    have hp := orbZ_last (m := m) K.toNat (numS a)
    refine awp_seq fun K7 hK7 => ?_
    refine awp_region rfl ?_
    refine o_move (AV.lit (.int .i64 (K))) Gd.none rfl ?_
    refine o_lss (a := (K)) (c := (((0 : Nat) : Int))) Gd.none rfl rfl ?_
    refine o_move (bp ((K) < (((0 : Nat) : Int)))) Gd.none rfl ?_
    refine o_splitP (q := (K) < (((0 : Nat) : Int))) 44 rfl (fun h2 => ?_) (fun h2 => ?_)
    · refine o_skip (b := decide ((K) < (((0 : Nat) : Int)))) rfl rfl (decide_eq_true h2) ?_
      refine o_skip (b := decide ((K) < (((0 : Nat) : Int)))) rfl rfl (decide_eq_true h2) ?_
      refine o_pickT (b := decide ((K) < (((0 : Nat) : Int)))) (AV.lit (.bool true)) Gd.none rfl (decide_eq_true h2) rfl ?_
      refine o_assign (AV.lit (.bool true)) Gd.none rfl ?_
      refine aops_end ?_
      refine hK7 _ ?_
      refine awp_condB (b := true) rfl (fun _ => ?_) (fun hh => absurd (hh.symm.trans rfl) (by decide))
      refine awp_seq fun K8 hK8 => ?_
      refine awp_region rfl ?_
      refine o_move (AV.sl 1 (sbs ((orbS m (a) (K)).map txt))) Gd.none rfl ?_
      refine n_as (v' := (AV.sl 1 (sbs ([])))) (by exact ss_as (orbS_no (fun h => by omega))) ?_
      refine s_len [] Gd.none Wo_tU26 rfl ?_
      refine n_eql (0) (0) Gd.none rfl rfl ?_
      refine o_move (bp ((0) = (0))) Gd.none rfl ?_
      refine o_move (nm .i64 (orbE m (a) (K))) (Gd.yes rfl rfl (decide_eq_true (by decide))) rfl ?_
      refine n_as (v' := (nm .i64 (2))) (by exact congrArg (nm _) (orbE_2 ⟨hm', ha'⟩ (by omega))) ?_
      refine n_eql (2) (2) (Gd.yes rfl rfl (decide_eq_true (by decide))) rfl rfl ?_
      refine o_pickT (b := decide ((0) = (0))) (bp ((2) = (2))) Gd.none rfl (decide_eq_true (by decide)) rfl ?_
      refine o_move (bp ((2) = (2))) Gd.none rfl ?_
      refine o_call [] (AV.lit (.bool true)) (Gd.yes rfl rfl (decide_eq_true (by decide))) Wo_tC22 rfl c_l2Awake ?_
      refine o_pickT (b := decide ((2) = (2))) (AV.lit (.bool true)) Gd.none rfl (decide_eq_true (by decide)) rfl ?_
      refine o_assign (AV.lit (.bool true)) Gd.none rfl ?_
      refine aops_end ?_
      refine hK8 _ ?_
      refine awp_ret ?_
      refine post_ret ⟨[(AV.lit (.bool true))], And.intro (AV.le_refl _) (trivial), rfl, ?_⟩
      first | rfl | simp [bp]
    · refine o_move (AV.lit (.int .i64 (K))) (Gd.yes rfl rfl (decide_eq_false h2)) rfl ?_
      refine o_gtr (a := (K)) (c := (((1000 : Nat) : Int))) (Gd.yes rfl rfl (decide_eq_false h2)) rfl rfl ?_
      refine o_pickF (b := decide ((K) < (((0 : Nat) : Int)))) (bp ((((1000 : Nat) : Int)) < (K))) Gd.none rfl (decide_eq_false h2) rfl ?_
      refine o_assign (bp ((((1000 : Nat) : Int)) < (K))) Gd.none rfl ?_
      refine aops_end ?_
      refine hK7 _ ?_
      refine awp_condQ (q := (((1000 : Nat) : Int)) < (K)) rfl (fun h3 => ?_) (fun h3 => ?_)
      · refine awp_seq fun K9 hK9 => ?_
        refine awp_region rfl ?_
        refine o_move (AV.sl 1 (sbs ((orbS m (a) (K)).map txt))) Gd.none rfl ?_
        refine n_as (v' := (AV.sl 1 (sbs ([])))) (by exact ss_as (orbS_no (fun h => by omega))) ?_
        refine s_len [] Gd.none Wo_tU26 rfl ?_
        refine n_eql (0) (0) Gd.none rfl rfl ?_
        refine o_move (bp ((0) = (0))) Gd.none rfl ?_
        refine o_move (nm .i64 (orbE m (a) (K))) (Gd.yes rfl rfl (decide_eq_true (by decide))) rfl ?_
        refine n_as (v' := (nm .i64 (2))) (by exact congrArg (nm _) (orbE_2 ⟨hm', ha'⟩ (by omega))) ?_
        refine n_eql (2) (2) (Gd.yes rfl rfl (decide_eq_true (by decide))) rfl rfl ?_
        refine o_pickT (b := decide ((0) = (0))) (bp ((2) = (2))) Gd.none rfl (decide_eq_true (by decide)) rfl ?_
        refine o_move (bp ((2) = (2))) Gd.none rfl ?_
        refine o_call [] (AV.lit (.bool true)) (Gd.yes rfl rfl (decide_eq_true (by decide))) Wo_tC22 rfl c_l2Awake ?_
        refine o_pickT (b := decide ((2) = (2))) (AV.lit (.bool true)) Gd.none rfl (decide_eq_true (by decide)) rfl ?_
        refine o_assign (AV.lit (.bool true)) Gd.none rfl ?_
        refine aops_end ?_
        refine hK9 _ ?_
        refine awp_ret ?_
        refine post_ret ⟨[(AV.lit (.bool true))], And.intro (AV.le_refl _) (trivial), rfl, ?_⟩
        first | rfl | simp [bp]
      · refine awp_skip ?_
        refine hK3 _ ?_
        refine awp_seq fun K10 hK10 => ?_
        refine awp_regionD rfl ?_
        refine o_loadA [(AV.lit (.int .i64 (m.mod))), (AV.sl 1 (is .i64 (m.mul))), (AV.sl 1 (is .i64 (m.add)))] Gd.none Wo_tA24 rfl rfl rfl rfl rfl ?_
        refine o_move (AV.lit (.string (a))) Gd.none rfl ?_
        refine o_call [(AV.lit (.string (a)))] (intR ((numS (a)))) Gd.none Wo_tC24 rfl (c_rParse (a) (by first | assumption | exact okS_iff.1 (by assumption))) ?_
        refine o_move (AV.lit (.int .i64 (K))) Gd.none rfl ?_
        refine n_as (v' := (nm .i64 (K.toNat))) (nm_int (by omega)) ?_
        refine o_call [(AV.agg [(AV.lit (.int .i64 (m.mod))), (AV.sl 1 (is .i64 (m.mul))), (AV.sl 1 (is .i64 (m.add)))]), (intR ((numS (a)))), (nm .i64 (K.toNat))] (AV.sl 2 (rcells (orbZ m (K.toNat) (numS (a))))) Gd.none Wo_tC23 rfl (c_gOrbit m ((numS (a))) (K.toNat) (by first | assumption | exact okM_iff.1 (by assumption)) (by omega) (by first | assumption | omega | (simp only [Int.natAbs_neg]; omega))) ?_
        refine o_assign (AV.sl 2 (rcells (orbZ m (K.toNat) (numS (a))))) Gd.none rfl ?_
        refine aops_end ⟨by kernel_rfl, ?_⟩
        refine hK10 _ ?_
        refine awp_seq fun K11 hK11 => ?_
        refine awp_seq fun K12 hK12 => ?_
        refine awp_region rfl ?_
        refine o_move (AV.sl 2 (rcells (orbZ m (K.toNat) (numS (a))))) Gd.none rfl ?_
        refine o_move (AV.sl 2 (rcells (orbZ m (K.toNat) (numS (a))))) Gd.none rfl ?_
        refine r_len (orbZ m (K.toNat) (numS (a))) Gd.none Wo_tU33 rfl ?_
        refine n_sub ((orbZ m (K.toNat) (numS (a))).length) (1) Gd.none rfl rfl (by omega) (by have := orbZ_len (m := m) K.toNat (numS a); simp only [topOf]; omega) ?_
        refine r_index (orbZ m (K.toNat) (numS (a))) (((orbZ m (K.toNat) (numS (a))).length) - (1)) Gd.none Wo_tE33 rfl rfl (by omega) ?_
        refine r_loadI (orbZ m (K.toNat) (numS (a))) (((orbZ m (K.toNat) (numS (a))).length) - (1)) Gd.none Wo_tA36 rfl (by omega) ?_
        refine n_as (v' := (intR ((runZ m K.toNat (numS a))))) (by rw [hp.1]; rfl) ?_
        refine o_call [(intR ((runZ m K.toNat (numS a))))] (bp (Fit ((runZ m K.toNat (numS a))))) Gd.none Wo_tC25 rfl (c_rFits ((runZ m K.toNat (numS a))) (by first | assumption | omega | (simp only [Int.natAbs_neg]; omega))) ?_
        refine o_notP (q := Fit ((runZ m K.toNat (numS a)))) Gd.none rfl ?_
        refine aops_end ?_
        refine hK12 _ ?_
        refine awp_condQ (q := ¬ (Fit ((runZ m K.toNat (numS a))))) rfl (fun h4 => ?_) (fun h4 => ?_)
        · refine awp_seq fun K13 hK13 => ?_
          refine awp_region rfl ?_
          refine o_move (AV.sl 1 (sbs ((orbS m (a) (K)).map txt))) Gd.none rfl ?_
          refine n_as (v' := (AV.sl 1 (sbs ([])))) (by exact ss_as (orbS_no (fun h => h4 h.2.2.2.2))) ?_
          refine s_len [] Gd.none Wo_tU26 rfl ?_
          refine n_eql (0) (0) Gd.none rfl rfl ?_
          refine o_move (bp ((0) = (0))) Gd.none rfl ?_
          refine o_move (nm .i64 (orbE m (a) (K))) (Gd.yes rfl rfl (decide_eq_true (by decide))) rfl ?_
          refine n_as (v' := (nm .i64 (3))) (by exact congrArg (nm _) (orbE_3 ⟨hm', ha'⟩ (by omega) h4)) ?_
          refine n_eql (3) (3) (Gd.yes rfl rfl (decide_eq_true (by decide))) rfl rfl ?_
          refine o_pickT (b := decide ((0) = (0))) (bp ((3) = (3))) Gd.none rfl (decide_eq_true (by decide)) rfl ?_
          refine o_move (bp ((3) = (3))) Gd.none rfl ?_
          refine o_call [] (AV.lit (.bool true)) (Gd.yes rfl rfl (decide_eq_true (by decide))) Wo_tC22 rfl c_l2Awake ?_
          refine o_pickT (b := decide ((3) = (3))) (AV.lit (.bool true)) Gd.none rfl (decide_eq_true (by decide)) rfl ?_
          refine o_assign (AV.lit (.bool true)) Gd.none rfl ?_
          refine aops_end ?_
          refine hK13 _ ?_
          refine awp_ret ?_
          refine post_ret ⟨[(AV.lit (.bool true))], And.intro (AV.le_refl _) (trivial), rfl, ?_⟩
          first | rfl | simp [bp]
        · have hF := Decidable.not_not.1 h4
          have hO := orbS_yes ⟨hm', ha', by omega, by omega, hF⟩
          refine awp_skip ?_
          refine hK11 _ ?_
          refine awp_seq fun K14 hK14 => ?_
          refine awp_seq fun K15 hK15 => ?_
          refine awp_region rfl ?_
          refine o_move (nm .i64 (orbE m (a) (K))) Gd.none rfl ?_
          refine n_as (v' := (nm .i64 (0))) (by exact congrArg (nm _) (orbE_0 ⟨hm', ha'⟩ (by omega) hF)) ?_
          refine n_neq (0) (0) Gd.none rfl rfl ?_
          refine o_move (bp ((0) ≠ (0))) Gd.none rfl ?_
          refine o_move (AV.sl 1 (sbs ((orbS m (a) (K)).map txt))) (Gd.yes rfl rfl (decide_eq_false (by decide))) rfl ?_
          refine s_len ((orbS m (a) (K)).map txt) (Gd.yes rfl rfl (decide_eq_false (by decide))) Wo_tU26 rfl ?_
          refine n_as (v' := (nm .i64 ((orbZ m (K.toNat) (numS (a))).length))) (by exact congrArg (nm _) (by rw [hO, List.length_map])) ?_
          refine o_move (AV.sl 2 (rcells (orbZ m (K.toNat) (numS (a))))) (Gd.yes rfl rfl (decide_eq_false (by decide))) rfl ?_
          refine r_len (orbZ m (K.toNat) (numS (a))) (Gd.yes rfl rfl (decide_eq_false (by decide))) Wo_tU33 rfl ?_
          refine n_neq ((orbZ m (K.toNat) (numS (a))).length) ((orbZ m (K.toNat) (numS (a))).length) (Gd.yes rfl rfl (decide_eq_false (by decide))) rfl rfl ?_
          refine o_pickF (b := decide ((0) ≠ (0))) (bp (((orbZ m (K.toNat) (numS (a))).length) ≠ ((orbZ m (K.toNat) (numS (a))).length))) Gd.none rfl (decide_eq_false (by decide)) rfl ?_
          refine aops_end ?_
          refine hK15 _ ?_
          refine awp_condB (b := decide (((orbZ m (K.toNat) (numS (a))).length) ≠ ((orbZ m (K.toNat) (numS (a))).length))) rfl (fun hh => absurd (hh.symm.trans (decide_eq_false (fun h => h rfl))) (by decide)) (fun _ => ?_)
          refine awp_skip ?_
          refine hK14 _ ?_
          refine awp_seq fun K16 hK16 => ?_
          refine awp_seq fun K17 hK17 => ?_
          refine awp_region rfl ?_
          refine o_assign (nm .i64 (0)) Gd.none rfl ?_
          refine aops_end ?_
          refine hK17 _ ?_
          refine awp_block ?_
          refine awp_loopR (fun κ σ => ∃ (i : Nat), (i ≤ (orbZ m K.toNat (numS a)).length) ∧ ((orbZ m K.toNat (numS a)).length - i) = κ ∧ σ = ⟨[(8, (AV.sl 1 (sbs ((orbZ m K.toNat (numS a)).map txt)))), (10, (AV.sl 2 (rcells (orbZ m (K.toNat) (numS (a)))))), (11, (nm .i64 (i)))], []⟩) ⟨_, _, ⟨0, (by omega), rfl, rfl⟩, ?wk0⟩ ?rd0
          case wk0 =>
            exact Wk.sub (And.intro (by first | rfl | (exact ss_as (congrArg (List.map txt) hO))) (And.intro (by exact rfl) (And.intro (by first | rfl | exact congrArg (nm _) (by omega) | exact nm_int (by omega) | exact nm_int (by simp [IntKind.wrap, IntKind.bits, IntKind.signed]; omega)) (trivial)))) (trivial)
          rintro κ _ ⟨i, hi, rfl, rfl⟩
          have hli := hol i
          have hoz := orbZ_len (m := m) K.toNat (numS a)
          refine awp_seq fun K18 hK18 => ?_
          refine awp_seq fun K19 hK19 => ?_
          refine awp_region rfl ?_
          refine o_move (nm .i64 (i)) Gd.none rfl ?_
          refine o_move (AV.sl 2 (rcells (orbZ m (K.toNat) (numS (a))))) Gd.none rfl ?_
          refine r_len (orbZ m (K.toNat) (numS (a))) Gd.none Wo_tU33 rfl ?_
          refine n_lss (i) ((orbZ m (K.toNat) (numS (a))).length) Gd.none rfl rfl ?_
          refine aops_end ?_
          refine hK19 _ ?_
          refine awp_condQ (q := (i) < ((orbZ m (K.toNat) (numS (a))).length)) rfl (fun h5 => ?_) (fun h5 => ?_)
          · refine awp_skip ?_
            refine hK18 _ ?_
            refine awp_seq fun K20 hK20 => ?_
            refine awp_block ?_
            refine awp_seq fun K21 hK21 => ?_
            refine awp_regionD rfl ?_
            refine o_move (AV.sl 1 (sbs ((orbZ m K.toNat (numS a)).map txt))) Gd.none rfl ?_
            refine o_move (nm .i64 (i)) Gd.none rfl ?_
            refine s_index ((orbZ m K.toNat (numS a)).map txt) (i) Gd.none Wo_tE26 rfl rfl (by rw [List.length_map]; omega) ?_
            refine s_loadI ((orbZ m K.toNat (numS a)).map txt) (i) Gd.none Wo_tS9 rfl (by rw [List.length_map]; omega) ?_
            refine o_move (AV.sl 2 (rcells (orbZ m (K.toNat) (numS (a))))) Gd.none rfl ?_
            refine o_move (nm .i64 (i)) Gd.none rfl ?_
            refine r_index (orbZ m (K.toNat) (numS (a))) (i) Gd.none Wo_tE33 rfl rfl (by omega) ?_
            refine r_loadI (orbZ m (K.toNat) (numS (a))) (i) Gd.none Wo_tA36 rfl (by omega) ?_
            refine o_call [(AV.agg [(bp (((orbZ m (K.toNat) (numS (a))).getD (i) 0) < 0)), (AV.sl 1 (ns .i64 (digs (((orbZ m (K.toNat) (numS (a))).getD (i) 0)).natAbs)))])] (AV.lit (.string (txt (((orbZ m (K.toNat) (numS (a))).getD (i) 0))))) Gd.none Wo_tC26 rfl (c_rText (((orbZ m (K.toNat) (numS (a))).getD (i) 0)) (by first | assumption | omega | (simp only [Int.natAbs_neg]; omega))) ?_
            refine o_neqS (a := (((orbZ m K.toNat (numS a)).map txt).getD (i) { data := #[] })) (c := (txt (((orbZ m (K.toNat) (numS (a))).getD (i) 0)))) Gd.none rfl rfl ?_
            refine aops_end ⟨by kernel_rfl, ?_⟩
            refine hK21 _ ?_
            refine awp_condQ (q := (((orbZ m K.toNat (numS a)).map txt).getD (i) { data := #[] }).toList ≠ (txt (((orbZ m (K.toNat) (numS (a))).getD (i) 0))).toList) rfl (fun h6 => ?_) (fun h6 => ?_)
            · exact absurd (by rw [map_getD (by assumption)]) h6
            · refine awp_skip ?_
              refine hK20 _ ?_
              refine awp_region rfl ?_
              refine o_move (nm .i64 (i)) Gd.none rfl ?_
              refine n_add (i) (1) Gd.none rfl rfl (by simp only [topOf]; omega) ?_
              refine o_assign (nm .i64 ((i) + (1))) Gd.none rfl ?_
              refine aops_end ?_
              refine ⟨_, _, ?lt, ⟨i + 1, (by omega), rfl, rfl⟩, ?wk⟩
              case lt => omega
              case wk => exact Wk.sub (And.intro (by exact rfl) (And.intro (by exact rfl) (And.intro (by first | rfl | exact congrArg (nm _) (by omega) | exact nm_int (by omega) | exact nm_int (by simp [IntKind.wrap, IntKind.bits, IntKind.signed]; omega)) (trivial)))) (trivial)
          · refine awp_exit ?_
            refine hK16 _ ?_
            refine awp_seq fun K22 hK22 => ?_
            refine awp_region rfl ?_
            refine o_call [] (AV.lit (.bool true)) Gd.none Wo_tC22 rfl c_l2Awake ?_
            refine o_assign (AV.lit (.bool true)) Gd.none rfl ?_
            refine aops_end ?_
            refine hK22 _ ?_
            refine awp_ret ?_
            refine post_ret ⟨[(AV.lit (.bool true))], And.intro (AV.le_refl _) (trivial), rfl, ?_⟩
            first | rfl | simp [bp]

end Go.Proofs.YtkngglpnejdicaaDoor
