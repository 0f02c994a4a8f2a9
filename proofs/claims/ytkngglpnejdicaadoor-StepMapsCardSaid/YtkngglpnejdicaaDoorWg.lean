import Derived.Test.YtkngglpnejdicaaDoorWe
import Derived.Test.YtkngglpnejdicaaDoorLb
set_option linter.unusedVariables false
set_option linter.unusedSimpArgs false
namespace Go.Proofs.YtkngglpnejdicaaDoor
open Go Go.Ab Go.Mth
theorem Wg_tC110 : callable cx.P 110 = true := by kernel_rfl
theorem Wg_tN119 : cx.P.underlying 119 = some (.interface #[("Error", 92)]) := by kernel_rfl
theorem Wg_tO89 : tyZero cx.P 89 = some [(Go.Value.bool false), (Go.Value.slice none 0 0)] := by kernel_rfl
theorem Wg_tT9 : cx.P.underlying 9 = some .string := by kernel_rfl
theorem Wg_tC100 : callable cx.P 100 = true := by kernel_rfl
theorem Wg_tI117 : tyInt cx.P 117 = some .u64 := by kernel_rfl
theorem Wg_tI122 : tyInt cx.P 122 = some .u32 := by kernel_rfl
theorem Wg_tE87 : tyElem cx.P 87 = some (122, 1, 4) := by kernel_rfl
theorem Wg_tO122 : tyZero cx.P 122 = some [(Go.Value.int IntKind.u32 0)] := by kernel_rfl
theorem Wg_tC101 : callable cx.P 101 = true := by kernel_rfl
theorem Wg_tZ89 : tySize cx.P 89 = some 2 := by kernel_rfl
theorem Wg_tA89 : tyAgg cx.P 89 = some 2 := by kernel_rfl
theorem Wg_tF89_1 : tyField cx.P 89 1 = some (1, 87) := by kernel_rfl
theorem Wg_tS87 : tySc cx.P 87 = true := by kernel_rfl
theorem Wg_tU87 : cx.P.underlying 87 = some (.slice 122) := by kernel_rfl
theorem Wg_tS122 : tySc cx.P 122 = true := by kernel_rfl
theorem Wg_tI3 : tyInt cx.P 3 = some .i64 := by kernel_rfl
theorem Wg_tC102 : callable cx.P 102 = true := by kernel_rfl
theorem Wg_tE96 : tyElem cx.P 96 = some (5, 1, 1) := by kernel_rfl
theorem Wg_tO5 : tyZero cx.P 5 = some [(Go.Value.int IntKind.u8 0)] := by kernel_rfl
theorem Wg_tF89_0 : tyField cx.P 89 0 = some (0, 4) := by kernel_rfl
theorem Wg_tS4 : tySc cx.P 4 = true := by kernel_rfl
theorem Wg_tW5 : tyZ1 cx.P 5 = some (.int .u8 0) := by kernel_rfl
theorem Wg_tU96 : cx.P.underlying 96 = some (.slice 5) := by kernel_rfl
theorem Wg_tQ5 : cx.P.underlying 5 = some (.int .u8) := by kernel_rfl
theorem Wg_tC88 : callable cx.P 88 = true := by kernel_rfl
theorem Wg_tC71 : callable cx.P 71 = true := by kernel_rfl
theorem c_parse (a : ByteArray) (h0 : 0 < a.size) (h9 : a.size ≤ 9) (h : ∀ i, i < a.size → 48 ≤ byt a i ∧ byt a i ≤ 57) : ECalls cx 100 [(AV.lit (.string (a))), (nm .i64 (10)), (nm .i64 (32))] (.tup [nm .u64 (dvk a 0 a.size), .lit .nilIface]) := by
  refine ecalls_of_awp Tryd.func100 (c := _) rfl (Nat.le_of_ble_eq_true rfl) ?_
  show awp cx 26 _ (postF cx Tryd.f100 _) ⟨[(0, (AV.lit (.string (a)))), (1, (nm .i64 (10))), (2, (nm .i64 (32)))], []⟩
  refine awp_seq fun K0 hK0 => ?_
  refine awp_region rfl ?_
  refine o_assign (nm .u64 (0)) Gd.none rfl ?_
  refine o_assign (AV.lit .nilIface) Gd.none rfl ?_
  refine aops_end ?_
  refine hK0 _ ?_
  refine awp_seq fun K1 hK1 => ?_
  refine awp_region rfl ?_
  refine o_move (AV.lit (.string (a))) Gd.none rfl ?_
  refine o_move (nm .i64 (10)) Gd.none rfl ?_
  refine o_move (nm .i64 (32)) Gd.none rfl ?_
  refine o_call [(AV.lit (.string (a))), (nm .i64 (10)), (nm .i64 (32))] (AV.tup [(nm .u64 (dvk (a) 0 (a).size)), (AV.lit .nilIface)]) Gd.none Wg_tC110 rfl (c_iparse (a) (by omega) (by omega) (by assumption)) ?_
  refine o_move (AV.tup [(nm .u64 (dvk (a) 0 (a).size)), (AV.lit .nilIface)]) Gd.none rfl ?_
  refine o_extract (nm .u64 (dvk (a) 0 (a).size)) Gd.none rfl rfl ?_
  refine o_extract (AV.lit .nilIface) Gd.none rfl rfl ?_
  refine o_assign (nm .u64 (dvk (a) 0 (a).size)) Gd.none rfl ?_
  refine o_assign (AV.lit .nilIface) Gd.none rfl ?_
  refine aops_end ?_
  refine hK1 _ ?_
  refine awp_seq fun K2 hK2 => ?_
  refine awp_seq fun K3 hK3 => ?_
  refine awp_region rfl ?_
  refine o_move (AV.lit .nilIface) Gd.none rfl ?_
  refine o_neqNil Gd.none rfl Wg_tN119 ?_
  refine aops_end ?_
  refine hK3 _ ?_
  refine awp_condB (b := false) rfl (fun hh => absurd (hh.symm.trans rfl) (by decide)) (fun _ => ?_)
  refine awp_skip ?_
  refine hK2 _ ?_
  refine awp_seq fun K4 hK4 => ?_
  refine awp_region rfl ?_
  refine o_move (nm .u64 (dvk (a) 0 (a).size)) Gd.none rfl ?_
  refine o_assign (nm .u64 (dvk (a) 0 (a).size)) Gd.none rfl ?_
  refine o_assign (AV.lit .nilIface) Gd.none rfl ?_
  refine aops_end ?_
  refine hK4 _ ?_
  refine awp_ret ?_
  refine post_ret ⟨[(nm .u64 (dvk (a) 0 (a).size)), (AV.lit .nilIface)], And.intro (AV.le_refl _) (And.intro (AV.le_refl _) (trivial)), rfl, ?_⟩
  rfl

theorem c_wParse (a : ByteArray) (hok : OkS a) : ECalls cx 69 [(AV.lit (.string (a)))] (intW (numS a)) := by
  refine ecalls_of_awp Tryd.func69 (c := _) rfl (Nat.le_of_ble_eq_true rfl) ?_
  show awp cx 38 _ (postF cx Tryd.f69 _) ⟨[(0, (AV.lit (.string (a))))], []⟩
  obtain ⟨o1, o2, o3, o4⟩ := hok
  have hs1 : sgnAt a ≤ 1 := by unfold sgnAt; split <;> omega
  refine awp_seq fun K0 hK0 => ?_
  refine awp_region rfl ?_
  refine o_alloc 2 [(AV.lit (.bool false)), (AV.lit (.slice none 0 0))] Gd.none Wg_tO89 rfl rfl rfl ?_
  refine aops_end ?_
  refine hK0 _ ?_
  refine awp_seq fun K1 hK1 => ?_
  refine awp_region rfl ?_
  refine o_move (AV.lit (.string (a))) Gd.none rfl ?_
  refine n_indexS (a) (0) Gd.none Wg_tT9 rfl rfl (by omega) ?_
  refine n_eql (byt (a) (0)) (45) Gd.none rfl rfl ?_
  refine o_assign (bp ((byt (a) (0)) = (45))) Gd.none rfl ?_
  refine aops_end ?_
  refine hK1 _ ?_
  refine awp_seqJ (J := fun σ => ∃ (b : ByteArray), (b.size = a.size - sgnAt a) ∧ (∀ i, i < b.size → byt b i = byt a (sgnAt a + i)) ∧ True ∧ σ = ⟨[(0, (AV.lit (.string (b)))), (2, (AV.ref 2 (0))), (3, (bp (byt a 0 = 45)))], [(2, (AO.var 89 [(AV.lit (.bool false)), (AV.lit (.slice none 0 0))]))]⟩) ?ja0 ?jb0
  case ja0 =>
    refine awp_seq fun K2 hK2 => ?_
    refine awp_region rfl ?_
    refine o_move (bp ((byt (a) (0)) = (45))) Gd.none rfl ?_
    refine aops_end ?_
    refine hK2 _ ?_
    refine awp_condQ (q := (byt (a) (0)) = (45)) rfl (fun h1 => ?_) (fun h1 => ?_)
    · refine awp_region rfl ?_
      refine o_move (AV.lit (.string (a))) Gd.none rfl ?_
      refine n_sliceSL (a) (1) ((a).size) Gd.none Wg_tT9 rfl rfl (by omega) (by omega) ?_
      refine o_assign (AV.lit (.string ((a).extract (1) ((a).size)))) Gd.none rfl ?_
      refine aops_end ?_
      have hs : sgnAt a = 1 := if_pos h1
      exact ⟨_, ⟨(a).extract (1) ((a).size), (by rw [extract_size a (by omega) (by omega)]; omega), (fun i hi => by rw [extract_size a (by omega) (by omega)] at hi; rw [byt_extract a (by omega) (by omega), hs]), trivial, rfl⟩, Wk.sub (And.intro (by first | rfl | (simp)) (And.intro (by exact rfl) (And.intro (by first | rfl | exact bp_congr (by first | omega | simp) | exact bl_bp (by first | omega | simp)) (trivial)))) (And.intro (by first | rfl | exact row_ns (by simp) | exact congrArg (fun x => some (AO.blk (.stringIter _ x))) (by omega)) (trivial))⟩
    · refine awp_skip ?_
      have hs : sgnAt a = 0 := if_neg h1
      exact ⟨_, ⟨a, (by omega), (fun i hi => by rw [hs, Nat.zero_add]), trivial, rfl⟩, Wk.sub (And.intro (by first | rfl | (simp)) (And.intro (by exact rfl) (And.intro (by first | rfl | exact bp_congr (by first | omega | simp) | exact bl_bp (by first | omega | simp)) (trivial)))) (And.intro (by first | rfl | exact row_ns (by simp) | exact congrArg (fun x => some (AO.blk (.stringIter _ x))) (by omega)) (trivial))⟩
  rintro _ ⟨b, hbs, hb, -, rfl⟩
  have hbd : ∀ i, i < b.size → 48 ≤ byt b i ∧ byt b i ≤ 57 := fun i hi => by rw [hb i hi]; exact o4 _ (by omega) (by omega)
  refine awp_seq fun K3 hK3 => ?_
  refine awp_region rfl ?_
  refine o_assign (AV.lit (.slice none 0 0)) Gd.none rfl ?_
  refine aops_end ?_
  refine hK3 _ ?_
  refine awp_seq fun K4 hK4 => ?_
  refine awp_seq fun K5 hK5 => ?_
  refine awp_region rfl ?_
  refine o_move (AV.lit (.string (b))) Gd.none rfl ?_
  refine n_lenS (b) Gd.none rfl Wg_tT9 ?_
  refine o_assign (nm .i64 ((b).size)) Gd.none rfl ?_
  refine aops_end ?_
  refine hK5 _ ?_
  refine awp_block ?_
  refine awp_loopR (fun κ σ => ∃ (E : Int), ∃ (L : List Nat), (E ≤ b.size) ∧ (Dig L) ∧ (0 < E → L.length * 9 = b.size - E.toNat) ∧ (L.length ≤ 2000) ∧ (val L = dvk b E.toNat (b.size - E.toNat)) ∧ (E.toNat) = κ ∧ σ = ⟨[(0, (AV.lit (.string (b)))), (2, (AV.ref 2 (0))), (3, (bp (byt a 0 = 45))), (4, (AV.row 3)), (5, (AV.lit (.int .i64 (E))))], [(2, (AO.var 89 [(AV.lit (.bool false)), (AV.lit (.slice none 0 0))])), (3, (AO.row 122 1 (ns .u32 (L))))]⟩) ⟨_, _, ⟨(b.size : Int), [], (by omega), Dig.nil, (by intro _; simp), (by simp), (by simp [val, dvk]), rfl, rfl⟩, ?wk1⟩ ?rd1
  case wk1 =>
    exact Wk.trans (Wk.newNil (i := 4) (id := 601) (e := 122) (sz := 1) rfl rfl (by decide)) (Wk.trans (Wk.sub (σ' := ⟨[(0, (AV.lit (.string (b)))), (2, (AV.ref 2 (0))), (3, (bp (byt a 0 = 45))), (4, (AV.row 601)), (5, (nm .i64 ((b).size)))], [(2, (AO.var 89 [(AV.lit (.bool false)), (AV.lit (.slice none 0 0))])), (601, (AO.row 122 1 (ns .u32 ([]))))]⟩) (And.intro rfl (And.intro rfl (And.intro rfl (And.intro rfl (And.intro rfl (trivial)))))) (And.intro rfl (And.intro rfl (trivial)))) (Wk.trans (Wk.ren (id := 601) (id' := 3) rfl) (Wk.sub (And.intro (by exact rfl) (And.intro (by exact rfl) (And.intro (by exact rfl) (And.intro (by first | rfl | (simp)) (And.intro (by first | rfl | exact int_eq (by omega) | exact int_nm (by omega)) (trivial)))))) (And.intro (by first | rfl | exact row_ns (by simp) | exact congrArg (fun x => some (AO.blk (.stringIter _ x))) (by omega)) (And.intro (by first | rfl | exact row_ns (by simp) | exact congrArg (fun x => some (AO.blk (.stringIter _ x))) (by omega)) (trivial))))))
  rintro κ _ ⟨E, L, hE, hd, hl, hl2, hv, rfl, rfl⟩
  refine awp_seq fun K6 hK6 => ?_
  refine awp_seq fun K7 hK7 => ?_
  refine awp_region rfl ?_
  refine o_move (AV.lit (.int .i64 (E))) Gd.none rfl ?_
  refine o_gtr (a := (E)) (c := (((0 : Nat) : Int))) Gd.none rfl rfl ?_
  refine aops_end ?_
  refine hK7 _ ?_
  refine awp_condQ (q := (((0 : Nat) : Int)) < (E)) rfl (fun h2 => ?_) (fun h2 => ?_)
  · have hps : (b.extract (E.toNat - 9) E.toNat).size = E.toNat - (E.toNat - 9) := extract_size b (by omega) (by omega)
    have hpb : ∀ i, i < (b.extract (E.toNat - 9) E.toNat).size → byt (b.extract (E.toNat - 9) E.toNat) i = byt b (E.toNat - 9 + i) := fun i hi => byt_extract b (by omega) (by omega)
    have hpd : ∀ i, i < (b.extract (E.toNat - 9) E.toNat).size → 48 ≤ byt (b.extract (E.toNat - 9) E.toNat) i ∧ byt (b.extract (E.toNat - 9) E.toNat) i ≤ 57 := fun i hi => by rw [hpb i hi]; exact hbd _ (by omega)
    have hq : dvk (b.extract (E.toNat - 9) E.toNat) 0 (b.extract (E.toNat - 9) E.toNat).size = dvk b (E.toNat - 9) (E.toNat - (E.toNat - 9)) := by rw [dvk_congr (t := E.toNat - 9) (b := b) (fun i hi => by rw [Nat.zero_add]; exact hpb i hi), hps]
    have hql := dvk_lt (a := b) (s := E.toNat - 9) (k := E.toNat - (E.toNat - 9)) fun j h1 h2 => hbd j (by omega)
    have hq9 : dvk b (E.toNat - 9) (E.toNat - (E.toNat - 9)) < 1000000000 := Nat.lt_of_lt_of_le hql (by have := Nat.pow_le_pow_right (n := 10) (by decide) (show E.toNat - (E.toNat - 9) ≤ 9 by omega); simpa using this)
    refine awp_wk (Wk.slot (i := 5) (y := (nm .i64 (E.toNat))) (AV.le_eq (by exact nm_int (by omega)))) ?_
    refine awp_skip ?_
    refine hK6 _ ?_
    refine awp_seq fun K8 hK8 => ?_
    refine awp_block ?_
    refine awp_seq fun K9 hK9 => ?_
    refine awp_region rfl ?_
    refine o_move (AV.lit (.string (b))) Gd.none rfl ?_
    refine o_move (nm .i64 (E.toNat)) Gd.none rfl ?_
    refine o_sub (a := (((E.toNat : Nat) : Int))) (c := (((9 : Nat) : Int))) Gd.none rfl rfl (by exact wrap64 (by omega) (by omega)) ?_
    refine o_max (a := ((0 : Nat) : Int)) (c := (((E.toNat : Nat) : Int)) - (((9 : Nat) : Int))) Gd.none rfl rfl (fun w => run_max _ _ w) ?_
    refine n_as (v' := (nm .i64 (E.toNat - 9))) (nm_int (by omega)) ?_
    refine o_move (nm .i64 (E.toNat)) Gd.none rfl ?_
    refine n_sliceSLH (b) (E.toNat - 9) (E.toNat) Gd.none Wg_tT9 rfl rfl rfl (by omega) (by omega) ?_
    refine o_call [(AV.lit (.string ((b).extract (E.toNat - 9) (E.toNat)))), (nm .i64 (10)), (nm .i64 (32))] (AV.tup [(nm .u64 (dvk ((b).extract (E.toNat - 9) (E.toNat)) 0 ((b).extract (E.toNat - 9) (E.toNat)).size)), (AV.lit .nilIface)]) Gd.none Wg_tC100 rfl (c_parse ((b).extract (E.toNat - 9) (E.toNat)) (by omega) (by omega) (by assumption)) ?_
    refine o_move (AV.tup [(nm .u64 (dvk ((b).extract (E.toNat - 9) (E.toNat)) 0 ((b).extract (E.toNat - 9) (E.toNat)).size)), (AV.lit .nilIface)]) Gd.none rfl ?_
    refine o_extract (nm .u64 (dvk ((b).extract (E.toNat - 9) (E.toNat)) 0 ((b).extract (E.toNat - 9) (E.toNat)).size)) Gd.none rfl rfl ?_
    refine n_as (v' := (nm .u64 (dvk b (E.toNat - 9) (E.toNat - (E.toNat - 9))))) (congrArg (nm _) (by exact hq)) ?_
    refine o_extract (AV.lit .nilIface) Gd.none rfl rfl ?_
    refine o_assign (nm .u64 (dvk b (E.toNat - 9) (E.toNat - (E.toNat - 9)))) Gd.none rfl ?_
    refine o_assign (AV.lit .nilIface) Gd.none rfl ?_
    refine aops_end ?_
    refine hK9 _ ?_
    refine awp_region rfl ?_
    refine o_move (AV.row 3) Gd.none rfl ?_
    refine o_move (nm .u64 (dvk b (E.toNat - 9) (E.toNat - (E.toNat - 9)))) Gd.none rfl ?_
    refine n_conv (dvk b (E.toNat - 9) (E.toNat - (E.toNat - 9))) Gd.none rfl Wg_tI117 Wg_tI122 (by simp only [topOf]; omega) ?_
    refine o_buildSlice 201 (ns .u32 ([dvk b (E.toNat - 9) (E.toNat - (E.toNat - 9))])) [(0, [(nm .u32 (dvk b (E.toNat - 9) (E.toNat - (E.toNat - 9))))])] Gd.none Wg_tE87 rfl Wg_tO122 rfl rfl rfl rfl rfl rfl rfl ?_
    refine n_append 202 (L) ([dvk b (E.toNat - 9) (E.toNat - (E.toNat - 9))]) [(201, (AO.row 122 1 (ns .u32 ([dvk b (E.toNat - 9) (E.toNat - (E.toNat - 9))])))), (2, (AO.var 89 [(AV.lit (.bool false)), (AV.lit (.slice none 0 0))]))] Gd.none Wg_tE87 Wg_tO122 rfl rfl rfl rfl rfl (by simp only [List.length_append, List.length_cons, List.length_nil]; omega) (by decide) rfl rfl ?_
    refine o_assign (AV.row 202) Gd.none rfl ?_
    refine aops_end ?_
    refine hK8 _ ?_
    refine awp_region rfl ?_
    refine o_move (nm .i64 (E.toNat)) Gd.none rfl ?_
    refine o_sub (a := (((E.toNat : Nat) : Int))) (c := (((9 : Nat) : Int))) Gd.none rfl rfl (by exact wrap64 (by omega) (by omega)) ?_
    refine o_assign (AV.lit (.int .i64 ((((E.toNat : Nat) : Int)) - (((9 : Nat) : Int))))) Gd.none rfl ?_
    refine aops_end ?_
    refine ⟨_, _, ?lt, ⟨(E.toNat : Int) - 9, (L) ++ ([dvk b (E.toNat - 9) (E.toNat - (E.toNat - 9))]), (by omega), (hd.snoc hq9), (by intro h; have := hl (by omega); simp only [List.length_append, List.length_cons, List.length_nil]; omega), (by have := hl (by omega); simp only [List.length_append, List.length_cons, List.length_nil]; omega), (by have hh := parse_step (s := E.toNat - 9) (by omega) (by omega) (hl (by omega)) hv; rw [show ((E.toNat : Int) - 9).toNat = E.toNat - 9 by omega]; exact hh), rfl, rfl⟩, ?wk⟩
    case lt => omega
    case wk => exact Wk.trans (Wk.sub (σ' := ⟨[(0, (AV.lit (.string (b)))), (2, (AV.ref 2 (0))), (3, (bp (byt a 0 = 45))), (4, (AV.row 202)), (5, (AV.lit (.int .i64 ((((E.toNat : Nat) : Int)) - (((9 : Nat) : Int))))))], [(2, (AO.var 89 [(AV.lit (.bool false)), (AV.lit (.slice none 0 0))])), (202, (AO.row 122 1 (ns .u32 ((L) ++ ([dvk b (E.toNat - 9) (E.toNat - (E.toNat - 9))])))))]⟩) (And.intro rfl (And.intro rfl (And.intro rfl (And.intro rfl (And.intro rfl (trivial)))))) (And.intro rfl (And.intro rfl (trivial)))) (Wk.trans (Wk.ren (id := 202) (id' := 3) rfl) (Wk.sub (And.intro (by exact rfl) (And.intro (by exact rfl) (And.intro (by exact rfl) (And.intro (by first | rfl | (simp)) (And.intro (by first | rfl | exact int_eq (by omega) | exact int_nm (by omega)) (trivial)))))) (And.intro (by first | rfl | exact row_ns (by simp) | exact congrArg (fun x => some (AO.blk (.stringIter _ x))) (by omega)) (And.intro (by first | rfl | exact row_ns (by simp) | exact congrArg (fun x => some (AO.blk (.stringIter _ x))) (by omega)) (trivial)))))
  · refine awp_exit ?_
    refine hK4 _ ?_
    refine awp_seq fun K10 hK10 => ?_
    refine awp_region rfl ?_
    refine o_move (bp (byt a 0 = 45)) Gd.none rfl ?_
    refine o_move (AV.row 3) Gd.none rfl ?_
    refine o_callG [(3, 1, (ns .u32 (L)))] [(bp (byt a 0 = 45)), (AV.sl 1 (ns .u32 (L)))] _ (intW ((sg (decide (byt a 0 = 45)) (val (L))))) [(2, (AO.var 89 [(AV.lit (.bool false)), (AV.lit (.slice none 0 0))]))] Gd.none Wg_tC101 rfl (And.intro ⟨_, rfl⟩ (trivial)) rfl rfl (LeL.cons (AV.le_refl _) (LeL.cons (AV.le_refl _) (LeL.nil))) (c_wTrim (decide (byt a 0 = 45)) (L) (by first | assumption | exact dgn_dig _ _ | exact digs_dig _ | exact Dig.snoc (by assumption) (by assumption) | exact Dig.cons (by omega) (digs_dig _))) rfl ?_
    refine o_store [(2, (AO.var 89 [(bp ((sg (decide (byt a 0 = 45)) (val (L))) < 0)), (AV.sl 1 (ns .u32 (digs ((sg (decide (byt a 0 = 45)) (val (L)))).natAbs)))]))] Gd.none Wg_tZ89 rfl rfl rfl rfl rfl rfl ?_
    refine aops_end ?_
    refine hK10 _ ?_
    refine awp_ret ?_
    refine post_ret ⟨[(AV.agg [(bp ((sg (decide (byt a 0 = 45)) (val (L))) < 0)), (AV.sl 1 (ns .u32 (digs ((sg (decide (byt a 0 = 45)) (val (L)))).natAbs)))])], And.intro ⟨2, (AO.var 89 [(bp ((sg (decide (byt a 0 = 45)) (val (L))) < 0)), (AV.sl 1 (ns .u32 (digs ((sg (decide (byt a 0 = 45)) (val (L)))).natAbs)))]), rfl, rfl, rfl, Or.inl ⟨Wg_tA89, AV.le_refl _⟩⟩ (trivial), rfl, ?_⟩
    refine congrArg (intK .u32) ?_
    rw [hv, show E.toNat = 0 by omega]
    unfold numS
    congr 1
    rw [← hbs]
    exact (dvk_congr fun i hi => by rw [Nat.zero_add]; exact (hb i (by omega))).symm

theorem c_wDigits (z : Int) (hz : (digs z.natAbs).length ≤ 1000000000) : ECalls cx 88 [(intW (z))] (nm .i64 (ndig z.natAbs)) := by
  refine ecalls_of_awp Tryd.func88 (c := _) rfl (Nat.le_of_ble_eq_true rfl) ?_
  show awp cx 24 _ (postF cx Tryd.f88 _) ⟨[(0, (intW (z)))], []⟩
  refine awp_seq fun K0 hK0 => ?_
  refine awp_region rfl ?_
  refine o_box 2 [(bp (z < 0)), (AV.sl 1 (ns .u32 (digs (z).natAbs)))] Gd.none rfl rfl ?_
  refine o_assign (nm .i64 (0)) Gd.none rfl ?_
  refine aops_end ?_
  refine hK0 _ ?_
  refine awp_seq fun K1 hK1 => ?_
  refine awp_seq fun K2 hK2 => ?_
  refine awp_region rfl ?_
  refine o_fieldRef 1 Gd.none Wg_tF89_1 rfl rfl ?_
  refine o_loadS (AV.sl 1 (ns .u32 (digs (z).natAbs))) Gd.none Wg_tS87 rfl rfl rfl ?_
  refine n_len (digs (z).natAbs) Gd.none Wg_tU87 rfl ?_
  refine n_eql ((digs (z).natAbs).length) (0) Gd.none rfl rfl ?_
  refine aops_end ?_
  refine hK2 _ ?_
  refine awp_condQ (q := ((digs (z).natAbs).length) = (0)) rfl (fun h1 => ?_) (fun h1 => ?_)
  · refine awp_seq fun K3 hK3 => ?_
    refine awp_region rfl ?_
    refine o_assign (nm .i64 (1)) Gd.none rfl ?_
    refine aops_end ?_
    refine hK3 _ ?_
    refine awp_ret ?_
    refine post_ret ⟨[(nm .i64 (1))], And.intro (AV.le_refl _) (trivial), rfl, ?_⟩
    refine congrArg (nm .i64) ?_
    unfold ndig
    rw [if_pos (digs_len_zero.1 h1)]
  · have hn0 : 0 < z.natAbs := by rcases Nat.eq_zero_or_pos z.natAbs with e | e; exact absurd (digs_len_zero.2 e) h1; exact e
    have ht := ndig_top hn0
    have htl := (digs_dig z.natAbs).getD ((digs z.natAbs).length - 1)
    have hsz := txt_size ((digs z.natAbs).getD ((digs z.natAbs).length - 1) 0)
    have hsm := ndig_small htl
    refine awp_skip ?_
    refine hK1 _ ?_
    refine awp_seq fun K4 hK4 => ?_
    refine awp_regionD rfl ?_
    refine o_fieldRef 1 Gd.none Wg_tF89_1 rfl rfl ?_
    refine o_loadS (AV.sl 1 (ns .u32 (digs (z).natAbs))) Gd.none Wg_tS87 rfl rfl rfl ?_
    refine n_len (digs (z).natAbs) Gd.none Wg_tU87 rfl ?_
    refine n_sub ((digs (z).natAbs).length) (1) Gd.none rfl rfl (by omega) (by simp only [topOf]; omega) ?_
    refine n_mul (9) (((digs (z).natAbs).length) - (1)) Gd.none rfl rfl (by simp only [topOf]; omega) ?_
    refine o_fieldRef 1 Gd.none Wg_tF89_1 rfl rfl ?_
    refine o_loadS (AV.sl 1 (ns .u32 (digs (z).natAbs))) Gd.none Wg_tS87 rfl rfl rfl ?_
    refine o_fieldRef 1 Gd.none Wg_tF89_1 rfl rfl ?_
    refine o_loadS (AV.sl 1 (ns .u32 (digs (z).natAbs))) Gd.none Wg_tS87 rfl rfl rfl ?_
    refine n_len (digs (z).natAbs) Gd.none Wg_tU87 rfl ?_
    refine n_sub ((digs (z).natAbs).length) (1) Gd.none rfl rfl (by omega) (by simp only [topOf]; omega) ?_
    refine n_index (digs (z).natAbs) (((digs (z).natAbs).length) - (1)) Gd.none Wg_tE87 rfl rfl (by omega) ?_
    refine n_loadI (digs (z).natAbs) (((digs (z).natAbs).length) - (1)) Gd.none Wg_tS122 rfl (by omega) ?_
    refine n_conv ((digs (z).natAbs).getD (((digs (z).natAbs).length) - (1)) 0) Gd.none rfl Wg_tI122 Wg_tI3 (by simp only [topOf]; omega) ?_
    refine o_call [(nm .i64 ((digs (z).natAbs).getD (((digs (z).natAbs).length) - (1)) 0))] (AV.lit (.string (txt (((digs (z).natAbs).getD (((digs (z).natAbs).length) - (1)) 0 : Nat) : Int)))) Gd.none Wg_tC102 rfl (c_itoa ((digs (z).natAbs).getD (((digs (z).natAbs).length) - (1)) 0) (by omega)) ?_
    refine n_lenS (txt (((digs (z).natAbs).getD (((digs (z).natAbs).length) - (1)) 0 : Nat) : Int)) Gd.none rfl Wg_tT9 ?_
    refine n_add ((9) * (((digs (z).natAbs).length) - (1))) ((txt (((digs (z).natAbs).getD (((digs (z).natAbs).length) - (1)) 0 : Nat) : Int)).size) Gd.none rfl rfl (by simp only [topOf]; omega) ?_
    refine o_assign (nm .i64 (((9) * (((digs (z).natAbs).length) - (1))) + ((txt (((digs (z).natAbs).getD (((digs (z).natAbs).length) - (1)) 0 : Nat) : Int)).size))) Gd.none rfl ?_
    refine aops_end ⟨by kernel_rfl, ?_⟩
    refine hK4 _ ?_
    refine awp_ret ?_
    refine post_ret ⟨[(nm .i64 (((9) * (((digs (z).natAbs).length) - (1))) + ((txt (((digs (z).natAbs).getD (((digs (z).natAbs).length) - (1)) 0 : Nat) : Int)).size)))], And.intro (AV.le_refl _) (trivial), rfl, ?_⟩
    refine congrArg (nm .i64) ?_
    rw [hsz]
    have hp := val_drop_pos (n := z.natAbs) (j := (digs z.natAbs).length - 1) (by omega)
    rw [val_drop_succ (by omega), val_drop_all (xs := digs z.natAbs) (j := (digs z.natAbs).length - 1 + 1) (by omega)] at hp
    unfold ndig
    rw [if_neg (by omega), if_neg (by omega), ht]

theorem c_wText (z : Int) (hz : (digs z.natAbs).length ≤ 1000000000) : ECalls cx 71 [(intW (z))] (.lit (.string (txt z))) := by
  refine ecalls_of_awp Tryd.func71 (c := _) rfl (Nat.le_of_ble_eq_true rfl) ?_
  show awp cx 54 _ (postF cx Tryd.f71 _) ⟨[(0, (intW (z)))], []⟩
  refine awp_seq fun K0 hK0 => ?_
  refine awp_region rfl ?_
  refine o_box 2 [(bp (z < 0)), (AV.sl 1 (ns .u32 (digs (z).natAbs)))] Gd.none rfl rfl ?_
  refine o_assign (AV.lit (.string (({data := #[]} : ByteArray)))) Gd.none rfl ?_
  refine aops_end ?_
  refine hK0 _ ?_
  refine awp_seq fun K1 hK1 => ?_
  refine awp_seq fun K2 hK2 => ?_
  refine awp_region rfl ?_
  refine o_fieldRef 1 Gd.none Wg_tF89_1 rfl rfl ?_
  refine o_loadS (AV.sl 1 (ns .u32 (digs (z).natAbs))) Gd.none Wg_tS87 rfl rfl rfl ?_
  refine n_len (digs (z).natAbs) Gd.none Wg_tU87 rfl ?_
  refine n_eql ((digs (z).natAbs).length) (0) Gd.none rfl rfl ?_
  refine aops_end ?_
  refine hK2 _ ?_
  refine awp_condQ (q := ((digs (z).natAbs).length) = (0)) rfl (fun h1 => ?_) (fun h1 => ?_)
  · refine awp_seq fun K3 hK3 => ?_
    refine awp_region rfl ?_
    refine o_assign (AV.lit (.string (({data := #[48]} : ByteArray)))) Gd.none rfl ?_
    refine aops_end ?_
    refine hK3 _ ?_
    refine awp_ret ?_
    refine post_ret ⟨[(AV.lit (.string (({data := #[48]} : ByteArray))))], And.intro (AV.le_refl _) (trivial), rfl, ?_⟩
    rw [show z = 0 by have := digs_len_zero.1 h1; omega]
    rfl
  · have hz0 : z.natAbs ≠ 0 := fun e => h1 (digs_len_zero.2 e)
    refine awp_skip ?_
    refine hK1 _ ?_
    refine awp_seq fun K4 hK4 => ?_
    refine awp_region rfl ?_
    refine o_buildSlice 3 (ns .u8 ([])) [] Gd.none Wg_tE96 rfl Wg_tO5 rfl rfl rfl rfl rfl rfl rfl ?_
    refine o_assign (AV.row 3) Gd.none rfl ?_
    refine aops_end ?_
    refine hK4 _ ?_
    refine awp_seqJ (J := fun σ => ∃ (o0 : List Nat), (o0 = (if z < 0 then [45] else [] : List Nat)) ∧ True ∧ σ = ⟨[(1, (AV.ref 2 (0))), (3, (AV.row 3))], [(2, (AO.var 89 [(bp (z < 0)), (AV.sl 1 (ns .u32 (digs (z).natAbs)))])), (3, (AO.row 5 1 (ns .u8 (o0))))]⟩) ?ja0 ?jb0
    case ja0 =>
      refine awp_seq fun K5 hK5 => ?_
      refine awp_region rfl ?_
      refine o_fieldRef 0 Gd.none Wg_tF89_0 rfl rfl ?_
      refine o_loadS (bp (z < 0)) Gd.none Wg_tS4 rfl rfl rfl ?_
      refine aops_end ?_
      refine hK5 _ ?_
      refine awp_condQ (q := z < 0) rfl (fun h2 => ?_) (fun h2 => ?_)
      · refine awp_region rfl ?_
        refine o_move (AV.row 3) Gd.none rfl ?_
        refine o_buildSlice 4 (ns .u8 ([45])) [(0, [(nm .u8 (45))])] Gd.none Wg_tE96 rfl Wg_tO5 rfl rfl rfl rfl rfl rfl rfl ?_
        refine n_append 5 ([]) ([45]) [(4, (AO.row 5 1 (ns .u8 ([45])))), (2, (AO.var 89 [(bp (z < 0)), (AV.sl 1 (ns .u32 (digs (z).natAbs)))]))] Gd.none Wg_tE96 Wg_tO5 rfl rfl rfl rfl rfl (by simp) (by decide) rfl rfl ?_
        refine o_assign (AV.row 5) Gd.none rfl ?_
        refine aops_end ?_
        exact ⟨_, ⟨([]) ++ ([45]), (by simp [*]), trivial, rfl⟩, Wk.trans (Wk.sub (σ' := ⟨[(1, (AV.ref 2 (0))), (3, (AV.row 5))], [(2, (AO.var 89 [(bp (z < 0)), (AV.sl 1 (ns .u32 (digs (z).natAbs)))])), (5, (AO.row 5 1 (ns .u8 (([]) ++ ([45])))))]⟩) (And.intro rfl (And.intro rfl (trivial))) (And.intro rfl (And.intro rfl (trivial)))) (Wk.trans (Wk.ren (id := 5) (id' := 3) rfl) (Wk.sub (And.intro (by exact rfl) (And.intro (by first | rfl | (simp)) (trivial))) (And.intro (by first | rfl | exact row_ns (by simp) | exact congrArg (fun x => some (AO.blk (.stringIter _ x))) (by omega)) (And.intro (by first | rfl | exact row_ns (by simp) | exact congrArg (fun x => some (AO.blk (.stringIter _ x))) (by omega)) (trivial)))))⟩
      · refine awp_skip ?_
        exact ⟨_, ⟨[], (by simp [*]), trivial, rfl⟩, Wk.sub (And.intro (by exact rfl) (And.intro (by exact rfl) (trivial))) (And.intro (by first | rfl | exact row_ns (by simp) | exact congrArg (fun x => some (AO.blk (.stringIter _ x))) (by omega)) (And.intro (by first | rfl | exact row_ns (by simp) | exact congrArg (fun x => some (AO.blk (.stringIter _ x))) (by omega)) (trivial)))⟩
    rintro _ ⟨o0, ho0, -, rfl⟩
    have hol : o0.length ≤ 1 := by rw [ho0]; split <;> simp
    refine awp_seq fun K6 hK6 => ?_
    refine awp_seq fun K7 hK7 => ?_
    refine awp_region rfl ?_
    refine o_fieldRef 1 Gd.none Wg_tF89_1 rfl rfl ?_
    refine o_loadS (AV.sl 1 (ns .u32 (digs (z).natAbs))) Gd.none Wg_tS87 rfl rfl rfl ?_
    refine n_len (digs (z).natAbs) Gd.none Wg_tU87 rfl ?_
    refine o_sub (a := ((((digs (z).natAbs).length : Nat) : Int))) (c := (((1 : Nat) : Int))) Gd.none rfl rfl (by exact wrap64 (by omega) (by omega)) ?_
    refine o_assign (AV.lit (.int .i64 (((((digs (z).natAbs).length : Nat) : Int)) - (((1 : Nat) : Int))))) Gd.none rfl ?_
    refine aops_end ?_
    refine hK7 _ ?_
    refine awp_block ?_
    refine awp_loopR (fun κ σ => ∃ (j : Nat), ∃ (out : List Nat), ∃ (body : List Nat), (j ≤ (digs z.natAbs).length) ∧ (body = (decs (val ((digs z.natAbs).drop j))).reverse) ∧ (out = o0 ++ body) ∧ (out.length ≤ 1 + 9 * ((digs z.natAbs).length - j)) ∧ (j) = κ ∧ σ = ⟨[(1, (AV.ref 2 (0))), (3, (AV.row 3)), (4, (AV.lit (.int .i64 ((j : Int) - 1))))], [(2, (AO.var 89 [(bp (z < 0)), (AV.sl 1 (ns .u32 (digs (z).natAbs)))])), (3, (AO.row 5 1 (ns .u8 (out))))]⟩) ⟨_, _, ⟨(digs z.natAbs).length, o0, [], (Nat.le_refl _), (by rw [val_drop_all (Nat.le_refl _), decs_zero]; rfl), (by simp), (by omega), rfl, rfl⟩, ?wk1⟩ ?rd1
    case wk1 =>
      exact Wk.sub (And.intro (by exact rfl) (And.intro (by exact rfl) (And.intro (by first | rfl | exact int_eq (by omega) | exact int_nm (by omega)) (trivial)))) (And.intro (by first | rfl | exact row_ns (by simp) | exact congrArg (fun x => some (AO.blk (.stringIter _ x))) (by omega)) (And.intro (by first | rfl | exact row_ns (by simp) | exact congrArg (fun x => some (AO.blk (.stringIter _ x))) (by omega)) (trivial)))
    rintro κ _ ⟨j, out, body, hj, hb, ho, hol2, rfl, rfl⟩
    have hp := (digs_dig z.natAbs).getD (j - 1)
    have htsz := txt_size ((digs z.natAbs).getD (j - 1) 0)
    have hnd := ndig_small hp
    refine awp_seq fun K8 hK8 => ?_
    refine awp_seq fun K9 hK9 => ?_
    refine awp_region rfl ?_
    refine o_move (AV.lit (.int .i64 ((j : Int) - 1))) Gd.none rfl ?_
    refine o_geq (a := ((j : Int) - 1)) (c := (((0 : Nat) : Int))) Gd.none rfl rfl ?_
    refine aops_end ?_
    refine hK9 _ ?_
    refine awp_condQ (q := (((0 : Nat) : Int)) ≤ ((j : Int) - 1)) rfl (fun h3 => ?_) (fun h3 => ?_)
    · refine awp_wk (Wk.slot (i := 4) (y := (nm .i64 (j - 1))) (AV.le_eq (by exact nm_int (by omega)))) ?_
      refine awp_skip ?_
      refine hK8 _ ?_
      refine awp_seq fun K10 hK10 => ?_
      refine awp_block ?_
      refine awp_seq fun K11 hK11 => ?_
      refine awp_region rfl ?_
      refine o_fieldRef 1 Gd.none Wg_tF89_1 rfl rfl ?_
      refine o_loadS (AV.sl 1 (ns .u32 (digs (z).natAbs))) Gd.none Wg_tS87 rfl rfl rfl ?_
      refine o_move (nm .i64 (j - 1)) Gd.none rfl ?_
      refine n_index (digs (z).natAbs) (j - 1) Gd.none Wg_tE87 rfl rfl (by omega) ?_
      refine n_loadI (digs (z).natAbs) (j - 1) Gd.none Wg_tS122 rfl (by omega) ?_
      refine n_conv ((digs (z).natAbs).getD (j - 1) 0) Gd.none rfl Wg_tI122 Wg_tI3 (by simp only [topOf]; omega) ?_
      refine o_call [(nm .i64 ((digs (z).natAbs).getD (j - 1) 0))] (AV.lit (.string (txt (((digs (z).natAbs).getD (j - 1) 0 : Nat) : Int)))) Gd.none Wg_tC102 rfl (c_itoa ((digs (z).natAbs).getD (j - 1) 0) (by omega)) ?_
      refine o_assign (AV.lit (.string (txt (((digs (z).natAbs).getD (j - 1) 0 : Nat) : Int)))) Gd.none rfl ?_
      refine aops_end ?_
      refine hK11 _ ?_
      refine awp_seq fun K12 hK12 => ?_
      refine awp_seq fun K13 hK13 => ?_
      refine awp_region rfl ?_
      refine o_move (AV.lit (.string (txt (((digs (z).natAbs).getD (j - 1) 0 : Nat) : Int)))) Gd.none rfl ?_
      refine n_lenS (txt (((digs (z).natAbs).getD (j - 1) 0 : Nat) : Int)) Gd.none rfl Wg_tT9 ?_
      refine n_as (v' := (nm .i64 (ndig ((digs z.natAbs).getD (j - 1) 0)))) (congrArg (nm _) (by exact htsz)) ?_
      refine o_assign (nm .i64 (ndig ((digs z.natAbs).getD (j - 1) 0))) Gd.none rfl ?_
      refine aops_end ?_
      refine hK13 _ ?_
      refine awp_block ?_
      refine awp_loopR (fun κ σ => ∃ (k : Nat), ∃ (out2 : List Nat), (ndig ((digs z.natAbs).getD (j - 1) 0) ≤ k) ∧ (k ≤ 9) ∧ (¬ j < (digs z.natAbs).length → k = ndig ((digs z.natAbs).getD (j - 1) 0)) ∧ (out2 = out ++ List.replicate (k - ndig ((digs z.natAbs).getD (j - 1) 0)) 48) ∧ (out2.length + ndig ((digs z.natAbs).getD (j - 1) 0) = out.length + k) ∧ (9 - k) = κ ∧ σ = ⟨[(1, (AV.ref 2 (0))), (3, (AV.row 3)), (4, (nm .i64 (j - 1))), (5, (AV.lit (.string (txt (((digs z.natAbs).getD (j - 1) 0 : Nat) : Int))))), (6, (nm .i64 (k)))], [(2, (AO.var 89 [(bp (z < 0)), (AV.sl 1 (ns .u32 (digs (z).natAbs)))])), (3, (AO.row 5 1 (ns .u8 (out2))))]⟩) ⟨_, _, ⟨ndig ((digs z.natAbs).getD (j - 1) 0), _, (Nat.le_refl _), hnd, (fun _ => rfl), (by simp), rfl, rfl, rfl⟩, ?wk2⟩ ?rd2
      case wk2 =>
        exact Wk.sub (And.intro (by exact rfl) (And.intro (by exact rfl) (And.intro (by exact rfl) (And.intro (by first | rfl | (simp)) (And.intro (by first | rfl | exact congrArg (nm _) (by omega) | exact nm_int (by omega) | exact nm_int (by simp [IntKind.wrap, IntKind.bits, IntKind.signed]; omega)) (trivial)))))) (And.intro (by first | rfl | exact row_ns (by simp) | exact congrArg (fun x => some (AO.blk (.stringIter _ x))) (by omega)) (And.intro (by first | rfl | exact row_ns (by simp) | exact congrArg (fun x => some (AO.blk (.stringIter _ x))) (by omega)) (trivial)))
      rintro κ _ ⟨k, out2, hk9, hk10, hk0, hk, hk11, rfl, rfl⟩
      refine awp_seq fun K14 hK14 => ?_
      refine awp_seq fun K15 hK15 => ?_
      refine awp_region rfl ?_
      refine o_move (nm .i64 (k)) Gd.none rfl ?_
      refine n_lss (k) (9) Gd.none rfl rfl ?_
      refine o_move (bp ((k) < (9))) Gd.none rfl ?_
      refine o_splitP (q := (k) < (9)) 36 rfl (fun h4 => ?_) (fun h4 => ?_)
      · refine o_move (nm .i64 (j - 1)) (Gd.yes rfl rfl (decide_eq_true h4)) rfl ?_
        refine o_fieldRef 1 (Gd.yes rfl rfl (decide_eq_true h4)) Wg_tF89_1 rfl rfl ?_
        refine o_loadS (AV.sl 1 (ns .u32 (digs (z).natAbs))) (Gd.yes rfl rfl (decide_eq_true h4)) Wg_tS87 rfl rfl rfl ?_
        refine n_len (digs (z).natAbs) (Gd.yes rfl rfl (decide_eq_true h4)) Wg_tU87 rfl ?_
        refine n_sub ((digs (z).natAbs).length) (1) (Gd.yes rfl rfl (decide_eq_true h4)) rfl rfl (by omega) (by simp only [topOf]; omega) ?_
        refine n_lss (j - 1) (((digs (z).natAbs).length) - (1)) (Gd.yes rfl rfl (decide_eq_true h4)) rfl rfl ?_
        refine o_pickT (b := decide ((k) < (9))) (bp ((j - 1) < (((digs (z).natAbs).length) - (1)))) Gd.none rfl (decide_eq_true h4) rfl ?_
        refine aops_end ?_
        refine hK15 _ ?_
        refine awp_condQ (q := (j - 1) < (((digs (z).natAbs).length) - (1))) rfl (fun h5 => ?_) (fun h5 => ?_)
        · refine awp_skip ?_
          refine hK14 _ ?_
          refine awp_seq fun K16 hK16 => ?_
          refine awp_block ?_
          refine awp_region rfl ?_
          refine o_move (AV.row 3) Gd.none rfl ?_
          refine o_buildSlice 301 (ns .u8 ([48])) [(0, [(nm .u8 (48))])] Gd.none Wg_tE96 rfl Wg_tO5 rfl rfl rfl rfl rfl rfl rfl ?_
          refine n_append 302 (out2) ([48]) [(301, (AO.row 5 1 (ns .u8 ([48])))), (2, (AO.var 89 [(bp (z < 0)), (AV.sl 1 (ns .u32 (digs (z).natAbs)))]))] Gd.none Wg_tE96 Wg_tO5 rfl rfl rfl rfl rfl (by simp only [List.length_append, List.length_cons, List.length_nil]; omega) (by decide) rfl rfl ?_
          refine o_assign (AV.row 302) Gd.none rfl ?_
          refine aops_end ?_
          refine hK16 _ ?_
          refine awp_region rfl ?_
          refine o_move (nm .i64 (k)) Gd.none rfl ?_
          refine n_add (k) (1) Gd.none rfl rfl (by simp only [topOf]; omega) ?_
          refine o_assign (nm .i64 ((k) + (1))) Gd.none rfl ?_
          refine aops_end ?_
          refine ⟨_, _, ?lt, ⟨k + 1, (out2) ++ ([48]), (by omega), (by omega), (fun h => by omega), (by rw [hk, List.append_assoc, ← List.replicate_succ', show k - ndig ((digs z.natAbs).getD (j - 1) 0) + 1 = k + 1 - ndig ((digs z.natAbs).getD (j - 1) 0) by omega]), (by simp only [List.length_append, List.length_cons, List.length_nil]; omega), rfl, rfl⟩, ?wk⟩
          case lt => omega
          case wk => exact Wk.trans (Wk.sub (σ' := ⟨[(1, (AV.ref 2 (0))), (3, (AV.row 302)), (4, (nm .i64 (j - 1))), (5, (AV.lit (.string (txt (((digs z.natAbs).getD (j - 1) 0 : Nat) : Int))))), (6, (nm .i64 ((k) + (1))))], [(2, (AO.var 89 [(bp (z < 0)), (AV.sl 1 (ns .u32 (digs (z).natAbs)))])), (302, (AO.row 5 1 (ns .u8 ((out2) ++ ([48])))))]⟩) (And.intro rfl (And.intro rfl (And.intro rfl (And.intro rfl (And.intro rfl (trivial)))))) (And.intro rfl (And.intro rfl (trivial)))) (Wk.trans (Wk.ren (id := 302) (id' := 3) rfl) (Wk.sub (And.intro (by exact rfl) (And.intro (by first | rfl | (simp)) (And.intro (by exact rfl) (And.intro (by exact rfl) (And.intro (by first | rfl | exact congrArg (nm _) (by omega) | exact nm_int (by omega) | exact nm_int (by simp [IntKind.wrap, IntKind.bits, IntKind.signed]; omega)) (trivial)))))) (And.intro (by first | rfl | exact row_ns (by simp) | exact congrArg (fun x => some (AO.blk (.stringIter _ x))) (by omega)) (And.intro (by first | rfl | exact row_ns (by simp) | exact congrArg (fun x => some (AO.blk (.stringIter _ x))) (by omega)) (trivial)))))
        · refine awp_exit ?_
          refine hK12 _ ?_
          refine awp_region rfl ?_
          refine o_move (AV.row 3) Gd.none rfl ?_
          refine o_move (AV.lit (.string (txt (((digs z.natAbs).getD (j - 1) 0 : Nat) : Int)))) Gd.none rfl ?_
          refine n_appendS 301 (out2) (txt (((digs z.natAbs).getD (j - 1) 0 : Nat) : Int)) [(2, (AO.var 89 [(bp (z < 0)), (AV.sl 1 (ns .u32 (digs (z).natAbs)))]))] Gd.none Wg_tE96 Wg_tT9 Wg_tW5 rfl rfl rfl (by rw [htsz]; omega) rfl rfl ?_
          refine o_assign (AV.row 301) Gd.none rfl ?_
          refine aops_end ?_
          refine hK10 _ ?_
          refine awp_region rfl ?_
          refine o_move (nm .i64 (j - 1)) Gd.none rfl ?_
          refine o_sub (a := (((j - 1 : Nat) : Int))) (c := (((1 : Nat) : Int))) Gd.none rfl rfl (by exact wrap64 (by omega) (by omega)) ?_
          refine o_assign (AV.lit (.int .i64 ((((j - 1 : Nat) : Int)) - (((1 : Nat) : Int))))) Gd.none rfl ?_
          refine aops_end ?_
          have hk2 : out2 = if j < (digs z.natAbs).length then out ++ List.replicate (9 - ndig ((digs z.natAbs).getD (j - 1) 0)) 48 else out := by
            rw [hk]
            by_cases hj2 : j < (digs z.natAbs).length
            · rw [if_pos hj2, show k = 9 by omega]
            · rw [if_neg hj2, hk0 hj2]; simp
          refine ⟨_, _, ?lt, ⟨j - 1, (out2) ++ byts (txt (((digs z.natAbs).getD (j - 1) 0 : Nat) : Int)), (if j < (digs z.natAbs).length then body ++ List.replicate (9 - ndig ((digs z.natAbs).getD (j - 1) 0)) 48 else body) ++ txtL ((digs z.natAbs).getD (j - 1) 0 : Nat), (by omega), (str_step (by omega) hj hb), (by rw [hk2, ho, byts_txt]; split <;> simp [*]), (by simp only [List.length_append, byts_len, htsz]; omega), rfl, rfl⟩, ?wk⟩
          case lt => omega
          case wk => exact Wk.trans (Wk.sub (σ' := ⟨[(1, (AV.ref 2 (0))), (3, (AV.row 301)), (4, (AV.lit (.int .i64 ((((j - 1 : Nat) : Int)) - (((1 : Nat) : Int))))))], [(2, (AO.var 89 [(bp (z < 0)), (AV.sl 1 (ns .u32 (digs (z).natAbs)))])), (301, (AO.row 5 1 (ns .u8 ((out2) ++ byts (txt (((digs z.natAbs).getD (j - 1) 0 : Nat) : Int))))))]⟩) (And.intro rfl (And.intro rfl (And.intro rfl (trivial)))) (And.intro rfl (And.intro rfl (trivial)))) (Wk.trans (Wk.ren (id := 301) (id' := 3) rfl) (Wk.sub (And.intro (by exact rfl) (And.intro (by first | rfl | (simp)) (And.intro (by first | rfl | exact int_eq (by omega) | exact int_nm (by omega)) (trivial)))) (And.intro (by first | rfl | exact row_ns (by simp) | exact congrArg (fun x => some (AO.blk (.stringIter _ x))) (by omega)) (And.intro (by first | rfl | exact row_ns (by simp) | exact congrArg (fun x => some (AO.blk (.stringIter _ x))) (by omega)) (trivial)))))
      · refine o_skip (b := decide ((k) < (9))) rfl rfl (decide_eq_false h4) ?_
        refine o_skip (b := decide ((k) < (9))) rfl rfl (decide_eq_false h4) ?_
        refine o_skip (b := decide ((k) < (9))) rfl rfl (decide_eq_false h4) ?_
        refine o_skip (b := decide ((k) < (9))) rfl rfl (decide_eq_false h4) ?_
        refine o_skip (b := decide ((k) < (9))) rfl rfl (decide_eq_false h4) ?_
        refine o_skip (b := decide ((k) < (9))) rfl rfl (decide_eq_false h4) ?_
        refine o_pickF (b := decide ((k) < (9))) (AV.lit (.bool false)) Gd.none rfl (decide_eq_false h4) rfl ?_
        refine aops_end ?_
        refine hK15 _ ?_
        refine awp_condB (b := false) rfl (fun hh => absurd (hh.symm.trans rfl) (by decide)) (fun _ => ?_)
        refine awp_exit ?_
        refine hK12 _ ?_
        refine awp_region rfl ?_
        refine o_move (AV.row 3) Gd.none rfl ?_
        refine o_move (AV.lit (.string (txt (((digs z.natAbs).getD (j - 1) 0 : Nat) : Int)))) Gd.none rfl ?_
        refine n_appendS 301 (out2) (txt (((digs z.natAbs).getD (j - 1) 0 : Nat) : Int)) [(2, (AO.var 89 [(bp (z < 0)), (AV.sl 1 (ns .u32 (digs (z).natAbs)))]))] Gd.none Wg_tE96 Wg_tT9 Wg_tW5 rfl rfl rfl (by rw [htsz]; omega) rfl rfl ?_
        refine o_assign (AV.row 301) Gd.none rfl ?_
        refine aops_end ?_
        refine hK10 _ ?_
        refine awp_region rfl ?_
        refine o_move (nm .i64 (j - 1)) Gd.none rfl ?_
        refine o_sub (a := (((j - 1 : Nat) : Int))) (c := (((1 : Nat) : Int))) Gd.none rfl rfl (by exact wrap64 (by omega) (by omega)) ?_
        refine o_assign (AV.lit (.int .i64 ((((j - 1 : Nat) : Int)) - (((1 : Nat) : Int))))) Gd.none rfl ?_
        refine aops_end ?_
        have hk2 : out2 = if j < (digs z.natAbs).length then out ++ List.replicate (9 - ndig ((digs z.natAbs).getD (j - 1) 0)) 48 else out := by
          rw [hk]
          by_cases hj2 : j < (digs z.natAbs).length
          · rw [if_pos hj2, show k = 9 by omega]
          · rw [if_neg hj2, hk0 hj2]; simp
        refine ⟨_, _, ?lt, ⟨j - 1, (out2) ++ byts (txt (((digs z.natAbs).getD (j - 1) 0 : Nat) : Int)), (if j < (digs z.natAbs).length then body ++ List.replicate (9 - ndig ((digs z.natAbs).getD (j - 1) 0)) 48 else body) ++ txtL ((digs z.natAbs).getD (j - 1) 0 : Nat), (by omega), (str_step (by omega) hj hb), (by rw [hk2, ho, byts_txt]; split <;> simp [*]), (by simp only [List.length_append, byts_len, htsz]; omega), rfl, rfl⟩, ?wk⟩
        case lt => omega
        case wk => exact Wk.trans (Wk.sub (σ' := ⟨[(1, (AV.ref 2 (0))), (3, (AV.row 301)), (4, (AV.lit (.int .i64 ((((j - 1 : Nat) : Int)) - (((1 : Nat) : Int))))))], [(2, (AO.var 89 [(bp (z < 0)), (AV.sl 1 (ns .u32 (digs (z).natAbs)))])), (301, (AO.row 5 1 (ns .u8 ((out2) ++ byts (txt (((digs z.natAbs).getD (j - 1) 0 : Nat) : Int))))))]⟩) (And.intro rfl (And.intro rfl (And.intro rfl (trivial)))) (And.intro rfl (And.intro rfl (trivial)))) (Wk.trans (Wk.ren (id := 301) (id' := 3) rfl) (Wk.sub (And.intro (by exact rfl) (And.intro (by first | rfl | (simp)) (And.intro (by first | rfl | exact int_eq (by omega) | exact int_nm (by omega)) (trivial)))) (And.intro (by first | rfl | exact row_ns (by simp) | exact congrArg (fun x => some (AO.blk (.stringIter _ x))) (by omega)) (And.intro (by first | rfl | exact row_ns (by simp) | exact congrArg (fun x => some (AO.blk (.stringIter _ x))) (by omega)) (trivial)))))
    · refine awp_exit ?_
      refine hK6 _ ?_
      refine awp_seq fun K17 hK17 => ?_
      refine awp_region rfl ?_
      refine o_move (AV.row 3) Gd.none rfl ?_
      refine n_strOf (out) Gd.none Wg_tU96 Wg_tQ5 Wg_tT9 rfl rfl ?_
      refine o_assign (AV.lit (.string (strN (out)))) Gd.none rfl ?_
      refine aops_end ?_
      refine hK17 _ ?_
      refine awp_ret ?_
      refine post_ret ⟨[(AV.lit (.string (strN (out))))], And.intro (AV.le_refl _) (trivial), rfl, ?_⟩
      have hj0 : j = 0 := by omega
      subst hj0
      rw [List.drop_zero, val_digs] at hb
      refine congrArg (fun x => AV.lit (.string x)) ?_
      unfold txt txtL
      rw [if_neg (by omega), ho, ho0, hb]

theorem c_nTold (z : Int) (hz : (digs z.natAbs).length ≤ 1000000000) : ECalls cx 86 [(intW (z))] (.tup [.lit (.string (toldS z)), nm .i64 (toldE z)]) := by
  refine ecalls_of_awp Tryd.func86 (c := _) rfl (Nat.le_of_ble_eq_true rfl) ?_
  show awp cx 9 _ (postF cx Tryd.f86 _) ⟨[(0, (intW (z)))], []⟩
  refine awp_seq fun K0 hK0 => ?_
  refine awp_region rfl ?_
  refine o_box 2 [(bp (z < 0)), (AV.sl 1 (ns .u32 (digs (z).natAbs)))] Gd.none rfl rfl ?_
  refine o_assign (AV.lit (.string (({data := #[]} : ByteArray)))) Gd.none rfl ?_
  refine o_assign (nm .i64 (0)) Gd.none rfl ?_
  refine aops_end ?_
  refine hK0 _ ?_
  refine awp_seq fun K1 hK1 => ?_
  refine awp_seq fun K2 hK2 => ?_
  refine awp_region rfl ?_
  refine o_loadA [(bp (z < 0)), (AV.sl 1 (ns .u32 (digs (z).natAbs)))] Gd.none Wg_tA89 rfl rfl rfl rfl rfl ?_
  refine o_call [(AV.agg [(bp (z < 0)), (AV.sl 1 (ns .u32 (digs (z).natAbs)))])] (nm .i64 (ndig (z).natAbs)) Gd.none Wg_tC88 rfl (c_wDigits (z) (by first | assumption | omega | (simp only [Int.natAbs_neg]; omega))) ?_
  refine n_gtr (ndig (z).natAbs) (2000) Gd.none rfl rfl ?_
  refine aops_end ?_
  refine hK2 _ ?_
  refine awp_condQ (q := (2000) < (ndig (z).natAbs)) rfl (fun h1 => ?_) (fun h1 => ?_)
  · refine awp_seq fun K3 hK3 => ?_
    refine awp_region rfl ?_
    refine o_assign (AV.lit (.string (({data := #[]} : ByteArray)))) Gd.none rfl ?_
    refine o_assign (nm .i64 (3)) Gd.none rfl ?_
    refine aops_end ?_
    refine hK3 _ ?_
    refine awp_ret ?_
    refine post_ret ⟨[(AV.lit (.string (({data := #[]} : ByteArray)))), (nm .i64 (3))], And.intro (AV.le_refl _) (And.intro (AV.le_refl _) (trivial)), rfl, ?_⟩
    have hF : ¬ Fit z := by unfold Fit; omega
    unfold toldS toldE
    rw [if_neg hF, if_neg hF]
    rfl
  · refine awp_skip ?_
    refine hK1 _ ?_
    refine awp_seq fun K4 hK4 => ?_
    refine awp_region rfl ?_
    refine o_loadA [(bp (z < 0)), (AV.sl 1 (ns .u32 (digs (z).natAbs)))] Gd.none Wg_tA89 rfl rfl rfl rfl rfl ?_
    refine o_call [(AV.agg [(bp (z < 0)), (AV.sl 1 (ns .u32 (digs (z).natAbs)))])] (AV.lit (.string (txt (z)))) Gd.none Wg_tC71 rfl (c_wText (z) (by first | assumption | omega | (simp only [Int.natAbs_neg]; omega))) ?_
    refine o_assign (AV.lit (.string (txt (z)))) Gd.none rfl ?_
    refine o_assign (nm .i64 (0)) Gd.none rfl ?_
    refine aops_end ?_
    refine hK4 _ ?_
    refine awp_ret ?_
    refine post_ret ⟨[(AV.lit (.string (txt (z)))), (nm .i64 (0))], And.intro (AV.le_refl _) (And.intro (AV.le_refl _) (trivial)), rfl, ?_⟩
    have hF : Fit z := by unfold Fit; omega
    unfold toldS toldE
    rw [if_pos hF, if_pos hF]
    rfl

end Go.Proofs.YtkngglpnejdicaaDoor
