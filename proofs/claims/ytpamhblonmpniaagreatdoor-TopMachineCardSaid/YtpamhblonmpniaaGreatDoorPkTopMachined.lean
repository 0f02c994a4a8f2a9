/- What the proof of a row of this seat leans on (part 4 of 6): a library of abstract values, walks of functions, and plain laws. -/
import Derived.Shelf.Spec.SlicesInsertGrow
import Derived.Test.YtpamhblonmpniaaGreatDoorPkTopMachinec
set_option linter.unusedVariables false
set_option linter.unusedSimpArgs false
namespace Go.Proofs.YtpamhblonmpniaaGreatDoor
open Go Go.Ab Go.Mth
theorem Wg_tC80 : callable cx.P 80 = true := by kernel_rfl
theorem Wg_tN108 : cx.P.underlying 108 = some (.interface #[("Error", 102)]) := by kernel_rfl
theorem Wg_tO89 : tyZero cx.P 89 = some [(Go.Value.bool false), (Go.Value.slice none 0 0)] := by kernel_rfl
theorem Wg_tT9 : cx.P.underlying 9 = some .string := by kernel_rfl
theorem Wg_tC68 : callable cx.P 68 = true := by kernel_rfl
theorem Wg_tI106 : tyInt cx.P 106 = some .u64 := by kernel_rfl
theorem Wg_tI111 : tyInt cx.P 111 = some .u32 := by kernel_rfl
theorem Wg_tE87 : tyElem cx.P 87 = some (111, 1, 4) := by kernel_rfl
theorem Wg_tO111 : tyZero cx.P 111 = some [(Go.Value.int IntKind.u32 0)] := by kernel_rfl
theorem Wg_tC69 : callable cx.P 69 = true := by kernel_rfl
theorem Wg_tZ89 : tySize cx.P 89 = some 2 := by kernel_rfl
theorem Wg_tA89 : tyAgg cx.P 89 = some 2 := by kernel_rfl
theorem Wg_tF89_1 : tyField cx.P 89 1 = some (1, 87) := by kernel_rfl
theorem Wg_tS87 : tySc cx.P 87 = true := by kernel_rfl
theorem Wg_tU87 : cx.P.underlying 87 = some (.slice 111) := by kernel_rfl
theorem Wg_tS111 : tySc cx.P 111 = true := by kernel_rfl
theorem Wg_tI3 : tyInt cx.P 3 = some .i64 := by kernel_rfl
theorem Wg_tC27 : callable cx.P 27 = true := by kernel_rfl
theorem Wg_tE70 : tyElem cx.P 70 = some (5, 1, 1) := by kernel_rfl
theorem Wg_tO5 : tyZero cx.P 5 = some [(Go.Value.int IntKind.u8 0)] := by kernel_rfl
theorem Wg_tF89_0 : tyField cx.P 89 0 = some (0, 4) := by kernel_rfl
theorem Wg_tS4 : tySc cx.P 4 = true := by kernel_rfl
theorem Wg_tW5 : tyZ1 cx.P 5 = some (.int .u8 0) := by kernel_rfl
theorem Wg_tU70 : cx.P.underlying 70 = some (.slice 5) := by kernel_rfl
theorem Wg_tQ5 : cx.P.underlying 5 = some (.int .u8) := by kernel_rfl
theorem Wg_tC52 : callable cx.P 52 = true := by kernel_rfl
theorem Wg_tC64 : callable cx.P 64 = true := by kernel_rfl
theorem c_parse (a : ByteArray) (h0 : 0 < a.size) (h9 : a.size ≤ 9) (h : ∀ i, i < a.size → 48 ≤ byt a i ∧ byt a i ≤ 57) : ECalls cx 68 [(AV.lit (.string (a))), (nm .i64 (10)), (nm .i64 (32))] (.tup [nm .u64 (dvk a 0 a.size), .lit .nilIface]) := by
  refine ecalls_of_awp Tryz.func68 (c := _) rfl (Nat.le_of_ble_eq_true rfl) ?_
  show awp cx 26 _ (postF cx Tryz.f68 _) ⟨[(0, (AV.lit (.string (a)))), (1, (nm .i64 (10))), (2, (nm .i64 (32)))], []⟩
  refine awp_seq fun K0 hK0 => ?_
  refine awp_region rfl ?_
  refine o_as (nm .u64 (0)) rfl ?_
  refine o_as (AV.lit .nilIface) rfl ?_
  refine aops_end ?_
  refine hK0 _ ?_
  refine awp_seq fun K1 hK1 => ?_
  refine awp_region rfl ?_
  refine o_mv (AV.lit (.string (a))) rfl ?_
  refine o_mv (nm .i64 (10)) rfl ?_
  refine o_mv (nm .i64 (32)) rfl ?_
  refine o_ct (c_iparse (a) (by omega) (by omega) (by assumption)) Gd.none Wg_tC80 rfl ?_
  refine o_mv (AV.tup [(nm .u64 (dvk (a) 0 (a).size)), (AV.lit .nilIface)]) rfl ?_
  refine o_extract (nm .u64 (dvk (a) 0 (a).size)) Gd.none rfl rfl ?_
  refine o_extract (AV.lit .nilIface) Gd.none rfl rfl ?_
  refine o_as (nm .u64 (dvk (a) 0 (a).size)) rfl ?_
  refine o_as (AV.lit .nilIface) rfl ?_
  refine aops_end ?_
  refine hK1 _ ?_
  refine awp_seq fun K2 hK2 => ?_
  refine awp_seq fun K3 hK3 => ?_
  refine awp_region rfl ?_
  refine o_mv (AV.lit .nilIface) rfl ?_
  refine o_neqNil Gd.none rfl Wg_tN108 ?_
  refine aops_end ?_
  refine hK3 _ ?_
  refine awp_condB (b := false) rfl (fun hh => absurd (hh.symm.trans rfl) (by decide)) (fun _ => ?_)
  refine awp_skip ?_
  refine hK2 _ ?_
  refine awp_seq fun K4 hK4 => ?_
  refine awp_region rfl ?_
  refine o_mv (nm .u64 (dvk (a) 0 (a).size)) rfl ?_
  refine o_as (nm .u64 (dvk (a) 0 (a).size)) rfl ?_
  refine o_as (AV.lit .nilIface) rfl ?_
  refine aops_end ?_
  refine hK4 _ ?_
  refine awp_ret ?_
  refine post_ret ⟨[(nm .u64 (dvk (a) 0 (a).size)), (AV.lit .nilIface)], And.intro (AV.le_refl _) (And.intro (AV.le_refl _) (trivial)), rfl, ?_⟩
  rfl

theorem c_wParse (a : ByteArray) (hok : OkS a) : ECalls cx 51 [(AV.lit (.string (a)))] (intW (numS a)) := by
  refine ecalls_of_awp Tryz.func51 (c := _) rfl (Nat.le_of_ble_eq_true rfl) ?_
  show awp cx 38 _ (postF cx Tryz.f51 _) ⟨[(0, (AV.lit (.string (a))))], []⟩
  obtain ⟨o1, o2, o3, o4⟩ := hok
  have hs1 : sgnAt a ≤ 1 := by unfold sgnAt; split <;> omega
  refine awp_seq fun K0 hK0 => ?_
  refine awp_region rfl ?_
  refine o_alloc 2 [(AV.lit (.bool false)), (AV.lit (.slice none 0 0))] Gd.none Wg_tO89 rfl rfl rfl ?_
  refine aops_end ?_
  refine hK0 _ ?_
  refine awp_seq fun K1 hK1 => ?_
  refine awp_region rfl ?_
  refine o_mv (AV.lit (.string (a))) rfl ?_
  refine n_indexS (a) (0) Gd.none Wg_tT9 rfl rfl (by omega) ?_
  refine n_eql (byt (a) (0)) (45) Gd.none rfl rfl ?_
  refine o_as (bp ((byt (a) (0)) = (45))) rfl ?_
  refine aops_end ?_
  refine hK1 _ ?_
  refine awp_seqJ (J := fun σ => ∃ (b : ByteArray), (b.size = a.size - sgnAt a) ∧ (∀ i, i < b.size → byt b i = byt a (sgnAt a + i)) ∧ True ∧ σ = ⟨[(0, (AV.lit (.string (b)))), (2, (AV.ref 2 (0))), (3, (bp (byt a 0 = 45)))], [(2, (AO.var 89 [(AV.lit (.bool false)), (AV.lit (.slice none 0 0))]))]⟩) ?ja0 ?jb0
  case ja0 =>
    refine awp_seq fun K2 hK2 => ?_
    refine awp_region rfl ?_
    refine o_mv (bp ((byt (a) (0)) = (45))) rfl ?_
    refine aops_end ?_
    refine hK2 _ ?_
    refine awp_condQ (q := (byt (a) (0)) = (45)) rfl (fun h1 => ?_) (fun h1 => ?_)
    · refine awp_region rfl ?_
      refine o_mv (AV.lit (.string (a))) rfl ?_
      refine n_sliceSL (a) (1) ((a).size) Gd.none Wg_tT9 rfl rfl (by omega) (by omega) ?_
      refine o_as (AV.lit (.string ((a).extract (1) ((a).size)))) rfl ?_
      refine aops_end ?_
      have hs : sgnAt a = 1 := if_pos h1
      exact ⟨_, ⟨(a).extract (1) ((a).size), (by rw [extract_size a (by omega) (by omega)]; omega), (fun i hi => by rw [extract_size a (by omega) (by omega)] at hi; rw [byt_extract a (by omega) (by omega), hs]), trivial, rfl⟩, Wk.sub (And.intro (by first | rfl | (simp)) (And.intro rfl (And.intro (by first | rfl | exact bp_congr (by first | omega | simp) | exact bl_bp (by first | omega | simp)) (trivial)))) (And.intro rfl (trivial))⟩
    · refine awp_skip ?_
      have hs : sgnAt a = 0 := if_neg h1
      exact ⟨_, ⟨a, (by omega), (fun i hi => by rw [hs, Nat.zero_add]), trivial, rfl⟩, Wk.sub (And.intro (by first | rfl | (simp)) (And.intro rfl (And.intro (by first | rfl | exact bp_congr (by first | omega | simp) | exact bl_bp (by first | omega | simp)) (trivial)))) (And.intro rfl (trivial))⟩
  rintro _ ⟨b, hbs, hb, -, rfl⟩
  have hbd : ∀ i, i < b.size → 48 ≤ byt b i ∧ byt b i ≤ 57 := fun i hi => by rw [hb i hi]; exact o4 _ (by omega) (by omega)
  refine awp_seq fun K3 hK3 => ?_
  refine awp_region rfl ?_
  refine o_as (AV.lit (.slice none 0 0)) rfl ?_
  refine aops_end ?_
  refine hK3 _ ?_
  refine awp_seq fun K4 hK4 => ?_
  refine awp_seq fun K5 hK5 => ?_
  refine awp_region rfl ?_
  refine o_mv (AV.lit (.string (b))) rfl ?_
  refine n_lenS (b) Gd.none rfl Wg_tT9 ?_
  refine o_as (nm .i64 ((b).size)) rfl ?_
  refine aops_end ?_
  refine hK5 _ ?_
  refine awp_block ?_
  refine awp_loopR (fun κ σ => ∃ (E : Int), ∃ (L : List Nat), (E ≤ b.size) ∧ (Dig L) ∧ (0 < E → L.length * 9 = b.size - E.toNat) ∧ (L.length ≤ 2000) ∧ (val L = dvk b E.toNat (b.size - E.toNat)) ∧ (E.toNat) = κ ∧ σ = ⟨[(0, (AV.lit (.string (b)))), (2, (AV.ref 2 (0))), (3, (bp (byt a 0 = 45))), (4, (AV.row 3)), (5, (AV.lit (.int .i64 (E))))], [(2, (AO.var 89 [(AV.lit (.bool false)), (AV.lit (.slice none 0 0))])), (3, (AO.row 111 1 (ns .u32 (L))))]⟩) ⟨_, _, ⟨(b.size : Int), [], (by omega), Dig.nil, (by intro _; simp), (by simp), (by simp [val, dvk]), rfl, rfl⟩, ?wk1⟩ ?rd1
  case wk1 =>
    exact Wk.trans (Wk.newNil (i := 4) (id := 601) (e := 111) (sz := 1) rfl rfl (by decide)) (Wk.trans (Wk.sub (σ' := ⟨[(0, (AV.lit (.string (b)))), (2, (AV.ref 2 (0))), (3, (bp (byt a 0 = 45))), (4, (AV.row 601)), (5, (nm .i64 ((b).size)))], [(2, (AO.var 89 [(AV.lit (.bool false)), (AV.lit (.slice none 0 0))])), (601, (AO.row 111 1 (ns .u32 ([]))))]⟩) (And.intro rfl (And.intro rfl (And.intro rfl (And.intro rfl (And.intro rfl (trivial)))))) (And.intro rfl (And.intro rfl (trivial)))) (Wk.trans (Wk.ren (id := 601) (id' := 3) rfl) (Wk.sub (And.intro rfl (And.intro rfl (And.intro rfl (And.intro (by first | rfl | (simp)) (And.intro (by first | rfl | exact int_eq (by omega) | exact int_nm (by omega)) (trivial)))))) (And.intro rfl (And.intro (by first | rfl | exact row_ns (by simp)) (trivial))))))
  rintro κ _ ⟨E, L, hE, hd, hl, hl2, hv, rfl, rfl⟩
  refine awp_seq fun K6 hK6 => ?_
  refine awp_seq fun K7 hK7 => ?_
  refine awp_region rfl ?_
  refine o_mv (AV.lit (.int .i64 (E))) rfl ?_
  refine o_gtr (a := (E)) (c := (((0 : Nat) : Int))) Gd.none rfl rfl ?_
  refine aops_end ?_
  refine hK7 _ ?_
  refine awp_condQ (q := (((0 : Nat) : Int)) < (E)) rfl (fun h2 => ?_) (fun h2 => ?_)
  · have hps : (b.extract (E.toNat - 9) E.toNat).size = E.toNat - (E.toNat - 9) := extract_size b (by omega) (by omega)
    have hpb : ∀ i, i < (b.extract (E.toNat - 9) E.toNat).size → byt (b.extract (E.toNat - 9) E.toNat) i = byt b (E.toNat - 9 + i) := fun i hi => byt_extract b (by omega) (by omega)
    have hpd : ∀ i, i < (b.extract (E.toNat - 9) E.toNat).size → 48 ≤ byt (b.extract (E.toNat - 9) E.toNat) i ∧ byt (b.extract (E.toNat - 9) E.toNat) i ≤ 57 := fun i hi => by rw [hpb i hi]; exact hbd _ (by omega)
    have hq : dvk (b.extract (E.toNat - 9) E.toNat) 0 (b.extract (E.toNat - 9) E.toNat).size = dvk b (E.toNat - 9) (E.toNat - (E.toNat - 9)) := by rw [dvk_congr (t := E.toNat - 9) (b := b) (fun i hi => by rw [Nat.zero_add]; exact hpb i hi), hps]
    have hql := dvk_lt (a := b) (s := E.toNat - 9) (k := E.toNat - (E.toNat - 9)) fun j h1 h2 => hbd j (by omega)
    have hq9 : dvk b (E.toNat - 9) (E.toNat - (E.toNat - 9)) < 1000000000 := Nat.lt_of_lt_of_le hql (by have := Nat.pow_le_pow_right (n := 10) (by decide) (show E.toNat - (E.toNat - 9) ≤ 9 by omega); simpa using this)
    refine awp_wk (Wk.slot (i := 5) (y := (nm .i64 (E.toNat))) (AV.le_eq (by exact nm_int (by omega)))) ?_
    refine awp_skip ?_
    refine hK6 _ ?_
    refine awp_seq fun K8 hK8 => ?_
    refine awp_block ?_
    refine awp_seq fun K9 hK9 => ?_
    refine awp_region rfl ?_
    refine o_mv (AV.lit (.string (b))) rfl ?_
    refine o_mv (nm .i64 (E.toNat)) rfl ?_
    refine o_sub (a := (((E.toNat : Nat) : Int))) (c := (((9 : Nat) : Int))) Gd.none rfl rfl (by exact wrap64 (by omega) (by omega)) ?_
    refine o_max (a := ((0 : Nat) : Int)) (c := (((E.toNat : Nat) : Int)) - (((9 : Nat) : Int))) Gd.none rfl rfl (fun w => run_max _ _ w) ?_
    refine n_as (v' := (nm .i64 (E.toNat - 9))) (nm_int (by omega)) ?_
    refine o_mv (nm .i64 (E.toNat)) rfl ?_
    refine n_sliceSLH (b) (E.toNat - 9) (E.toNat) Gd.none Wg_tT9 rfl rfl rfl (by omega) (by omega) ?_
    refine o_ct (c_parse ((b).extract (E.toNat - 9) (E.toNat)) (by omega) (by omega) (by assumption)) Gd.none Wg_tC68 rfl ?_
    refine o_mv (AV.tup [(nm .u64 (dvk ((b).extract (E.toNat - 9) (E.toNat)) 0 ((b).extract (E.toNat - 9) (E.toNat)).size)), (AV.lit .nilIface)]) rfl ?_
    refine o_extract (nm .u64 (dvk ((b).extract (E.toNat - 9) (E.toNat)) 0 ((b).extract (E.toNat - 9) (E.toNat)).size)) Gd.none rfl rfl ?_
    refine n_as (v' := (nm .u64 (dvk b (E.toNat - 9) (E.toNat - (E.toNat - 9))))) (congrArg (nm _) (by exact hq)) ?_
    refine o_extract (AV.lit .nilIface) Gd.none rfl rfl ?_
    refine o_as (nm .u64 (dvk b (E.toNat - 9) (E.toNat - (E.toNat - 9)))) rfl ?_
    refine o_as (AV.lit .nilIface) rfl ?_
    refine aops_end ?_
    refine hK9 _ ?_
    refine awp_region rfl ?_
    refine o_mv (AV.row 3) rfl ?_
    refine o_mv (nm .u64 (dvk b (E.toNat - 9) (E.toNat - (E.toNat - 9)))) rfl ?_
    refine n_conv (dvk b (E.toNat - 9) (E.toNat - (E.toNat - 9))) Gd.none rfl Wg_tI106 Wg_tI111 (by simp only [topOf]; omega) ?_
    refine o_buildSlice 201 (ns .u32 ([dvk b (E.toNat - 9) (E.toNat - (E.toNat - 9))])) [(0, [(nm .u32 (dvk b (E.toNat - 9) (E.toNat - (E.toNat - 9))))])] Gd.none Wg_tE87 rfl Wg_tO111 rfl rfl rfl rfl rfl rfl rfl ?_
    refine n_append 202 (L) ([dvk b (E.toNat - 9) (E.toNat - (E.toNat - 9))]) [(201, (AO.row 111 1 (ns .u32 ([dvk b (E.toNat - 9) (E.toNat - (E.toNat - 9))])))), (2, (AO.var 89 [(AV.lit (.bool false)), (AV.lit (.slice none 0 0))]))] Gd.none Wg_tE87 Wg_tO111 rfl rfl rfl rfl rfl (by simp only [List.length_append, List.length_cons, List.length_nil]; omega) (by decide) rfl rfl ?_
    refine o_as (AV.row 202) rfl ?_
    refine aops_end ?_
    refine hK8 _ ?_
    refine awp_region rfl ?_
    refine o_mv (nm .i64 (E.toNat)) rfl ?_
    refine o_sub (a := (((E.toNat : Nat) : Int))) (c := (((9 : Nat) : Int))) Gd.none rfl rfl (by exact wrap64 (by omega) (by omega)) ?_
    refine o_as (AV.lit (.int .i64 ((((E.toNat : Nat) : Int)) - (((9 : Nat) : Int))))) rfl ?_
    refine aops_end ?_
    refine ⟨_, _, ?lt, ⟨(E.toNat : Int) - 9, (L) ++ ([dvk b (E.toNat - 9) (E.toNat - (E.toNat - 9))]), (by omega), (hd.snoc hq9), (by intro h; have := hl (by omega); simp only [List.length_append, List.length_cons, List.length_nil]; omega), (by have := hl (by omega); simp only [List.length_append, List.length_cons, List.length_nil]; omega), (by have hh := parse_step (s := E.toNat - 9) (by omega) (by omega) (hl (by omega)) hv; rw [show ((E.toNat : Int) - 9).toNat = E.toNat - 9 by omega]; exact hh), rfl, rfl⟩, ?wk⟩
    case lt => omega
    case wk => exact Wk.trans (Wk.sub (σ' := ⟨[(0, (AV.lit (.string (b)))), (2, (AV.ref 2 (0))), (3, (bp (byt a 0 = 45))), (4, (AV.row 202)), (5, (AV.lit (.int .i64 ((((E.toNat : Nat) : Int)) - (((9 : Nat) : Int))))))], [(2, (AO.var 89 [(AV.lit (.bool false)), (AV.lit (.slice none 0 0))])), (202, (AO.row 111 1 (ns .u32 ((L) ++ ([dvk b (E.toNat - 9) (E.toNat - (E.toNat - 9))])))))]⟩) (And.intro rfl (And.intro rfl (And.intro rfl (And.intro rfl (And.intro rfl (trivial)))))) (And.intro rfl (And.intro rfl (trivial)))) (Wk.trans (Wk.ren (id := 202) (id' := 3) rfl) (Wk.sub (And.intro rfl (And.intro rfl (And.intro rfl (And.intro (by first | rfl | (simp)) (And.intro (by first | rfl | exact int_eq (by omega) | exact int_nm (by omega)) (trivial)))))) (And.intro rfl (And.intro (by first | rfl | exact row_ns (by simp)) (trivial)))))
  · refine awp_exit ?_
    refine hK4 _ ?_
    refine awp_seq fun K10 hK10 => ?_
    refine awp_region rfl ?_
    refine o_mv (bp (byt a 0 = 45)) rfl ?_
    refine o_mv (AV.row 3) rfl ?_
    refine o_callG [(3, 1, (ns .u32 (L)))] [(bp (byt a 0 = 45)), (AV.sl 1 (ns .u32 (L)))] _ (intW ((sg (decide (byt a 0 = 45)) (val (L))))) [(2, (AO.var 89 [(AV.lit (.bool false)), (AV.lit (.slice none 0 0))]))] Gd.none Wg_tC69 rfl (And.intro ⟨_, rfl⟩ (trivial)) rfl rfl (LeL.cons (AV.le_refl _) (LeL.cons (AV.le_refl _) (LeL.nil))) (c_wTrim (decide (byt a 0 = 45)) (L) (by first | assumption | exact dgn_dig _ _ | exact digs_dig _ | exact Dig.snoc (by assumption) (by assumption) | exact Dig.cons (by omega) (digs_dig _))) rfl ?_
    refine o_store [(2, (oZ 89 .u32 ((sg (decide (byt a 0 = 45)) (val (L))))))] Gd.none Wg_tZ89 rfl rfl rfl rfl rfl rfl ?_
    refine aops_end ?_
    refine hK10 _ ?_
    refine awp_ret ?_
    refine post_ret ⟨[(intW ((sg (decide (byt a 0 = 45)) (val (L)))))], And.intro ⟨2, (oZ 89 .u32 ((sg (decide (byt a 0 = 45)) (val (L))))), rfl, rfl, rfl, Or.inl ⟨Wg_tA89, AV.le_refl _⟩⟩ (trivial), rfl, ?_⟩
    refine congrArg (intK .u32) ?_
    rw [hv, show E.toNat = 0 by omega]
    unfold numS
    congr 1
    rw [← hbs]
    exact (dvk_congr fun i hi => by rw [Nat.zero_add]; exact (hb i (by omega))).symm

theorem c_wDigits (z : Int) (hz : (digs z.natAbs).length ≤ 1000000000) : ECalls cx 52 [(intW (z))] (nm .i64 (ndig z.natAbs)) := by
  refine ecalls_of_awp Tryz.func52 (c := _) rfl (Nat.le_of_ble_eq_true rfl) ?_
  show awp cx 24 _ (postF cx Tryz.f52 _) ⟨[(0, (intW (z)))], []⟩
  refine awp_seq fun K0 hK0 => ?_
  refine awp_region rfl ?_
  refine o_box 2 [(bp (z < 0)), (AV.sl 1 (ns .u32 (digs (z).natAbs)))] Gd.none rfl rfl ?_
  refine o_as (nm .i64 (0)) rfl ?_
  refine aops_end ?_
  refine hK0 _ ?_
  refine awp_seq fun K1 hK1 => ?_
  refine awp_seq fun K2 hK2 => ?_
  refine awp_region rfl ?_
  refine o_fieldRef 1 Gd.none Wg_tF89_1 rfl rfl ?_
  refine o_loadS (AV.sl 1 (ns .u32 (digs (z).natAbs))) Gd.none Wg_tS87 rfl rfl rfl ?_
  refine n_len (digs (z).natAbs) Gd.none Wg_tU87 rfl ?_
  refine n_eql ((digs (z).natAbs).length) (0) Gd.none rfl rfl ?_
  refine aops_end ?_
  refine hK2 _ ?_
  refine awp_condQ (q := ((digs (z).natAbs).length) = (0)) rfl (fun h1 => ?_) (fun h1 => ?_)
  · refine awp_seq fun K3 hK3 => ?_
    refine awp_region rfl ?_
    refine o_as (nm .i64 (1)) rfl ?_
    refine aops_end ?_
    refine hK3 _ ?_
    refine awp_ret ?_
    refine post_ret ⟨[(nm .i64 (1))], And.intro (AV.le_refl _) (trivial), rfl, ?_⟩
    refine congrArg (nm .i64) ?_
    unfold ndig
    rw [if_pos (digs_len_zero.1 h1)]
  · have hn0 : 0 < z.natAbs := by rcases Nat.eq_zero_or_pos z.natAbs with e | e; exact absurd (digs_len_zero.2 e) h1; exact e
    have ht := ndig_top hn0
    have htl := (digs_dig z.natAbs).getD ((digs z.natAbs).length - 1)
    have hsz := txt_size ((digs z.natAbs).getD ((digs z.natAbs).length - 1) 0)
    have hsm := ndig_small htl
    refine awp_skip ?_
    refine hK1 _ ?_
    refine awp_seq fun K4 hK4 => ?_
    refine awp_regionD rfl ?_
    refine o_fieldRef 1 Gd.none Wg_tF89_1 rfl rfl ?_
    refine o_loadS (AV.sl 1 (ns .u32 (digs (z).natAbs))) Gd.none Wg_tS87 rfl rfl rfl ?_
    refine n_len (digs (z).natAbs) Gd.none Wg_tU87 rfl ?_
    refine n_sub ((digs (z).natAbs).length) (1) Gd.none rfl rfl (by omega) (by simp only [topOf]; omega) ?_
    refine n_mul (9) (((digs (z).natAbs).length) - (1)) Gd.none rfl rfl (by simp only [topOf]; omega) ?_
    refine o_fieldRef 1 Gd.none Wg_tF89_1 rfl rfl ?_
    refine o_loadS (AV.sl 1 (ns .u32 (digs (z).natAbs))) Gd.none Wg_tS87 rfl rfl rfl ?_
    refine o_fieldRef 1 Gd.none Wg_tF89_1 rfl rfl ?_
    refine o_loadS (AV.sl 1 (ns .u32 (digs (z).natAbs))) Gd.none Wg_tS87 rfl rfl rfl ?_
    refine n_len (digs (z).natAbs) Gd.none Wg_tU87 rfl ?_
    refine n_sub ((digs (z).natAbs).length) (1) Gd.none rfl rfl (by omega) (by simp only [topOf]; omega) ?_
    refine n_index (digs (z).natAbs) (((digs (z).natAbs).length) - (1)) Gd.none Wg_tE87 rfl rfl (by omega) ?_
    refine n_loadI (digs (z).natAbs) (((digs (z).natAbs).length) - (1)) Gd.none Wg_tS111 rfl (by omega) ?_
    refine n_conv ((digs (z).natAbs).getD (((digs (z).natAbs).length) - (1)) 0) Gd.none rfl Wg_tI111 Wg_tI3 (by simp only [topOf]; omega) ?_
    refine o_ct (c_itoa ((digs (z).natAbs).getD (((digs (z).natAbs).length) - (1)) 0) (by omega)) Gd.none Wg_tC27 rfl ?_
    refine n_lenS (txt (((digs (z).natAbs).getD (((digs (z).natAbs).length) - (1)) 0 : Nat) : Int)) Gd.none rfl Wg_tT9 ?_
    refine n_add ((9) * (((digs (z).natAbs).length) - (1))) ((txt (((digs (z).natAbs).getD (((digs (z).natAbs).length) - (1)) 0 : Nat) : Int)).size) Gd.none rfl rfl (by simp only [topOf]; omega) ?_
    refine o_as (nm .i64 (((9) * (((digs (z).natAbs).length) - (1))) + ((txt (((digs (z).natAbs).getD (((digs (z).natAbs).length) - (1)) 0 : Nat) : Int)).size))) rfl ?_
    refine aops_end ⟨by kernel_rfl, ?_⟩
    refine hK4 _ ?_
    refine awp_ret ?_
    refine post_ret ⟨[(nm .i64 (((9) * (((digs (z).natAbs).length) - (1))) + ((txt (((digs (z).natAbs).getD (((digs (z).natAbs).length) - (1)) 0 : Nat) : Int)).size)))], And.intro (AV.le_refl _) (trivial), rfl, ?_⟩
    refine congrArg (nm .i64) ?_
    rw [hsz]
    have hp := val_drop_pos (n := z.natAbs) (j := (digs z.natAbs).length - 1) (by omega)
    rw [val_drop_succ (by omega), val_drop_all (xs := digs z.natAbs) (j := (digs z.natAbs).length - 1 + 1) (by omega)] at hp
    unfold ndig
    rw [if_neg (by omega), if_neg (by omega), ht]

theorem c_wText (z : Int) (hz : (digs z.natAbs).length ≤ 1000000000) : ECalls cx 64 [(intW (z))] (.lit (.string (txt z))) := by
  refine ecalls_of_awp Tryz.func64 (c := _) rfl (Nat.le_of_ble_eq_true rfl) ?_
  show awp cx 54 _ (postF cx Tryz.f64 _) ⟨[(0, (intW (z)))], []⟩
  refine awp_seq fun K0 hK0 => ?_
  refine awp_region rfl ?_
  refine o_box 2 [(bp (z < 0)), (AV.sl 1 (ns .u32 (digs (z).natAbs)))] Gd.none rfl rfl ?_
  refine o_as (AV.lit (.string (({data := #[]} : ByteArray)))) rfl ?_
  refine aops_end ?_
  refine hK0 _ ?_
  refine awp_seq fun K1 hK1 => ?_
  refine awp_seq fun K2 hK2 => ?_
  refine awp_region rfl ?_
  refine o_fieldRef 1 Gd.none Wg_tF89_1 rfl rfl ?_
  refine o_loadS (AV.sl 1 (ns .u32 (digs (z).natAbs))) Gd.none Wg_tS87 rfl rfl rfl ?_
  refine n_len (digs (z).natAbs) Gd.none Wg_tU87 rfl ?_
  refine n_eql ((digs (z).natAbs).length) (0) Gd.none rfl rfl ?_
  refine aops_end ?_
  refine hK2 _ ?_
  refine awp_condQ (q := ((digs (z).natAbs).length) = (0)) rfl (fun h1 => ?_) (fun h1 => ?_)
  · refine awp_seq fun K3 hK3 => ?_
    refine awp_region rfl ?_
    refine o_as (AV.lit (.string (({data := #[48]} : ByteArray)))) rfl ?_
    refine aops_end ?_
    refine hK3 _ ?_
    refine awp_ret ?_
    refine post_ret ⟨[(AV.lit (.string (({data := #[48]} : ByteArray))))], And.intro (AV.le_refl _) (trivial), rfl, ?_⟩
    rw [show z = 0 by have := digs_len_zero.1 h1; omega]
    rfl
  · have hz0 : z.natAbs ≠ 0 := fun e => h1 (digs_len_zero.2 e)
    refine awp_skip ?_
    refine hK1 _ ?_
    refine awp_seq fun K4 hK4 => ?_
    refine awp_region rfl ?_
    refine o_buildSlice 3 (ns .u8 ([])) [] Gd.none Wg_tE70 rfl Wg_tO5 rfl rfl rfl rfl rfl rfl rfl ?_
    refine o_as (AV.row 3) rfl ?_
    refine aops_end ?_
    refine hK4 _ ?_
    refine awp_seqJ (J := fun σ => ∃ (o0 : List Nat), (o0 = (if z < 0 then [45] else [] : List Nat)) ∧ True ∧ σ = ⟨[(1, (AV.ref 2 (0))), (3, (AV.row 3))], [(2, (oZ 89 .u32 (z))), (3, (AO.row 5 1 (ns .u8 (o0))))]⟩) ?ja0 ?jb0
    case ja0 =>
      refine awp_seq fun K5 hK5 => ?_
      refine awp_region rfl ?_
      refine o_fieldRef 0 Gd.none Wg_tF89_0 rfl rfl ?_
      refine o_loadS (bp (z < 0)) Gd.none Wg_tS4 rfl rfl rfl ?_
      refine aops_end ?_
      refine hK5 _ ?_
      refine awp_condQ (q := z < 0) rfl (fun h2 => ?_) (fun h2 => ?_)
      · refine awp_region rfl ?_
        refine o_mv (AV.row 3) rfl ?_
        refine o_buildSlice 4 (ns .u8 ([45])) [(0, [(nm .u8 (45))])] Gd.none Wg_tE70 rfl Wg_tO5 rfl rfl rfl rfl rfl rfl rfl ?_
        refine n_append 5 ([]) ([45]) [(4, (AO.row 5 1 (ns .u8 ([45])))), (2, (oZ 89 .u32 (z)))] Gd.none Wg_tE70 Wg_tO5 rfl rfl rfl rfl rfl (by simp) (by decide) rfl rfl ?_
        refine o_as (AV.row 5) rfl ?_
        refine aops_end ?_
        exact ⟨_, ⟨([]) ++ ([45]), (by simp [*]), trivial, rfl⟩, Wk.trans (Wk.sub (σ' := ⟨[(1, (AV.ref 2 (0))), (3, (AV.row 5))], [(2, (oZ 89 .u32 (z))), (5, (AO.row 5 1 (ns .u8 (([]) ++ ([45])))))]⟩) (And.intro rfl (And.intro rfl (trivial))) (And.intro rfl (And.intro rfl (trivial)))) (Wk.trans (Wk.ren (id := 5) (id' := 3) rfl) (Wk.sub (And.intro rfl (And.intro (by first | rfl | (simp)) (trivial))) (And.intro rfl (And.intro (by first | rfl | exact row_ns (by simp)) (trivial)))))⟩
      · refine awp_skip ?_
        exact ⟨_, ⟨[], (by simp [*]), trivial, rfl⟩, Wk.sub (And.intro rfl (And.intro rfl (trivial))) (And.intro rfl (And.intro (by first | rfl | exact row_ns (by simp)) (trivial)))⟩
    rintro _ ⟨o0, ho0, -, rfl⟩
    have hol : o0.length ≤ 1 := by rw [ho0]; split <;> simp
    refine awp_seq fun K6 hK6 => ?_
    refine awp_seq fun K7 hK7 => ?_
    refine awp_region rfl ?_
    refine o_fieldRef 1 Gd.none Wg_tF89_1 rfl rfl ?_
    refine o_loadS (AV.sl 1 (ns .u32 (digs (z).natAbs))) Gd.none Wg_tS87 rfl rfl rfl ?_
    refine n_len (digs (z).natAbs) Gd.none Wg_tU87 rfl ?_
    refine o_sub (a := ((((digs (z).natAbs).length : Nat) : Int))) (c := (((1 : Nat) : Int))) Gd.none rfl rfl (by exact wrap64 (by omega) (by omega)) ?_
    refine o_as (AV.lit (.int .i64 (((((digs (z).natAbs).length : Nat) : Int)) - (((1 : Nat) : Int))))) rfl ?_
    refine aops_end ?_
    refine hK7 _ ?_
    refine awp_block ?_
    refine awp_loopR (fun κ σ => ∃ (j : Nat), ∃ (out : List Nat), ∃ (body : List Nat), (j ≤ (digs z.natAbs).length) ∧ (body = (decs (val ((digs z.natAbs).drop j))).reverse) ∧ (out = o0 ++ body) ∧ (out.length ≤ 1 + 9 * ((digs z.natAbs).length - j)) ∧ (j) = κ ∧ σ = ⟨[(1, (AV.ref 2 (0))), (3, (AV.row 3)), (4, (AV.lit (.int .i64 ((j : Int) - 1))))], [(2, (oZ 89 .u32 (z))), (3, (AO.row 5 1 (ns .u8 (out))))]⟩) ⟨_, _, ⟨(digs z.natAbs).length, o0, [], (Nat.le_refl _), (by rw [val_drop_all (Nat.le_refl _), decs_zero]; rfl), (by simp), (by omega), rfl, rfl⟩, ?wk1⟩ ?rd1
    case wk1 =>
      exact Wk.sub (And.intro rfl (And.intro rfl (And.intro (by first | rfl | exact int_eq (by omega) | exact int_nm (by omega)) (trivial)))) (And.intro rfl (And.intro (by first | rfl | exact row_ns (by simp)) (trivial)))
    rintro κ _ ⟨j, out, body, hj, hb, ho, hol2, rfl, rfl⟩
    have hp := (digs_dig z.natAbs).getD (j - 1)
    have htsz := txt_size ((digs z.natAbs).getD (j - 1) 0)
    have hnd := ndig_small hp
    refine awp_seq fun K8 hK8 => ?_
    refine awp_seq fun K9 hK9 => ?_
    refine awp_region rfl ?_
    refine o_mv (AV.lit (.int .i64 ((j : Int) - 1))) rfl ?_
    refine o_geq (a := ((j : Int) - 1)) (c := (((0 : Nat) : Int))) Gd.none rfl rfl ?_
    refine aops_end ?_
    refine hK9 _ ?_
    refine awp_condQ (q := (((0 : Nat) : Int)) ≤ ((j : Int) - 1)) rfl (fun h3 => ?_) (fun h3 => ?_)
    · refine awp_wk (Wk.slot (i := 4) (y := (nm .i64 (j - 1))) (AV.le_eq (by exact nm_int (by omega)))) ?_
      refine awp_skip ?_
      refine hK8 _ ?_
      refine awp_seq fun K10 hK10 => ?_
      refine awp_block ?_
      refine awp_seq fun K11 hK11 => ?_
      refine awp_region rfl ?_
      refine o_fieldRef 1 Gd.none Wg_tF89_1 rfl rfl ?_
      refine o_loadS (AV.sl 1 (ns .u32 (digs (z).natAbs))) Gd.none Wg_tS87 rfl rfl rfl ?_
      refine o_mv (nm .i64 (j - 1)) rfl ?_
      refine n_index (digs (z).natAbs) (j - 1) Gd.none Wg_tE87 rfl rfl (by omega) ?_
      refine n_loadI (digs (z).natAbs) (j - 1) Gd.none Wg_tS111 rfl (by omega) ?_
      refine n_conv ((digs (z).natAbs).getD (j - 1) 0) Gd.none rfl Wg_tI111 Wg_tI3 (by simp only [topOf]; omega) ?_
      refine o_ct (c_itoa ((digs (z).natAbs).getD (j - 1) 0) (by omega)) Gd.none Wg_tC27 rfl ?_
      refine o_as (AV.lit (.string (txt (((digs (z).natAbs).getD (j - 1) 0 : Nat) : Int)))) rfl ?_
      refine aops_end ?_
      refine hK11 _ ?_
      refine awp_seq fun K12 hK12 => ?_
      refine awp_seq fun K13 hK13 => ?_
      refine awp_region rfl ?_
      refine o_mv (AV.lit (.string (txt (((digs (z).natAbs).getD (j - 1) 0 : Nat) : Int)))) rfl ?_
      refine n_lenS (txt (((digs (z).natAbs).getD (j - 1) 0 : Nat) : Int)) Gd.none rfl Wg_tT9 ?_
      refine n_as (v' := (nm .i64 (ndig ((digs z.natAbs).getD (j - 1) 0)))) (congrArg (nm _) (by exact htsz)) ?_
      refine o_as (nm .i64 (ndig ((digs z.natAbs).getD (j - 1) 0))) rfl ?_
      refine aops_end ?_
      refine hK13 _ ?_
      refine awp_block ?_
      refine awp_loopR (fun κ σ => ∃ (k : Nat), ∃ (out2 : List Nat), (ndig ((digs z.natAbs).getD (j - 1) 0) ≤ k) ∧ (k ≤ 9) ∧ (¬ j < (digs z.natAbs).length → k = ndig ((digs z.natAbs).getD (j - 1) 0)) ∧ (out2 = out ++ List.replicate (k - ndig ((digs z.natAbs).getD (j - 1) 0)) 48) ∧ (out2.length + ndig ((digs z.natAbs).getD (j - 1) 0) = out.length + k) ∧ (9 - k) = κ ∧ σ = ⟨[(1, (AV.ref 2 (0))), (3, (AV.row 3)), (4, (nm .i64 (j - 1))), (5, (AV.lit (.string (txt (((digs z.natAbs).getD (j - 1) 0 : Nat) : Int))))), (6, (nm .i64 (k)))], [(2, (oZ 89 .u32 (z))), (3, (AO.row 5 1 (ns .u8 (out2))))]⟩) ⟨_, _, ⟨ndig ((digs z.natAbs).getD (j - 1) 0), _, (Nat.le_refl _), hnd, (fun _ => rfl), (by simp), rfl, rfl, rfl⟩, ?wk2⟩ ?rd2
      case wk2 =>
        exact Wk.sub (And.intro rfl (And.intro rfl (And.intro rfl (And.intro (by first | rfl | (simp)) (And.intro (by first | rfl | exact congrArg (nm _) (by omega) | exact nm_int (by omega) | exact nm_int (by simp [IntKind.wrap, IntKind.bits, IntKind.signed]; omega)) (trivial)))))) (And.intro rfl (And.intro (by first | rfl | exact row_ns (by simp)) (trivial)))
      rintro κ _ ⟨k, out2, hk9, hk10, hk0, hk, hk11, rfl, rfl⟩
      refine awp_seq fun K14 hK14 => ?_
      refine awp_seq fun K15 hK15 => ?_
      refine awp_region rfl ?_
      refine o_mv (nm .i64 (k)) rfl ?_
      refine n_lss (k) (9) Gd.none rfl rfl ?_
      refine o_mv (bp ((k) < (9))) rfl ?_
      refine o_splitP (q := (k) < (9)) 36 rfl (fun h4 => ?_) (fun h4 => ?_)
      · refine o_move (nm .i64 (j - 1)) (Gd.yes rfl rfl (decide_eq_true h4)) rfl ?_
        refine o_fieldRef 1 (Gd.yes rfl rfl (decide_eq_true h4)) Wg_tF89_1 rfl rfl ?_
        refine o_loadS (AV.sl 1 (ns .u32 (digs (z).natAbs))) (Gd.yes rfl rfl (decide_eq_true h4)) Wg_tS87 rfl rfl rfl ?_
        refine n_len (digs (z).natAbs) (Gd.yes rfl rfl (decide_eq_true h4)) Wg_tU87 rfl ?_
        refine n_sub ((digs (z).natAbs).length) (1) (Gd.yes rfl rfl (decide_eq_true h4)) rfl rfl (by omega) (by simp only [topOf]; omega) ?_
        refine n_lss (j - 1) (((digs (z).natAbs).length) - (1)) (Gd.yes rfl rfl (decide_eq_true h4)) rfl rfl ?_
        refine o_pickT (bp ((j - 1) < (((digs (z).natAbs).length) - (1)))) Gd.none rfl (decide_eq_true h4) rfl ?_
        refine aops_end ?_
        refine hK15 _ ?_
        refine awp_condQ (q := (j - 1) < (((digs (z).natAbs).length) - (1))) rfl (fun h5 => ?_) (fun h5 => ?_)
        · refine awp_skip ?_
          refine hK14 _ ?_
          refine awp_seq fun K16 hK16 => ?_
          refine awp_block ?_
          refine awp_region rfl ?_
          refine o_mv (AV.row 3) rfl ?_
          refine o_buildSlice 301 (ns .u8 ([48])) [(0, [(nm .u8 (48))])] Gd.none Wg_tE70 rfl Wg_tO5 rfl rfl rfl rfl rfl rfl rfl ?_
          refine n_append 302 (out2) ([48]) [(301, (AO.row 5 1 (ns .u8 ([48])))), (2, (oZ 89 .u32 (z)))] Gd.none Wg_tE70 Wg_tO5 rfl rfl rfl rfl rfl (by simp only [List.length_append, List.length_cons, List.length_nil]; omega) (by decide) rfl rfl ?_
          refine o_as (AV.row 302) rfl ?_
          refine aops_end ?_
          refine hK16 _ ?_
          refine awp_region rfl ?_
          refine o_mv (nm .i64 (k)) rfl ?_
          refine n_add (k) (1) Gd.none rfl rfl (by simp only [topOf]; omega) ?_
          refine o_as (nm .i64 ((k) + (1))) rfl ?_
          refine aops_end ?_
          refine ⟨_, _, ?lt, ⟨k + 1, (out2) ++ ([48]), (by omega), (by omega), (fun h => by omega), (by rw [hk, List.append_assoc, ← List.replicate_succ', show k - ndig ((digs z.natAbs).getD (j - 1) 0) + 1 = k + 1 - ndig ((digs z.natAbs).getD (j - 1) 0) by omega]), (by simp only [List.length_append, List.length_cons, List.length_nil]; omega), rfl, rfl⟩, ?wk⟩
          case lt => omega
          case wk => exact Wk.trans (Wk.sub (σ' := ⟨[(1, (AV.ref 2 (0))), (3, (AV.row 302)), (4, (nm .i64 (j - 1))), (5, (AV.lit (.string (txt (((digs z.natAbs).getD (j - 1) 0 : Nat) : Int))))), (6, (nm .i64 ((k) + (1))))], [(2, (oZ 89 .u32 (z))), (302, (AO.row 5 1 (ns .u8 ((out2) ++ ([48])))))]⟩) (And.intro rfl (And.intro rfl (And.intro rfl (And.intro rfl (And.intro rfl (trivial)))))) (And.intro rfl (And.intro rfl (trivial)))) (Wk.trans (Wk.ren (id := 302) (id' := 3) rfl) (Wk.sub (And.intro rfl (And.intro (by first | rfl | (simp)) (And.intro rfl (And.intro rfl (And.intro (by first | rfl | exact congrArg (nm _) (by omega) | exact nm_int (by omega) | exact nm_int (by simp [IntKind.wrap, IntKind.bits, IntKind.signed]; omega)) (trivial)))))) (And.intro rfl (And.intro (by first | rfl | exact row_ns (by simp)) (trivial)))))
        · refine awp_exit ?_
          refine hK12 _ ?_
          refine awp_region rfl ?_
          refine o_mv (AV.row 3) rfl ?_
          refine o_mv (AV.lit (.string (txt (((digs z.natAbs).getD (j - 1) 0 : Nat) : Int)))) rfl ?_
          refine n_appendS 301 (out2) (txt (((digs z.natAbs).getD (j - 1) 0 : Nat) : Int)) [(2, (oZ 89 .u32 (z)))] Gd.none Wg_tE70 Wg_tT9 Wg_tW5 rfl rfl rfl (by rw [htsz]; omega) rfl rfl ?_
          refine o_as (AV.row 301) rfl ?_
          refine aops_end ?_
          refine hK10 _ ?_
          refine awp_region rfl ?_
          refine o_mv (nm .i64 (j - 1)) rfl ?_
          refine o_sub (a := (((j - 1 : Nat) : Int))) (c := (((1 : Nat) : Int))) Gd.none rfl rfl (by exact wrap64 (by omega) (by omega)) ?_
          refine o_as (AV.lit (.int .i64 ((((j - 1 : Nat) : Int)) - (((1 : Nat) : Int))))) rfl ?_
          refine aops_end ?_
          have hk2 : out2 = if j < (digs z.natAbs).length then out ++ List.replicate (9 - ndig ((digs z.natAbs).getD (j - 1) 0)) 48 else out := by
            rw [hk]
            by_cases hj2 : j < (digs z.natAbs).length
            · rw [if_pos hj2, show k = 9 by omega]
            · rw [if_neg hj2, hk0 hj2]; simp
          refine ⟨_, _, ?lt, ⟨j - 1, (out2) ++ byts (txt (((digs z.natAbs).getD (j - 1) 0 : Nat) : Int)), (if j < (digs z.natAbs).length then body ++ List.replicate (9 - ndig ((digs z.natAbs).getD (j - 1) 0)) 48 else body) ++ txtL ((digs z.natAbs).getD (j - 1) 0 : Nat), (by omega), (str_step (by omega) hj hb), (by rw [hk2, ho, byts_txt]; split <;> simp [*]), (by simp only [List.length_append, byts_len, htsz]; omega), rfl, rfl⟩, ?wk⟩
          case lt => omega
          case wk => exact Wk.trans (Wk.sub (σ' := ⟨[(1, (AV.ref 2 (0))), (3, (AV.row 301)), (4, (AV.lit (.int .i64 ((((j - 1 : Nat) : Int)) - (((1 : Nat) : Int))))))], [(2, (oZ 89 .u32 (z))), (301, (AO.row 5 1 (ns .u8 ((out2) ++ byts (txt (((digs z.natAbs).getD (j - 1) 0 : Nat) : Int))))))]⟩) (And.intro rfl (And.intro rfl (And.intro rfl (trivial)))) (And.intro rfl (And.intro rfl (trivial)))) (Wk.trans (Wk.ren (id := 301) (id' := 3) rfl) (Wk.sub (And.intro rfl (And.intro (by first | rfl | (simp)) (And.intro (by first | rfl | exact int_eq (by omega) | exact int_nm (by omega)) (trivial)))) (And.intro rfl (And.intro (by first | rfl | exact row_ns (by simp)) (trivial)))))
      · refine o_skip rfl rfl (decide_eq_false h4) ?_
        refine o_skip rfl rfl (decide_eq_false h4) ?_
        refine o_skip rfl rfl (decide_eq_false h4) ?_
        refine o_skip rfl rfl (decide_eq_false h4) ?_
        refine o_skip rfl rfl (decide_eq_false h4) ?_
        refine o_skip rfl rfl (decide_eq_false h4) ?_
        refine o_pickF (AV.lit (.bool false)) Gd.none rfl (decide_eq_false h4) rfl ?_
        refine aops_end ?_
        refine hK15 _ ?_
        refine awp_condB (b := false) rfl (fun hh => absurd (hh.symm.trans rfl) (by decide)) (fun _ => ?_)
        refine awp_exit ?_
        refine hK12 _ ?_
        refine awp_region rfl ?_
        refine o_mv (AV.row 3) rfl ?_
        refine o_mv (AV.lit (.string (txt (((digs z.natAbs).getD (j - 1) 0 : Nat) : Int)))) rfl ?_
        refine n_appendS 301 (out2) (txt (((digs z.natAbs).getD (j - 1) 0 : Nat) : Int)) [(2, (oZ 89 .u32 (z)))] Gd.none Wg_tE70 Wg_tT9 Wg_tW5 rfl rfl rfl (by rw [htsz]; omega) rfl rfl ?_
        refine o_as (AV.row 301) rfl ?_
        refine aops_end ?_
        refine hK10 _ ?_
        refine awp_region rfl ?_
        refine o_mv (nm .i64 (j - 1)) rfl ?_
        refine o_sub (a := (((j - 1 : Nat) : Int))) (c := (((1 : Nat) : Int))) Gd.none rfl rfl (by exact wrap64 (by omega) (by omega)) ?_
        refine o_as (AV.lit (.int .i64 ((((j - 1 : Nat) : Int)) - (((1 : Nat) : Int))))) rfl ?_
        refine aops_end ?_
        have hk2 : out2 = if j < (digs z.natAbs).length then out ++ List.replicate (9 - ndig ((digs z.natAbs).getD (j - 1) 0)) 48 else out := by
          rw [hk]
          by_cases hj2 : j < (digs z.natAbs).length
          · rw [if_pos hj2, show k = 9 by omega]
          · rw [if_neg hj2, hk0 hj2]; simp
        refine ⟨_, _, ?lt, ⟨j - 1, (out2) ++ byts (txt (((digs z.natAbs).getD (j - 1) 0 : Nat) : Int)), (if j < (digs z.natAbs).length then body ++ List.replicate (9 - ndig ((digs z.natAbs).getD (j - 1) 0)) 48 else body) ++ txtL ((digs z.natAbs).getD (j - 1) 0 : Nat), (by omega), (str_step (by omega) hj hb), (by rw [hk2, ho, byts_txt]; split <;> simp [*]), (by simp only [List.length_append, byts_len, htsz]; omega), rfl, rfl⟩, ?wk⟩
        case lt => omega
        case wk => exact Wk.trans (Wk.sub (σ' := ⟨[(1, (AV.ref 2 (0))), (3, (AV.row 301)), (4, (AV.lit (.int .i64 ((((j - 1 : Nat) : Int)) - (((1 : Nat) : Int))))))], [(2, (oZ 89 .u32 (z))), (301, (AO.row 5 1 (ns .u8 ((out2) ++ byts (txt (((digs z.natAbs).getD (j - 1) 0 : Nat) : Int))))))]⟩) (And.intro rfl (And.intro rfl (And.intro rfl (trivial)))) (And.intro rfl (And.intro rfl (trivial)))) (Wk.trans (Wk.ren (id := 301) (id' := 3) rfl) (Wk.sub (And.intro rfl (And.intro (by first | rfl | (simp)) (And.intro (by first | rfl | exact int_eq (by omega) | exact int_nm (by omega)) (trivial)))) (And.intro rfl (And.intro (by first | rfl | exact row_ns (by simp)) (trivial)))))
    · refine awp_exit ?_
      refine hK6 _ ?_
      refine awp_seq fun K17 hK17 => ?_
      refine awp_region rfl ?_
      refine o_mv (AV.row 3) rfl ?_
      refine n_strOf (out) Gd.none Wg_tU70 Wg_tQ5 Wg_tT9 rfl rfl ?_
      refine o_as (AV.lit (.string (strN (out)))) rfl ?_
      refine aops_end ?_
      refine hK17 _ ?_
      refine awp_ret ?_
      refine post_ret ⟨[(AV.lit (.string (strN (out))))], And.intro (AV.le_refl _) (trivial), rfl, ?_⟩
      have hj0 : j = 0 := by omega
      subst hj0
      rw [List.drop_zero, val_digs] at hb
      refine congrArg (fun x => AV.lit (.string x)) ?_
      unfold txt txtL
      rw [if_neg (by omega), ho, ho0, hb]

theorem c_nTold (z : Int) (hz : (digs z.natAbs).length ≤ 1000000000) : ECalls cx 53 [(intW (z))] (.tup [.lit (.string (toldS z)), nm .i64 (toldE z)]) := by
  refine ecalls_of_awp Tryz.func53 (c := _) rfl (Nat.le_of_ble_eq_true rfl) ?_
  show awp cx 9 _ (postF cx Tryz.f53 _) ⟨[(0, (intW (z)))], []⟩
  refine awp_seq fun K0 hK0 => ?_
  refine awp_region rfl ?_
  refine o_box 2 [(bp (z < 0)), (AV.sl 1 (ns .u32 (digs (z).natAbs)))] Gd.none rfl rfl ?_
  refine o_as (AV.lit (.string (({data := #[]} : ByteArray)))) rfl ?_
  refine o_as (nm .i64 (0)) rfl ?_
  refine aops_end ?_
  refine hK0 _ ?_
  refine awp_seq fun K1 hK1 => ?_
  refine awp_seq fun K2 hK2 => ?_
  refine awp_region rfl ?_
  refine o_loadA [(bp (z < 0)), (AV.sl 1 (ns .u32 (digs (z).natAbs)))] Gd.none Wg_tA89 rfl rfl rfl rfl rfl ?_
  refine o_ct (c_wDigits (z) (by first | omega | assumption | (simp only [Int.natAbs_neg]; omega))) Gd.none Wg_tC52 rfl ?_
  refine n_gtr (ndig (z).natAbs) (2000) Gd.none rfl rfl ?_
  refine aops_end ?_
  refine hK2 _ ?_
  refine awp_condQ (q := (2000) < (ndig (z).natAbs)) rfl (fun h1 => ?_) (fun h1 => ?_)
  · refine awp_seq fun K3 hK3 => ?_
    refine awp_region rfl ?_
    refine o_as (AV.lit (.string (({data := #[]} : ByteArray)))) rfl ?_
    refine o_as (nm .i64 (3)) rfl ?_
    refine aops_end ?_
    refine hK3 _ ?_
    refine awp_ret ?_
    refine post_ret ⟨[(AV.lit (.string (({data := #[]} : ByteArray)))), (nm .i64 (3))], And.intro (AV.le_refl _) (And.intro (AV.le_refl _) (trivial)), rfl, ?_⟩
    have hF : ¬ Fit z := by unfold Fit; omega
    unfold toldS toldE
    rw [if_neg hF, if_neg hF]
    rfl
  · refine awp_skip ?_
    refine hK1 _ ?_
    refine awp_seq fun K4 hK4 => ?_
    refine awp_region rfl ?_
    refine o_loadA [(bp (z < 0)), (AV.sl 1 (ns .u32 (digs (z).natAbs)))] Gd.none Wg_tA89 rfl rfl rfl rfl rfl ?_
    refine o_ct (c_wText (z) (by first | omega | assumption | (simp only [Int.natAbs_neg]; omega))) Gd.none Wg_tC64 rfl ?_
    refine o_as (AV.lit (.string (txt (z)))) rfl ?_
    refine o_as (nm .i64 (0)) rfl ?_
    refine aops_end ?_
    refine hK4 _ ?_
    refine awp_ret ?_
    refine post_ret ⟨[(AV.lit (.string (txt (z)))), (nm .i64 (0))], And.intro (AV.le_refl _) (And.intro (AV.le_refl _) (trivial)), rfl, ?_⟩
    have hF : Fit z := by unfold Fit; omega
    unfold toldS toldE
    rw [if_pos hF, if_pos hF]
    rfl

end Go.Proofs.YtpamhblonmpniaaGreatDoor

set_option linter.unusedVariables false
set_option linter.unusedSimpArgs false
namespace Go.Proofs.YtpamhblonmpniaaGreatDoor
open Go Go.Ab Go.Mth
theorem Wh_tT9 : cx.P.underlying 9 = some .string := by kernel_rfl
theorem c_nValid (a : ByteArray) (hsz : a.size ≤ 9223372036854775807) : ECalls cx 50 [(AV.lit (.string (a)))] (.lit (.bool (okS a))) := by
  refine ecalls_of_awp Tryz.func50 (c := _) rfl (Nat.le_of_ble_eq_true rfl) ?_
  show awp cx 50 _ (postF cx Tryz.f50 _) ⟨[(0, (AV.lit (.string (a))))], []⟩
  have hs1 : sgnAt a ≤ 1 := by unfold sgnAt; split <;> omega
  refine awp_seq fun K0 hK0 => ?_
  refine awp_region rfl ?_
  refine o_as (AV.lit (.bool false)) rfl ?_
  refine aops_end ?_
  refine hK0 _ ?_
  refine awp_seq fun K1 hK1 => ?_
  refine awp_seq fun K2 hK2 => ?_
  refine awp_region rfl ?_
  refine o_mv (AV.lit (.string (a))) rfl ?_
  refine n_lenS (a) Gd.none rfl Wh_tT9 ?_
  refine n_gtr ((a).size) (2001) Gd.none rfl rfl ?_
  refine aops_end ?_
  refine hK2 _ ?_
  refine awp_condQ (q := (2001) < ((a).size)) rfl (fun h1 => ?_) (fun h1 => ?_)
  · refine awp_seq fun K3 hK3 => ?_
    refine awp_region rfl ?_
    refine o_as (AV.lit (.bool false)) rfl ?_
    refine aops_end ?_
    refine hK3 _ ?_
    refine awp_ret ?_
    refine post_ret ⟨[(AV.lit (.bool false))], And.intro (AV.le_refl _) (trivial), rfl, ?_⟩
    refine bl_eq (okS_no fun h => ?_)
    obtain ⟨o1, o2, o3, o4⟩ := h
    first | omega | (have := str_nil.1 (by assumption); omega) | (have e := hb 0 (by omega); rw [Nat.add_zero] at e; omega) | (have e := hb 0 (by omega); have := hng1 (by assumption); rw [Nat.add_zero] at e; omega) | (have e := o4 (sgnAt a + pos) (by omega) (by omega); rw [← hb pos (by omega)] at e; have e2 := utf8_lo (a := b) (pos := pos) (by omega) (by omega); simp only [e2] at *; omega)
  · refine awp_skip ?_
    refine hK1 _ ?_
    refine awp_seqJ (J := fun σ => ∃ (ng : Bool), (ng = true → sgnAt a = 1) ∧ (ng = false → sgnAt a = 0) ∧ (ng = true → 0 < a.size) ∧ True ∧ σ = ⟨[(0, (AV.lit (.string (a)))), (3, (AV.lit (.bool (ng))))], []⟩) ?ja0 ?jb0
    case ja0 =>
      refine awp_region rfl ?_
      refine o_mv (AV.lit (.string (a))) rfl ?_
      refine o_neqS (a := (a)) (c := (({data := #[]} : ByteArray))) Gd.none rfl rfl ?_
      refine o_mv (bp ((a).toList ≠ (({data := #[]} : ByteArray)).toList)) rfl ?_
      refine o_splitP (q := (a).toList ≠ (({data := #[]} : ByteArray)).toList) 11 rfl (fun h2 => ?_) (fun h2 => ?_)
      · refine o_move (AV.lit (.string (a))) (Gd.yes rfl rfl (decide_eq_true h2)) rfl ?_
        refine n_indexS (a) (0) (Gd.yes rfl rfl (decide_eq_true h2)) Wh_tT9 rfl rfl (by have := mt str_nil.2 h2; omega) ?_
        refine n_eql (byt (a) (0)) (45) (Gd.yes rfl rfl (decide_eq_true h2)) rfl rfl ?_
        refine o_pickT (bp ((byt (a) (0)) = (45))) Gd.none rfl (decide_eq_true h2) rfl ?_
        refine o_as (bp ((byt (a) (0)) = (45))) rfl ?_
        refine aops_end ?_
        have hne := mt str_nil.2 h2
        exact ⟨_, ⟨decide ((byt (a) (0)) = (45)), (fun h => if_pos (of_decide_eq_true h)), (fun h => if_neg (of_decide_eq_false h)), (fun _ => by omega), trivial, rfl⟩, Wk.sub (And.intro rfl (And.intro (by first | rfl | (simp)) (trivial))) (trivial)⟩
      · refine o_skip rfl rfl (decide_eq_false h2) ?_
        refine o_skip rfl rfl (decide_eq_false h2) ?_
        refine o_skip rfl rfl (decide_eq_false h2) ?_
        refine o_pickF (AV.lit (.bool false)) Gd.none rfl (decide_eq_false h2) rfl ?_
        refine o_as (AV.lit (.bool false)) rfl ?_
        refine aops_end ?_
        have hs : sgnAt a = 0 := if_neg (by rw [byt_nil (str_nil.1 (Decidable.not_not.1 h2))]; decide)
        exact ⟨_, ⟨false, (fun h => by cases h), (fun _ => hs), (fun h => by cases h), trivial, rfl⟩, Wk.sub (And.intro rfl (And.intro (by first | rfl | (simp)) (trivial))) (trivial)⟩
    rintro _ ⟨ng, hng1, hng0, hngz, -, rfl⟩
    refine awp_seqJ (J := fun σ => ∃ (b : ByteArray), (b.size = a.size - sgnAt a) ∧ (∀ i, i < b.size → byt b i = byt a (sgnAt a + i)) ∧ True ∧ σ = ⟨[(0, (AV.lit (.string (b)))), (3, (AV.lit (.bool (ng))))], []⟩) ?ja1 ?jb1
    case ja1 =>
      refine awp_seq fun K4 hK4 => ?_
      refine awp_region rfl ?_
      refine o_mv (AV.lit (.bool (ng))) rfl ?_
      refine aops_end ?_
      refine hK4 _ ?_
      refine awp_condB (b := ng) rfl (fun h3 => ?_) (fun h3 => ?_)
      · refine awp_region rfl ?_
        refine o_mv (AV.lit (.string (a))) rfl ?_
        refine n_sliceSL (a) (1) ((a).size) Gd.none Wh_tT9 rfl rfl (by have hz := hngz h3; omega) (by rfl) ?_
        refine o_as (AV.lit (.string ((a).extract (1) ((a).size)))) rfl ?_
        refine aops_end ?_
        have hs := hng1 h3
        have hz := hngz h3
        exact ⟨_, ⟨(a).extract (1) ((a).size), (by rw [extract_size a (by omega) (by omega)]; omega), (fun i hi => by rw [extract_size a (by omega) (by omega)] at hi; rw [byt_extract a (by omega) (by omega), hs]), trivial, rfl⟩, Wk.sub (And.intro (by first | rfl | (simp)) (And.intro rfl (trivial))) (trivial)⟩
      · refine awp_skip ?_
        have hs := hng0 h3
        exact ⟨_, ⟨a, (by omega), (fun i hi => by rw [hs, Nat.zero_add]), trivial, rfl⟩, Wk.sub (And.intro (by first | rfl | (simp)) (And.intro rfl (trivial))) (trivial)⟩
    rintro _ ⟨b, hbs, hb, -, rfl⟩
    refine awp_seq fun K5 hK5 => ?_
    refine awp_seq fun K6 hK6 => ?_
    refine awp_region rfl ?_
    refine o_mv (AV.lit (.string (b))) rfl ?_
    refine o_eqlS (a := (b)) (c := (({data := #[]} : ByteArray))) Gd.none rfl rfl ?_
    refine o_mv (bp ((b).toList = (({data := #[]} : ByteArray)).toList)) rfl ?_
    refine o_splitP (q := (b).toList = (({data := #[]} : ByteArray)).toList) 21 rfl (fun h4 => ?_) (fun h4 => ?_)
    · refine o_skip rfl rfl (decide_eq_true h4) ?_
      refine o_skip rfl rfl (decide_eq_true h4) ?_
      refine o_skip rfl rfl (decide_eq_true h4) ?_
      refine o_pickT (AV.lit (.bool true)) Gd.none rfl (decide_eq_true h4) rfl ?_
      refine o_mv (AV.lit (.bool true)) rfl ?_
      refine o_skip rfl rfl rfl ?_
      refine o_skip rfl rfl rfl ?_
      refine o_skip rfl rfl rfl ?_
      refine o_skip rfl rfl rfl ?_
      refine o_skipU rfl rfl ?_
      refine o_skipU rfl rfl ?_
      refine o_skipU rfl rfl ?_
      refine o_skipU rfl rfl ?_
      refine o_skipU rfl rfl ?_
      refine o_skipU rfl rfl ?_
      refine o_skip rfl rfl rfl ?_
      refine o_pickT (AV.lit (.bool true)) Gd.none rfl rfl rfl ?_
      refine aops_end ?_
      refine hK6 _ ?_
      refine awp_condB (b := true) rfl (fun _ => ?_) (fun hh => absurd (hh.symm.trans rfl) (by decide))
      refine awp_seq fun K7 hK7 => ?_
      refine awp_region rfl ?_
      refine o_as (AV.lit (.bool false)) rfl ?_
      refine aops_end ?_
      refine hK7 _ ?_
      refine awp_ret ?_
      refine post_ret ⟨[(AV.lit (.bool false))], And.intro (AV.le_refl _) (trivial), rfl, ?_⟩
      refine bl_eq (okS_no fun h => ?_)
      obtain ⟨o1, o2, o3, o4⟩ := h
      first | omega | (have := str_nil.1 (by assumption); omega) | (have e := hb 0 (by omega); rw [Nat.add_zero] at e; omega) | (have e := hb 0 (by omega); have := hng1 (by assumption); rw [Nat.add_zero] at e; omega) | (have e := o4 (sgnAt a + pos) (by omega) (by omega); rw [← hb pos (by omega)] at e; have e2 := utf8_lo (a := b) (pos := pos) (by omega) (by omega); simp only [e2] at *; omega)
    · have hne := mt str_nil.2 h4
      refine o_move (AV.lit (.string (b))) (Gd.yes rfl rfl (decide_eq_false h4)) rfl ?_
      refine n_lenS (b) (Gd.yes rfl rfl (decide_eq_false h4)) rfl Wh_tT9 ?_
      refine n_gtr ((b).size) (2000) (Gd.yes rfl rfl (decide_eq_false h4)) rfl rfl ?_
      refine o_pickF (bp ((2000) < ((b).size))) Gd.none rfl (decide_eq_false h4) rfl ?_
      refine o_mv (bp ((2000) < ((b).size))) rfl ?_
      refine o_splitP (q := (2000) < ((b).size)) 26 rfl (fun h5 => ?_) (fun h5 => ?_)
      · refine o_skip rfl rfl (decide_eq_true h5) ?_
        refine o_skip rfl rfl (decide_eq_true h5) ?_
        refine o_skip rfl rfl (decide_eq_true h5) ?_
        refine o_skip rfl rfl (decide_eq_true h5) ?_
        refine o_skipU rfl rfl ?_
        refine o_skipU rfl rfl ?_
        refine o_skipU rfl rfl ?_
        refine o_skipU rfl rfl ?_
        refine o_skipU rfl rfl ?_
        refine o_skipU rfl rfl ?_
        refine o_skip rfl rfl (decide_eq_true h5) ?_
        refine o_pickT (AV.lit (.bool true)) Gd.none rfl (decide_eq_true h5) rfl ?_
        refine aops_end ?_
        refine hK6 _ ?_
        refine awp_condB (b := true) rfl (fun _ => ?_) (fun hh => absurd (hh.symm.trans rfl) (by decide))
        refine awp_seq fun K8 hK8 => ?_
        refine awp_region rfl ?_
        refine o_as (AV.lit (.bool false)) rfl ?_
        refine aops_end ?_
        refine hK8 _ ?_
        refine awp_ret ?_
        refine post_ret ⟨[(AV.lit (.bool false))], And.intro (AV.le_refl _) (trivial), rfl, ?_⟩
        refine bl_eq (okS_no fun h => ?_)
        obtain ⟨o1, o2, o3, o4⟩ := h
        first | omega | (have := str_nil.1 (by assumption); omega) | (have e := hb 0 (by omega); rw [Nat.add_zero] at e; omega) | (have e := hb 0 (by omega); have := hng1 (by assumption); rw [Nat.add_zero] at e; omega) | (have e := o4 (sgnAt a + pos) (by omega) (by omega); rw [← hb pos (by omega)] at e; have e2 := utf8_lo (a := b) (pos := pos) (by omega) (by omega); simp only [e2] at *; omega)
      · refine o_move (AV.lit (.string (b))) (Gd.yes rfl rfl (decide_eq_false h5)) rfl ?_
        refine n_indexS (b) (0) (Gd.yes rfl rfl (decide_eq_false h5)) Wh_tT9 rfl rfl (by omega) ?_
        refine n_eql (byt (b) (0)) (48) (Gd.yes rfl rfl (decide_eq_false h5)) rfl rfl ?_
        refine o_move (bp ((byt (b) (0)) = (48))) (Gd.yes rfl rfl (decide_eq_false h5)) rfl ?_
        refine o_splitP (q := (byt (b) (0)) = (48)) 30 rfl (fun h6 => ?_) (fun h6 => ?_)
        · refine o_move (AV.lit (.string (b))) (Gd.yes rfl rfl (decide_eq_true h6)) rfl ?_
          refine n_lenS (b) (Gd.yes rfl rfl (decide_eq_true h6)) rfl Wh_tT9 ?_
          refine n_gtr ((b).size) (1) (Gd.yes rfl rfl (decide_eq_true h6)) rfl rfl ?_
          refine o_move (bp ((1) < ((b).size))) (Gd.yes rfl rfl (decide_eq_true h6)) rfl ?_
          refine o_splitP (q := (1) < ((b).size)) 34 rfl (fun h7 => ?_) (fun h7 => ?_)
          · refine o_skip rfl rfl (decide_eq_true h7) ?_
            refine o_pickT (AV.lit (.bool true)) (Gd.yes rfl rfl (decide_eq_true h6)) rfl (decide_eq_true h7) rfl ?_
            refine o_pickT (AV.lit (.bool true)) (Gd.yes rfl rfl (decide_eq_false h5)) rfl (decide_eq_true h6) rfl ?_
            refine o_pickF (AV.lit (.bool true)) Gd.none rfl (decide_eq_false h5) rfl ?_
            refine aops_end ?_
            refine hK6 _ ?_
            refine awp_condB (b := true) rfl (fun _ => ?_) (fun hh => absurd (hh.symm.trans rfl) (by decide))
            refine awp_seq fun K9 hK9 => ?_
            refine awp_region rfl ?_
            refine o_as (AV.lit (.bool false)) rfl ?_
            refine aops_end ?_
            refine hK9 _ ?_
            refine awp_ret ?_
            refine post_ret ⟨[(AV.lit (.bool false))], And.intro (AV.le_refl _) (trivial), rfl, ?_⟩
            refine bl_eq (okS_no fun h => ?_)
            obtain ⟨o1, o2, o3, o4⟩ := h
            first | omega | (have := str_nil.1 (by assumption); omega) | (have e := hb 0 (by omega); rw [Nat.add_zero] at e; omega) | (have e := hb 0 (by omega); have := hng1 (by assumption); rw [Nat.add_zero] at e; omega) | (have e := o4 (sgnAt a + pos) (by omega) (by omega); rw [← hb pos (by omega)] at e; have e2 := utf8_lo (a := b) (pos := pos) (by omega) (by omega); simp only [e2] at *; omega)
          · refine o_move (AV.lit (.bool (ng))) (Gd.yes rfl rfl (decide_eq_false h7)) rfl ?_
            refine o_pickF (AV.lit (.bool (ng))) (Gd.yes rfl rfl (decide_eq_true h6)) rfl (decide_eq_false h7) rfl ?_
            refine o_pickT (AV.lit (.bool (ng))) (Gd.yes rfl rfl (decide_eq_false h5)) rfl (decide_eq_true h6) rfl ?_
            refine o_pickF (AV.lit (.bool (ng))) Gd.none rfl (decide_eq_false h5) rfl ?_
            refine aops_end ?_
            refine hK6 _ ?_
            refine awp_condB (b := ng) rfl (fun h8 => ?_) (fun h8 => ?_)
            · refine awp_seq fun K10 hK10 => ?_
              refine awp_region rfl ?_
              refine o_as (AV.lit (.bool false)) rfl ?_
              refine aops_end ?_
              refine hK10 _ ?_
              refine awp_ret ?_
              refine post_ret ⟨[(AV.lit (.bool false))], And.intro (AV.le_refl _) (trivial), rfl, ?_⟩
              refine bl_eq (okS_no fun h => ?_)
              obtain ⟨o1, o2, o3, o4⟩ := h
              first | omega | (have := str_nil.1 (by assumption); omega) | (have e := hb 0 (by omega); rw [Nat.add_zero] at e; omega) | (have e := hb 0 (by omega); have := hng1 (by assumption); rw [Nat.add_zero] at e; omega) | (have e := o4 (sgnAt a + pos) (by omega) (by omega); rw [← hb pos (by omega)] at e; have e2 := utf8_lo (a := b) (pos := pos) (by omega) (by omega); simp only [e2] at *; omega)
            · refine awp_skip ?_
              refine hK5 _ ?_
              refine awp_seq fun K11 hK11 => ?_
              refine awp_seq fun K12 hK12 => ?_
              refine awp_region rfl ?_
              refine o_mv (AV.lit (.string (b))) rfl ?_
              refine o_iterNew 201 Gd.none Wh_tT9 rfl rfl ?_
              refine aops_end ?_
              refine hK12 _ ?_
              refine awp_block ?_
              refine awp_loopR (fun κ σ => ∃ (pos : Nat), (pos ≤ b.size) ∧ (∀ k, k < pos → 48 ≤ byt b k ∧ byt b k ≤ 57) ∧ (b.size - pos) = κ ∧ σ = ⟨[(40, (AV.ref 201 (0)))], [(201, (AO.blk (.stringIter (b) (pos))))]⟩) ⟨_, _, ⟨0, (by omega), (fun k hk => by omega), rfl, rfl⟩, ?wk2⟩ ?rd2
              case wk2 =>
                exact Wk.sub (And.intro rfl (trivial)) (And.intro (by first | rfl | exact congrArg (fun x => some (AO.blk (.stringIter _ x))) (by omega)) (trivial))
              rintro κ _ ⟨pos, hp, hv, rfl, rfl⟩
              refine awp_seq fun K13 hK13 => ?_
              refine awp_region rfl ?_
              refine aops_em (pos < (b).size) (fun h9 => ?_) (fun h9 => ?_)
              · refine o_iterNext (((Utf8.decode (b) (pos)).1 : Int)) (pos + (Utf8.decode (b) (pos)).2) [(201, (AO.blk (.stringIter (b) (pos + (Utf8.decode (b) (pos)).2))))] Gd.none rfl rfl h9 rfl rfl rfl ?_
                refine o_extract (AV.lit (.bool true)) Gd.none rfl rfl ?_
                refine aops_end ?_
                refine hK13 _ ?_
                refine awp_seq fun K14 hK14 => ?_
                refine awp_condB (b := true) rfl (fun _ => ?_) (fun hh => absurd (hh.symm.trans rfl) (by decide))
                refine awp_skip ?_
                refine hK14 _ ?_
                refine awp_block ?_
                refine awp_seq fun K15 hK15 => ?_
                refine awp_region rfl ?_
                refine o_extract (AV.lit (.int .i32 (((Utf8.decode (b) (pos)).1 : Int)))) Gd.none rfl rfl ?_
                refine o_as (AV.lit (.int .i32 (((Utf8.decode (b) (pos)).1 : Int)))) rfl ?_
                refine aops_end ?_
                refine hK15 _ ?_
                refine awp_seq fun K16 hK16 => ?_
                refine awp_region rfl ?_
                refine o_mv (AV.lit (.int .i32 (((Utf8.decode (b) (pos)).1 : Int)))) rfl ?_
                refine o_lss (a := (((Utf8.decode (b) (pos)).1 : Int))) (c := (((48 : Nat) : Int))) Gd.none rfl rfl ?_
                refine o_mv (bp ((((Utf8.decode (b) (pos)).1 : Int)) < (((48 : Nat) : Int)))) rfl ?_
                refine o_splitP (q := (((Utf8.decode (b) (pos)).1 : Int)) < (((48 : Nat) : Int))) 46 rfl (fun h10 => ?_) (fun h10 => ?_)
                · refine o_skip rfl rfl (decide_eq_true h10) ?_
                  refine o_skip rfl rfl (decide_eq_true h10) ?_
                  refine o_pickT (AV.lit (.bool true)) Gd.none rfl (decide_eq_true h10) rfl ?_
                  refine aops_end ?_
                  refine hK16 _ ?_
                  refine awp_condB (b := true) rfl (fun _ => ?_) (fun hh => absurd (hh.symm.trans rfl) (by decide))
                  refine awp_seq fun K17 hK17 => ?_
                  refine awp_region rfl ?_
                  refine o_as (AV.lit (.bool false)) rfl ?_
                  refine aops_end ?_
                  refine hK17 _ ?_
                  refine awp_ret ?_
                  refine post_ret ⟨[(AV.lit (.bool false))], And.intro (AV.le_refl _) (trivial), rfl, ?_⟩
                  refine bl_eq (okS_no fun h => ?_)
                  obtain ⟨o1, o2, o3, o4⟩ := h
                  first | omega | (have := str_nil.1 (by assumption); omega) | (have e := hb 0 (by omega); rw [Nat.add_zero] at e; omega) | (have e := hb 0 (by omega); have := hng1 (by assumption); rw [Nat.add_zero] at e; omega) | (have e := o4 (sgnAt a + pos) (by omega) (by omega); rw [← hb pos (by omega)] at e; have e2 := utf8_lo (a := b) (pos := pos) (by omega) (by omega); simp only [e2] at *; omega)
                · refine o_move (AV.lit (.int .i32 (((Utf8.decode (b) (pos)).1 : Int)))) (Gd.yes rfl rfl (decide_eq_false h10)) rfl ?_
                  refine o_gtr (a := (((Utf8.decode (b) (pos)).1 : Int))) (c := (((57 : Nat) : Int))) (Gd.yes rfl rfl (decide_eq_false h10)) rfl rfl ?_
                  refine o_pickF (bp ((((57 : Nat) : Int)) < (((Utf8.decode (b) (pos)).1 : Int)))) Gd.none rfl (decide_eq_false h10) rfl ?_
                  refine aops_end ?_
                  refine hK16 _ ?_
                  refine awp_condQ (q := (((57 : Nat) : Int)) < (((Utf8.decode (b) (pos)).1 : Int))) rfl (fun h11 => ?_) (fun h11 => ?_)
                  · refine awp_seq fun K18 hK18 => ?_
                    refine awp_region rfl ?_
                    refine o_as (AV.lit (.bool false)) rfl ?_
                    refine aops_end ?_
                    refine hK18 _ ?_
                    refine awp_ret ?_
                    refine post_ret ⟨[(AV.lit (.bool false))], And.intro (AV.le_refl _) (trivial), rfl, ?_⟩
                    refine bl_eq (okS_no fun h => ?_)
                    obtain ⟨o1, o2, o3, o4⟩ := h
                    first | omega | (have := str_nil.1 (by assumption); omega) | (have e := hb 0 (by omega); rw [Nat.add_zero] at e; omega) | (have e := hb 0 (by omega); have := hng1 (by assumption); rw [Nat.add_zero] at e; omega) | (have e := o4 (sgnAt a + pos) (by omega) (by omega); rw [← hb pos (by omega)] at e; have e2 := utf8_lo (a := b) (pos := pos) (by omega) (by omega); simp only [e2] at *; omega)
                  · refine awp_skip ?_
                    have hu := utf8_dig (a := b) (pos := pos) (by assumption) (by omega)
                    simp only [hu] at *
                    refine ⟨_, _, ?lt, ⟨pos + 1, (by omega), (fun k hk => by by_cases e : k = pos; subst e; omega; exact hv k (by omega)), rfl, rfl⟩, ?wk⟩
                    case lt => omega
                    case wk => exact Wk.sub (And.intro rfl (trivial)) (And.intro (by first | rfl | exact congrArg (fun x => some (AO.blk (.stringIter _ x))) (by omega)) (trivial))
              · refine o_iterEnd Gd.none rfl rfl h9 ?_
                refine o_extract (AV.lit (.bool false)) Gd.none rfl rfl ?_
                refine aops_end ?_
                refine hK13 _ ?_
                refine awp_seq fun K19 hK19 => ?_
                refine awp_condB (b := false) rfl (fun hh => absurd (hh.symm.trans rfl) (by decide)) (fun _ => ?_)
                refine awp_exit ?_
                refine hK11 _ ?_
                refine awp_seq fun K20 hK20 => ?_
                refine awp_region rfl ?_
                refine o_as (AV.lit (.bool true)) rfl ?_
                refine aops_end ?_
                refine hK20 _ ?_
                refine awp_ret ?_
                refine post_ret ⟨[(AV.lit (.bool true))], And.intro (AV.le_refl _) (trivial), rfl, ?_⟩
                have e0 := hb 0 (by omega)
                rw [Nat.add_zero] at e0
                refine bl_eq (okS_yes ⟨by omega, by omega, fun hh => ?_, fun i hi1 hi2 => ?_⟩)
                · first | omega | (have := hng0 (by assumption); omega)
                · have := hv (i - sgnAt a) (by omega)
                  rw [hb _ (by omega), show sgnAt a + (i - sgnAt a) = i by omega] at this
                  exact this
        · refine o_skip rfl rfl (decide_eq_false h6) ?_
          refine o_skip rfl rfl (decide_eq_false h6) ?_
          refine o_skip rfl rfl (decide_eq_false h6) ?_
          refine o_skip rfl rfl (decide_eq_false h6) ?_
          refine o_skipU rfl rfl ?_
          refine o_skip rfl rfl (decide_eq_false h6) ?_
          refine o_pickF (AV.lit (.bool false)) (Gd.yes rfl rfl (decide_eq_false h5)) rfl (decide_eq_false h6) rfl ?_
          refine o_pickF (AV.lit (.bool false)) Gd.none rfl (decide_eq_false h5) rfl ?_
          refine aops_end ?_
          refine hK6 _ ?_
          refine awp_condB (b := false) rfl (fun hh => absurd (hh.symm.trans rfl) (by decide)) (fun _ => ?_)
          refine awp_skip ?_
          refine hK5 _ ?_
          refine awp_seq fun K21 hK21 => ?_
          refine awp_seq fun K22 hK22 => ?_
          refine awp_region rfl ?_
          refine o_mv (AV.lit (.string (b))) rfl ?_
          refine o_iterNew 201 Gd.none Wh_tT9 rfl rfl ?_
          refine aops_end ?_
          refine hK22 _ ?_
          refine awp_block ?_
          refine awp_loopR (fun κ σ => ∃ (pos : Nat), (pos ≤ b.size) ∧ (∀ k, k < pos → 48 ≤ byt b k ∧ byt b k ≤ 57) ∧ (b.size - pos) = κ ∧ σ = ⟨[(40, (AV.ref 201 (0)))], [(201, (AO.blk (.stringIter (b) (pos))))]⟩) ⟨_, _, ⟨0, (by omega), (fun k hk => by omega), rfl, rfl⟩, ?wk3⟩ ?rd3
          case wk3 =>
            exact Wk.sub (And.intro rfl (trivial)) (And.intro (by first | rfl | exact congrArg (fun x => some (AO.blk (.stringIter _ x))) (by omega)) (trivial))
          rintro κ _ ⟨pos, hp, hv, rfl, rfl⟩
          refine awp_seq fun K23 hK23 => ?_
          refine awp_region rfl ?_
          refine aops_em (pos < (b).size) (fun h12 => ?_) (fun h12 => ?_)
          · refine o_iterNext (((Utf8.decode (b) (pos)).1 : Int)) (pos + (Utf8.decode (b) (pos)).2) [(201, (AO.blk (.stringIter (b) (pos + (Utf8.decode (b) (pos)).2))))] Gd.none rfl rfl h12 rfl rfl rfl ?_
            refine o_extract (AV.lit (.bool true)) Gd.none rfl rfl ?_
            refine aops_end ?_
            refine hK23 _ ?_
            refine awp_seq fun K24 hK24 => ?_
            refine awp_condB (b := true) rfl (fun _ => ?_) (fun hh => absurd (hh.symm.trans rfl) (by decide))
            refine awp_skip ?_
            refine hK24 _ ?_
            refine awp_block ?_
            refine awp_seq fun K25 hK25 => ?_
            refine awp_region rfl ?_
            refine o_extract (AV.lit (.int .i32 (((Utf8.decode (b) (pos)).1 : Int)))) Gd.none rfl rfl ?_
            refine o_as (AV.lit (.int .i32 (((Utf8.decode (b) (pos)).1 : Int)))) rfl ?_
            refine aops_end ?_
            refine hK25 _ ?_
            refine awp_seq fun K26 hK26 => ?_
            refine awp_region rfl ?_
            refine o_mv (AV.lit (.int .i32 (((Utf8.decode (b) (pos)).1 : Int)))) rfl ?_
            refine o_lss (a := (((Utf8.decode (b) (pos)).1 : Int))) (c := (((48 : Nat) : Int))) Gd.none rfl rfl ?_
            refine o_mv (bp ((((Utf8.decode (b) (pos)).1 : Int)) < (((48 : Nat) : Int)))) rfl ?_
            refine o_splitP (q := (((Utf8.decode (b) (pos)).1 : Int)) < (((48 : Nat) : Int))) 46 rfl (fun h13 => ?_) (fun h13 => ?_)
            · refine o_skip rfl rfl (decide_eq_true h13) ?_
              refine o_skip rfl rfl (decide_eq_true h13) ?_
              refine o_pickT (AV.lit (.bool true)) Gd.none rfl (decide_eq_true h13) rfl ?_
              refine aops_end ?_
              refine hK26 _ ?_
              refine awp_condB (b := true) rfl (fun _ => ?_) (fun hh => absurd (hh.symm.trans rfl) (by decide))
              refine awp_seq fun K27 hK27 => ?_
              refine awp_region rfl ?_
              refine o_as (AV.lit (.bool false)) rfl ?_
              refine aops_end ?_
              refine hK27 _ ?_
              refine awp_ret ?_
              refine post_ret ⟨[(AV.lit (.bool false))], And.intro (AV.le_refl _) (trivial), rfl, ?_⟩
              refine bl_eq (okS_no fun h => ?_)
              obtain ⟨o1, o2, o3, o4⟩ := h
              first | omega | (have := str_nil.1 (by assumption); omega) | (have e := hb 0 (by omega); rw [Nat.add_zero] at e; omega) | (have e := hb 0 (by omega); have := hng1 (by assumption); rw [Nat.add_zero] at e; omega) | (have e := o4 (sgnAt a + pos) (by omega) (by omega); rw [← hb pos (by omega)] at e; have e2 := utf8_lo (a := b) (pos := pos) (by omega) (by omega); simp only [e2] at *; omega)
            · refine o_move (AV.lit (.int .i32 (((Utf8.decode (b) (pos)).1 : Int)))) (Gd.yes rfl rfl (decide_eq_false h13)) rfl ?_
              refine o_gtr (a := (((Utf8.decode (b) (pos)).1 : Int))) (c := (((57 : Nat) : Int))) (Gd.yes rfl rfl (decide_eq_false h13)) rfl rfl ?_
              refine o_pickF (bp ((((57 : Nat) : Int)) < (((Utf8.decode (b) (pos)).1 : Int)))) Gd.none rfl (decide_eq_false h13) rfl ?_
              refine aops_end ?_
              refine hK26 _ ?_
              refine awp_condQ (q := (((57 : Nat) : Int)) < (((Utf8.decode (b) (pos)).1 : Int))) rfl (fun h14 => ?_) (fun h14 => ?_)
              · refine awp_seq fun K28 hK28 => ?_
                refine awp_region rfl ?_
                refine o_as (AV.lit (.bool false)) rfl ?_
                refine aops_end ?_
                refine hK28 _ ?_
                refine awp_ret ?_
                refine post_ret ⟨[(AV.lit (.bool false))], And.intro (AV.le_refl _) (trivial), rfl, ?_⟩
                refine bl_eq (okS_no fun h => ?_)
                obtain ⟨o1, o2, o3, o4⟩ := h
                first | omega | (have := str_nil.1 (by assumption); omega) | (have e := hb 0 (by omega); rw [Nat.add_zero] at e; omega) | (have e := hb 0 (by omega); have := hng1 (by assumption); rw [Nat.add_zero] at e; omega) | (have e := o4 (sgnAt a + pos) (by omega) (by omega); rw [← hb pos (by omega)] at e; have e2 := utf8_lo (a := b) (pos := pos) (by omega) (by omega); simp only [e2] at *; omega)
              · refine awp_skip ?_
                have hu := utf8_dig (a := b) (pos := pos) (by assumption) (by omega)
                simp only [hu] at *
                refine ⟨_, _, ?lt, ⟨pos + 1, (by omega), (fun k hk => by by_cases e : k = pos; subst e; omega; exact hv k (by omega)), rfl, rfl⟩, ?wk⟩
                case lt => omega
                case wk => exact Wk.sub (And.intro rfl (trivial)) (And.intro (by first | rfl | exact congrArg (fun x => some (AO.blk (.stringIter _ x))) (by omega)) (trivial))
          · refine o_iterEnd Gd.none rfl rfl h12 ?_
            refine o_extract (AV.lit (.bool false)) Gd.none rfl rfl ?_
            refine aops_end ?_
            refine hK23 _ ?_
            refine awp_seq fun K29 hK29 => ?_
            refine awp_condB (b := false) rfl (fun hh => absurd (hh.symm.trans rfl) (by decide)) (fun _ => ?_)
            refine awp_exit ?_
            refine hK21 _ ?_
            refine awp_seq fun K30 hK30 => ?_
            refine awp_region rfl ?_
            refine o_as (AV.lit (.bool true)) rfl ?_
            refine aops_end ?_
            refine hK30 _ ?_
            refine awp_ret ?_
            refine post_ret ⟨[(AV.lit (.bool true))], And.intro (AV.le_refl _) (trivial), rfl, ?_⟩
            have e0 := hb 0 (by omega)
            rw [Nat.add_zero] at e0
            refine bl_eq (okS_yes ⟨by omega, by omega, fun hh => ?_, fun i hi1 hi2 => ?_⟩)
            · first | omega | (have := hng0 (by assumption); omega)
            · have := hv (i - sgnAt a) (by omega)
              rw [hb _ (by omega), show sgnAt a + (i - sgnAt a) = i by omega] at this
              exact this

end Go.Proofs.YtpamhblonmpniaaGreatDoor

set_option linter.unusedVariables false
set_option linter.unusedSimpArgs false
namespace Go.Proofs.YtpamhblonmpniaaGreatDoor
open Go Go.Ab Go.Mth
theorem Wk_tC50 : callable cx.P 50 = true := by kernel_rfl
theorem Wk_tC51 : callable cx.P 51 = true := by kernel_rfl
theorem Wk_tC53 : callable cx.P 53 = true := by kernel_rfl
theorem Wk_tC56 : callable cx.P 56 = true := by kernel_rfl
theorem Wk_tC55 : callable cx.P 55 = true := by kernel_rfl
theorem Wk_tC82 : callable cx.P 82 = true := by kernel_rfl
theorem c_nBinary (a b : ByteArray) (f : Nat) (g : Int → Int → Int) (hf : callable cx.P f = true) (hg : ∀ x y, (digs x.natAbs).length ≤ 300 → (digs y.natAbs).length ≤ 300 → ECalls cx f [intW x, intW y] (intW (g x y))) (hl : ∀ x y, (digs x.natAbs).length ≤ 300 → (digs y.natAbs).length ≤ 300 → (digs (g x y).natAbs).length ≤ 1000000000) (ha : a.size ≤ 9223372036854775807) (hb : b.size ≤ 9223372036854775807) : ECalls cx 55 [(AV.lit (.string (a))), (AV.lit (.string (b))), (AV.clo f [])] (.tup [.lit (.string (if okS a && okS b then toldS (g (numS a) (numS b)) else { data := #[] })), nm .i64 (if okS a && okS b then toldE (g (numS a) (numS b)) else 1)]) := by
  refine ecalls_of_awp Tryz.func55 (c := _) rfl (Nat.le_of_ble_eq_true rfl) ?_
  show awp cx 25 _ (postF cx Tryz.f55 _) ⟨[(0, (AV.lit (.string (a)))), (1, (AV.lit (.string (b)))), (2, (AV.clo f []))], []⟩
  refine awp_seq fun K0 hK0 => ?_
  refine awp_region rfl ?_
  refine o_as (AV.lit (.string (({data := #[]} : ByteArray)))) rfl ?_
  refine o_as (nm .i64 (0)) rfl ?_
  refine aops_end ?_
  refine hK0 _ ?_
  refine awp_seq fun K1 hK1 => ?_
  refine awp_seq fun K2 hK2 => ?_
  refine awp_region rfl ?_
  refine o_mv (AV.lit (.string (a))) rfl ?_
  refine o_ct (c_nValid (a) (by first | assumption | decide | omega)) Gd.none Wk_tC50 rfl ?_
  refine o_not (b := okS (a)) Gd.none rfl ?_
  refine o_mv (AV.lit (.bool (!(okS (a))))) rfl ?_
  refine o_split (b := !(okS (a))) 11 rfl (fun h1 => ?_) (fun h1 => ?_)
  · have ha' : okS a = false := by simpa using h1
    refine o_skip rfl rfl h1 ?_
    refine o_skip rfl rfl h1 ?_
    refine o_skip rfl rfl h1 ?_
    refine o_pickT (AV.lit (.bool true)) Gd.none rfl h1 rfl ?_
    refine aops_end ?_
    refine hK2 _ ?_
    refine awp_condB (b := true) rfl (fun _ => ?_) (fun hh => absurd (hh.symm.trans rfl) (by decide))
    refine awp_seq fun K3 hK3 => ?_
    refine awp_region rfl ?_
    refine o_as (AV.lit (.string (({data := #[]} : ByteArray)))) rfl ?_
    refine o_as (nm .i64 (1)) rfl ?_
    refine aops_end ?_
    refine hK3 _ ?_
    refine awp_ret ?_
    refine post_ret ⟨[(AV.lit (.string (({data := #[]} : ByteArray)))), (nm .i64 (1))], And.intro (AV.le_refl _) (And.intro (AV.le_refl _) (trivial)), rfl, ?_⟩
    exact tup_eq2 (by rw [ha']; rfl) (by rw [ha']; rfl)
  · have ha' : okS a = true := by simpa using h1
    refine o_move (AV.lit (.string (b))) (Gd.yes rfl rfl h1) rfl ?_
    refine o_ct (c_nValid (b) (by first | assumption | decide | omega)) (Gd.yes rfl rfl h1) Wk_tC50 rfl ?_
    refine o_not (b := okS (b)) (Gd.yes rfl rfl h1) rfl ?_
    refine o_pickF (AV.lit (.bool (!(okS (b))))) Gd.none rfl h1 rfl ?_
    refine aops_end ?_
    refine hK2 _ ?_
    refine awp_condB (b := !(okS (b))) rfl (fun h2 => ?_) (fun h2 => ?_)
    · have hb' : okS b = false := by simpa using h2
      refine awp_seq fun K4 hK4 => ?_
      refine awp_region rfl ?_
      refine o_as (AV.lit (.string (({data := #[]} : ByteArray)))) rfl ?_
      refine o_as (nm .i64 (1)) rfl ?_
      refine aops_end ?_
      refine hK4 _ ?_
      refine awp_ret ?_
      refine post_ret ⟨[(AV.lit (.string (({data := #[]} : ByteArray)))), (nm .i64 (1))], And.intro (AV.le_refl _) (And.intro (AV.le_refl _) (trivial)), rfl, ?_⟩
      exact tup_eq2 (by rw [ha', hb']; rfl) (by rw [ha', hb']; rfl)
    · have hb' : okS b = true := by simpa using h2
      refine awp_skip ?_
      refine hK1 _ ?_
      refine awp_seq fun K5 hK5 => ?_
      refine awp_region rfl ?_
      refine o_mv (AV.clo f []) rfl ?_
      refine o_mv (AV.lit (.string (a))) rfl ?_
      refine o_ct (c_wParse (a) (by first | assumption | exact okS_iff.1 (by assumption))) Gd.none Wk_tC51 rfl ?_
      refine o_mv (AV.lit (.string (b))) rfl ?_
      refine o_ct (c_wParse (b) (by first | assumption | exact okS_iff.1 (by assumption))) Gd.none Wk_tC51 rfl ?_
      refine o_callG [] [(intW ((numS (a)))), (intW ((numS (b))))] _ (intW ((g (numS a) (numS b)))) [] Gd.none hf rfl (trivial) rfl rfl (LeL.cons (AV.le_refl _) (LeL.cons (AV.le_refl _) (LeL.nil))) (hg _ _ (len_numS (okS_iff.1 ha')) (len_numS (okS_iff.1 hb'))) rfl ?_
      refine o_ct (c_nTold ((g (numS a) (numS b))) (hl _ _ (len_numS (okS_iff.1 ha')) (len_numS (okS_iff.1 hb')))) Gd.none Wk_tC53 rfl ?_
      refine o_extract (AV.lit (.string (toldS (g (numS a) (numS b))))) Gd.none rfl rfl ?_
      refine o_extract (nm .i64 (toldE (g (numS a) (numS b)))) Gd.none rfl rfl ?_
      refine o_as (AV.lit (.string (toldS (g (numS a) (numS b))))) rfl ?_
      refine o_as (nm .i64 (toldE (g (numS a) (numS b)))) rfl ?_
      refine aops_end ?_
      refine hK5 _ ?_
      refine awp_ret ?_
      refine post_ret ⟨[(AV.lit (.string (toldS (g (numS a) (numS b))))), (nm .i64 (toldE (g (numS a) (numS b))))], And.intro (AV.le_refl _) (And.intro (AV.le_refl _) (trivial)), rfl, ?_⟩
      exact tup_eq2 (by rw [ha', hb']; rfl) (by rw [ha', hb']; rfl)

theorem c_nMul (a b : ByteArray) (ha : a.size ≤ 9223372036854775807) (hb : b.size ≤ 9223372036854775807) : ECalls cx 29 [(AV.lit (.string (a))), (AV.lit (.string (b)))] (.tup [.lit (.string (if okS a && okS b then toldS (numS a * numS b) else { data := #[] })), nm .i64 (if okS a && okS b then toldE (numS a * numS b) else 1)]) := by
  refine ecalls_of_awp Tryz.func29 (c := _) rfl (Nat.le_of_ble_eq_true rfl) ?_
  show awp cx 11 _ (postF cx Tryz.f29 _) ⟨[(0, (AV.lit (.string (a)))), (1, (AV.lit (.string (b))))], []⟩
  refine awp_seq fun K0 hK0 => ?_
  refine awp_region rfl ?_
  refine o_as (AV.lit (.string (({data := #[]} : ByteArray)))) rfl ?_
  refine o_as (nm .i64 (0)) rfl ?_
  refine aops_end ?_
  refine hK0 _ ?_
  refine awp_seq fun K1 hK1 => ?_
  refine awp_region rfl ?_
  refine o_mv (AV.lit (.string (a))) rfl ?_
  refine o_mv (AV.lit (.string (b))) rfl ?_
  refine o_ct (c_nBinary a b 56 (fun x y => x * y) Wk_tC56 (fun x y hx hy => c_wMul x y (by omega) (by omega)) (fun x y hx hy => by have := len_mulZ x y; omega) ha hb) Gd.none Wk_tC55 rfl ?_
  refine o_extract (AV.lit (.string (if okS a && okS b then toldS (numS a * numS b) else { data := #[] }))) Gd.none rfl rfl ?_
  refine o_extract (nm .i64 (if okS a && okS b then toldE (numS a * numS b) else 1)) Gd.none rfl rfl ?_
  refine o_as (AV.lit (.string (if okS a && okS b then toldS (numS a * numS b) else { data := #[] }))) rfl ?_
  refine o_as (nm .i64 (if okS a && okS b then toldE (numS a * numS b) else 1)) rfl ?_
  refine aops_end ?_
  refine hK1 _ ?_
  refine awp_ret ?_
  refine post_ret ⟨[(AV.lit (.string (if okS a && okS b then toldS (numS a * numS b) else { data := #[] }))), (nm .i64 (if okS a && okS b then toldE (numS a * numS b) else 1))], And.intro (AV.le_refl _) (And.intro (AV.le_refl _) (trivial)), rfl, ?_⟩
  rfl

theorem c_nCompare (a b : ByteArray) (ha : a.size ≤ 9223372036854775807) (hb : b.size ≤ 9223372036854775807) : ECalls cx 71 [(AV.lit (.string (a))), (AV.lit (.string (b)))] (.tup [.lit (.int .i64 (if okS a && okS b then cmpZ (numS a) (numS b) else 0)), nm .i64 (if okS a && okS b then 0 else 1)]) := by
  refine ecalls_of_awp Tryz.func71 (c := _) rfl (Nat.le_of_ble_eq_true rfl) ?_
  show awp cx 19 _ (postF cx Tryz.f71 _) ⟨[(0, (AV.lit (.string (a)))), (1, (AV.lit (.string (b))))], []⟩
  refine awp_seq fun K0 hK0 => ?_
  refine awp_region rfl ?_
  refine o_as (nm .i64 (0)) rfl ?_
  refine o_as (nm .i64 (0)) rfl ?_
  refine aops_end ?_
  refine hK0 _ ?_
  refine awp_seq fun K1 hK1 => ?_
  refine awp_seq fun K2 hK2 => ?_
  refine awp_region rfl ?_
  refine o_mv (AV.lit (.string (a))) rfl ?_
  refine o_ct (c_nValid (a) (by first | assumption | decide | omega)) Gd.none Wk_tC50 rfl ?_
  refine o_not (b := okS (a)) Gd.none rfl ?_
  refine o_mv (AV.lit (.bool (!(okS (a))))) rfl ?_
  refine o_split (b := !(okS (a))) 9 rfl (fun h1 => ?_) (fun h1 => ?_)
  · have ha' : okS a = false := by simpa using h1
    refine o_skip rfl rfl h1 ?_
    refine o_skip rfl rfl h1 ?_
    refine o_skip rfl rfl h1 ?_
    refine o_pickT (AV.lit (.bool true)) Gd.none rfl h1 rfl ?_
    refine aops_end ?_
    refine hK2 _ ?_
    refine awp_condB (b := true) rfl (fun _ => ?_) (fun hh => absurd (hh.symm.trans rfl) (by decide))
    refine awp_seq fun K3 hK3 => ?_
    refine awp_region rfl ?_
    refine o_as (nm .i64 (0)) rfl ?_
    refine o_as (nm .i64 (1)) rfl ?_
    refine aops_end ?_
    refine hK3 _ ?_
    refine awp_ret ?_
    refine post_ret ⟨[(nm .i64 (0)), (nm .i64 (1))], And.intro (AV.le_refl _) (And.intro (AV.le_refl _) (trivial)), rfl, ?_⟩
    exact tup_eq2 (by rw [ha']; rfl) (by rw [ha']; rfl)
  · have ha' : okS a = true := by simpa using h1
    refine o_move (AV.lit (.string (b))) (Gd.yes rfl rfl h1) rfl ?_
    refine o_ct (c_nValid (b) (by first | assumption | decide | omega)) (Gd.yes rfl rfl h1) Wk_tC50 rfl ?_
    refine o_not (b := okS (b)) (Gd.yes rfl rfl h1) rfl ?_
    refine o_pickF (AV.lit (.bool (!(okS (b))))) Gd.none rfl h1 rfl ?_
    refine aops_end ?_
    refine hK2 _ ?_
    refine awp_condB (b := !(okS (b))) rfl (fun h2 => ?_) (fun h2 => ?_)
    · have hb' : okS b = false := by simpa using h2
      refine awp_seq fun K4 hK4 => ?_
      refine awp_region rfl ?_
      refine o_as (nm .i64 (0)) rfl ?_
      refine o_as (nm .i64 (1)) rfl ?_
      refine aops_end ?_
      refine hK4 _ ?_
      refine awp_ret ?_
      refine post_ret ⟨[(nm .i64 (0)), (nm .i64 (1))], And.intro (AV.le_refl _) (And.intro (AV.le_refl _) (trivial)), rfl, ?_⟩
      exact tup_eq2 (by rw [ha', hb']; rfl) (by rw [ha', hb']; rfl)
    · have hb' : okS b = true := by simpa using h2
      refine awp_skip ?_
      refine hK1 _ ?_
      refine awp_seq fun K5 hK5 => ?_
      refine awp_region rfl ?_
      refine o_mv (AV.lit (.string (a))) rfl ?_
      refine o_ct (c_wParse (a) (by first | assumption | exact okS_iff.1 (by assumption))) Gd.none Wk_tC51 rfl ?_
      refine o_mv (AV.lit (.string (b))) rfl ?_
      refine o_ct (c_wParse (b) (by first | assumption | exact okS_iff.1 (by assumption))) Gd.none Wk_tC51 rfl ?_
      refine o_ct (c_wCmp ((numS (a))) ((numS (b)))) Gd.none Wk_tC82 rfl ?_
      refine o_as (AV.lit (.int .i64 (cmpZ ((numS (a))) ((numS (b)))))) rfl ?_
      refine o_as (nm .i64 (0)) rfl ?_
      refine aops_end ?_
      refine hK5 _ ?_
      refine awp_ret ?_
      refine post_ret ⟨[(AV.lit (.int .i64 (cmpZ ((numS (a))) ((numS (b)))))), (nm .i64 (0))], And.intro (AV.le_refl _) (And.intro (AV.le_refl _) (trivial)), rfl, ?_⟩
      exact tup_eq2 (by rw [ha', hb']; rfl) (by rw [ha', hb']; rfl)

end Go.Proofs.YtpamhblonmpniaaGreatDoor

set_option linter.unusedVariables false
set_option linter.unusedSimpArgs false
namespace Go.Proofs.YtpamhblonmpniaaGreatDoor
open Go Go.Shelf Go.RowKit Go.Lib Go.Ab Go.Mth
theorem i122 : (Tryz.prog.info? 111).map (fun i => (i.zero, i.size, i.bytes)) = some (some (Value.int IntKind.u32 0), 1, 4) := by kernel_rfl
set_option maxHeartbeats 4000000 in
set_option maxRecDepth 100000 in
theorem insert_front (b off n vb voff vc : Nat) (cs : List Value) (x : Value) (w : World) (hn : 0 < n) (hbig : (n + 1) * 4 ≤ 140737488355328) (hcl : cs.length = n)
    (hcs : ∀ j v, cs[j]? = some v → w.cell? ⟨b, off + j, none⟩ = some v) (hx : w.cell? ⟨vb, voff, none⟩ = some x) (h1c : ∀ v ∈ cs, v.oneCell' = true) (h1x : x.oneCell' = true) :
    Calls Tryz.prog 83 #[.slice (some ⟨b, off, none⟩) n n, .int .i64 0, .slice (some ⟨vb, voff, none⟩) 1 vc] w fun e w' =>
      e = .returned (.slice (some ⟨w.heap.size, 0, none⟩) (n + 1) (grownCap w (n + 1) n 111)) ∧
      w' = (((w.alloc (.cells (Builtin.zeroCells (Value.int .u32 0).cells (n + 1) ++ Builtin.zeroCells (Value.int .u32 0).cells (grownCap w (n + 1) n 111 - (n + 1))) 111)).drew.setCells w.heap.size 0 [x]).drew).setCells w.heap.size 1 cs := by
  have t3 := Tryz.underlying3; have a3 := Tryz.isAgg3; have z3 := Tryz.sizeOf3; have v3 := Tryz.zeroValue3; have t4 := Tryz.underlying4; have a4 := Tryz.isAgg4; have z4 := Tryz.sizeOf4; have v4 := Tryz.zeroValue4
  have t87 := Tryz.underlying87; have a87 := Tryz.isAgg87; have z87 := Tryz.sizeOf87; have v87 := Tryz.zeroValue87; have t122 := Tryz.underlying111; have a122 := Tryz.isAgg111; have z122 := Tryz.sizeOf111; have v122 := Tryz.zeroValue111
  have u3 := run_underlying Tryz.underlying3; have u4 := run_underlying Tryz.underlying4; have u87 := run_underlying Tryz.underlying87; have u122 := run_underlying Tryz.underlying111
  have mixed := mixedT
  obtain ⟨i0, hi0, hz0, hzs, hzb⟩ := info_parts i122
  have hz2 : ¬ ((0 : Int) = (n : Int)) := by omega
  have hz3 : (n : Int) < (n : Int) + 1 := by omega
  have hsz : (Tryz.prog.info? 111).map (·.size) = some 1 := by rw [hi0]; simp [hzs]
  have hbw : b < w.heap.size := block_lt_of_cell (hcs 0 _ (List.getElem?_eq_getElem (by omega)))
  have hvw : vb < w.heap.size := block_lt_of_cell hx
  have hold : (Builtin.firstCells i0.size 0 (.slice (some ⟨b, off, none⟩) 0 n)).run Tryz.prog w.drew = .ok ([] : List Value).toArray w.drew := by
    rw [hzs]
    exact run_firstCells_some w.drew 1 0 ⟨b, off, none⟩ 0 n [] rfl (fun j v hj => by cases hj)
  have hrz : ∀ ty, (Builtin.append_ #[87, 3] ty #[.slice (some ⟨b, off, none⟩) 0 n, .int .i64 ((n : Int) + 1 - 0)]).run Tryz.prog w =
      .ok (.slice (some ⟨w.heap.size, 0, none⟩) (n + 1) (grownCap w (n + 1) n 111)) (w.drew.alloc (.cells (Builtin.zeroCells (Value.int .u32 0).cells (n + 1) ++ Builtin.zeroCells (Value.int .u32 0).cells (grownCap w (n + 1) n 111 - (n + 1))) 111)) := fun ty => by
    have h := Lib.run_append_grow_zeros w 87 3 ty 111 i0 _ .i64 .i64 Tryz.underlying87 Tryz.underlying3 hi0 hz0 (some ⟨b, off, none⟩) 0 n [] hold (n + 1) (by omega) (by omega) (by omega) (by omega) (by rw [hzb]; omega) (by rw [hzb, Nat.zero_add]; exact growslice_fits (by omega) hbig)
    rw [Nat.zero_add] at h
    simpa using h
  obtain ⟨G, hG⟩ : ∃ G, G = grownCap w (n + 1) n 111 := ⟨_, rfl⟩
  obtain ⟨ROW, hROW⟩ : ∃ ROW : Array Value, ROW = Builtin.zeroCells (Value.int .u32 0).cells (n + 1) ++ Builtin.zeroCells (Value.int .u32 0).cells (G - (n + 1)) := ⟨_, rfl⟩
  rw [← hG] at hrz ⊢
  rw [← hROW] at hrz ⊢
  have hRl : n + 1 ≤ ROW.size := by
    rw [hROW]
    simp [Builtin.zeroCells, Value.cells]
  obtain ⟨W1, hW1⟩ : ∃ W1, W1 = w.drew.alloc (.cells ROW 111) := ⟨_, rfl⟩
  rw [← hW1] at hrz
  have hN : ∀ j, j < n + 1 → (W1.cell? ⟨w.heap.size, j, none⟩).isSome = true := fun j hj => by
    rw [hW1, World.cell?_alloc_at (w := w.drew) ROW _ w.heap.size j rfl, Array.getElem?_eq_getElem (by omega)]; rfl
  have hNf : ∀ j, W1.frozen? ⟨w.heap.size, j, none⟩ = false := fun j => by rw [hW1]; exact World.frozen?_alloc_at (w := w.drew) ROW _ w.heap.size j rfl
  have hOb : ∀ j v, w.cell? ⟨b, j, none⟩ = some v → W1.cell? ⟨b, j, none⟩ = some v := fun j v h => by rw [hW1, World.cell?_alloc_past (w := w.drew) _ b j hbw]; exact h
  have hOv : ∀ j v, w.cell? ⟨vb, j, none⟩ = some v → W1.cell? ⟨vb, j, none⟩ = some v := fun j v h => by rw [hW1, World.cell?_alloc_past (w := w.drew) _ vb j hvw]; exact h
  have hcpA : ∀ (W : World), (∀ x, W.cell? x = W1.cell? x) → (∀ x, W.frozen? x = W1.frozen? x) → ∀ ty dc, (Builtin.copy_ #[87, 87] ty #[.slice (some ⟨w.heap.size, 0, none⟩) (n + 1) dc, .slice (some ⟨vb, voff, none⟩) 1 vc]).run Tryz.prog W = .ok (goInt [x].length) (W.setCells w.heap.size 0 [x]) := fun W hWc hWf ty dc =>
    run_copy_cells W _ _ ty 111 w.heap.size 0 (n + 1) dc ⟨vb, voff, none⟩ 1 vc [x] Tryz.underlying87 hsz (by simp only [List.length_cons, List.length_nil, Nat.min_def]; split <;> omega)
      (fun j v hj => by
        cases j with
        | zero => simp at hj; subst hj; rw [Addr.add_lit, hWc]; exact hOv _ _ hx
        | succ j => simp at hj)
      (fun j hj => by rw [hWc]; simp at hj; subst hj; exact hN _ (by omega)) (fun j hj => by rw [hWf]; exact hNf _) (fun v hv => by simp at hv; subst hv; exact h1x)
  have hGn : n + 1 ≤ G := by rw [hG]; exact grownCap_ge w _ _ _
  have hG63 : G ≤ 9223372036854775807 := by
    have := grownCap_le_maxLen w (n + 1) n 111 (by unfold maxLen; omega)
    rw [← hG] at this
    unfold maxLen at this
    omega
  have hbN : b ≠ w.heap.size := by omega
  have hcpB : ∀ (W : World), (∀ a, W.cell? a = (W1.setCells w.heap.size 0 [x]).cell? a) → (∀ a, W.frozen? a = (W1.setCells w.heap.size 0 [x]).frozen? a) → ∀ ty dc sc, (Builtin.copy_ #[87, 87] ty #[.slice (some ⟨w.heap.size, 1, none⟩) n dc, .slice (some ⟨b, off, none⟩) n sc]).run Tryz.prog W = .ok (goInt cs.length) (W.setCells w.heap.size 1 cs) := fun W hWc hWf ty dc sc =>
    run_copy_cells W _ _ ty 111 w.heap.size 1 n dc ⟨b, off, none⟩ n sc cs Tryz.underlying87 hsz (by rw [hcl]; simp only [Nat.min_def]; split <;> omega)
      (fun j v hj => by
        rw [Addr.add_lit, hWc, World.cell?_setCells_out _ _ _ _ _ (fun h _ => absurd h hbN)]
        exact hOb _ v (hcs j v hj))
      (fun j hj => by rw [hWc]; exact isSome_setCells _ _ _ _ (fun t ht => hN _ (by simp at ht; omega)) _ (hN _ (by omega)))
      (fun j hj => by rw [hWf, World.frozen?_setCells]; exact hNf _) (fun v hv => h1c v hv)
  subst hW1
  have hE1 : ∀ x, ((w.alloc (.cells ROW 111)).drew).cell? x = (w.drew.alloc (.cells ROW 111)).cell? x := fun x => rfl
  have hE2 : ∀ x, ((w.alloc (.cells ROW 111)).drew).frozen? x = (w.drew.alloc (.cells ROW 111)).frozen? x := fun x => rfl
  have hF1 : ∀ a, (((w.alloc (.cells ROW 111)).drew.setCells w.heap.size 0 [x]).drew).cell? a = ((w.drew.alloc (.cells ROW 111)).setCells w.heap.size 0 [x]).cell? a := fun x => rfl
  have hF2 : ∀ a, (((w.alloc (.cells ROW 111)).drew.setCells w.heap.size 0 [x]).drew).frozen? a = ((w.drew.alloc (.cells ROW 111)).setCells w.heap.size 0 [x]).frozen? a := fun x => rfl
  have hw1 : IntKind.i64.wrap ((n : Int) + 1) = (n : Int) + 1 := by rw [IntKind.wrap_i64]; omega
  have hw2 : IntKind.i64.wrap 1 = 1 := by decide
  have hG1 : ¬ (G = 1) := by omega
  have hb2 : (1 : Int) ≤ (n : Int) + 1 := by omega
  have hn0 : ¬ (n = 0) := by omega
  have hb1 : (0 : Int) ≤ (n : Int) := by omega
  clear hold hROW hG hRl
  go_enter Tryz.func83, Tryz.ntmps83
  go_wp2_with (first
    | (at_builtin; refine Lib.wpList_append_run _ rfl _ _ _ _ rfl _ _ rfl rfl _ _ (hrz _) ?_)
    | (at_builtin; refine wpList_copy_runI _ rfl _ _ 87 87 rfl _ _ rfl rfl (hcpA _ hE1 hE2 _ _) ?_)
    | (at_builtin; refine wpList_copy_runI _ rfl _ _ 87 87 rfl _ _ rfl rfl (hcpB _ (fun _ => rfl) (fun _ => rfl) _ _ _) ?_))
  go_region_law_o (refine step_copy_runI rfl _ _ 87 87 rfl (.slice (some ⟨w.heap.size, 1, none⟩) n (G - 1)) (.slice (some ⟨b, off, none⟩) n n) (by simp [Act.eval, Act.put]) (by simp [Act.eval, Act.put]) (hcpB _ hF1 hF2 3 (G - 1) n) ?_)
  go_wp2
  go_ret
  exact ⟨rfl, rfl⟩
set_option maxHeartbeats 4000000 in
set_option maxRecDepth 100000 in
theorem insert_empty (base : Option Addr) (vb voff vc : Nat) (x : Value) (w : World) (hx : w.cell? ⟨vb, voff, none⟩ = some x) (h1x : x.oneCell' = true) :
    Calls Tryz.prog 83 #[.slice base 0 0, .int .i64 0, .slice (some ⟨vb, voff, none⟩) 1 vc] w fun e w' =>
      e = .returned (.slice (some ⟨w.heap.size, 0, none⟩) 1 (grownCap w 1 0 111)) ∧ w' = w.drew.alloc (.cells ([x].toArray ++ Builtin.zeroCells (Value.int .u32 0).cells (grownCap w 1 0 111 - 1)) 111) := by
  have t3 := Tryz.underlying3; have a3 := Tryz.isAgg3; have z3 := Tryz.sizeOf3; have v3 := Tryz.zeroValue3; have t4 := Tryz.underlying4; have a4 := Tryz.isAgg4; have z4 := Tryz.sizeOf4; have v4 := Tryz.zeroValue4
  have t87 := Tryz.underlying87; have a87 := Tryz.isAgg87; have z87 := Tryz.sizeOf87; have v87 := Tryz.zeroValue87; have t122 := Tryz.underlying111; have a122 := Tryz.isAgg111; have z122 := Tryz.sizeOf111; have v122 := Tryz.zeroValue111
  have u3 := run_underlying Tryz.underlying3; have u4 := run_underlying Tryz.underlying4; have u87 := run_underlying Tryz.underlying87; have u122 := run_underlying Tryz.underlying111
  have mixed := mixedT
  obtain ⟨i0, hi0, hz0, hzs, hzb⟩ := info_parts i122
  have hsrc : Src Tryz.prog i0.size 87 (.slice (some ⟨vb, voff, none⟩) 1 vc) 1 [x] w := by
    rw [hzs]
    exact Src.ofSlice w Tryz.underlying87 ⟨vb, voff, none⟩ 1 vc [x] rfl (fun j u hj => by
      cases j with
      | zero => simp at hj; subst hj; rw [Addr.add_lit]; exact hx
      | succ j => simp at hj) (fun v hv => by simp at hv; subst hv; exact h1x)
  have hold : (Builtin.firstCells i0.size 0 (.slice base 0 0)).run Tryz.prog w.drew = .ok ([] : List Value).toArray w.drew := by
    rw [hzs]
    cases base with
    | none => exact run_firstCells_none w.drew 1 0 0 0
    | some a => exact run_firstCells_some w.drew 1 0 a 0 0 [] rfl (fun j v hj => by cases hj)
  have hrun : ∀ ty, (Builtin.append_ #[87, 87] ty #[.slice base 0 0, .slice (some ⟨vb, voff, none⟩) 1 vc]).run Tryz.prog w = _ := fun ty =>
    run_append_grow_src w 87 87 ty 111 i0 _ Tryz.underlying87 hi0 hz0 base 0 0 [] hold _ 1 [x] hsrc (by omega) (by omega) (by rw [hzb]; exact growslice_fits (by omega) (by omega))
  go_enter Tryz.func83, Tryz.ntmps83
  cases base with
  | none =>
    go_wp2_with (at_builtin; refine Lib.wpList_append_run _ rfl _ _ _ _ rfl _ _ rfl rfl _ _ (hrun _) ?_)
    go_ret
    exact ⟨rfl, rfl⟩
  | some a =>
    obtain ⟨ab, ao, asp⟩ := a
    go_wp2_with (at_builtin; refine Lib.wpList_append_run _ rfl _ _ _ _ rfl _ _ rfl rfl _ _ (hrun _) ?_)
    all_goals (go_ret; exact ⟨rfl, rfl⟩)
theorem setCells_below {B b : Nat} (hb : B ≤ b) {a : World} : ∀ (vs : List Value) (o : Nat) (w : World), Below B a w → Below B a (w.setCells b o vs)
  | [], _, _, h => h
  | v :: r, o, w, h => setCells_below hb r (o + 1) _ (h.setCell hb v)
theorem ret_row {H : Heap} {w w' : World} {xs : List Nat} {k : IntKind} {cap : Nat} (hH : ∀ b o, H b = some o → w.heap[b]? = some o) (hb : Below w.heap.size w w') (hl : 0 < xs.length) (hle : xs.length ≤ cap) (hcap : cap ≤ maxLen) (hbd : xs.length ≤ 140737488355328)
    (hc : ∀ (j x : Nat), xs[j]? = some x → w'.cell? ⟨w.heap.size, j, none⟩ = some (.int k x)) :
    ∃ H' v, (Ending.returned (.slice (some ⟨w.heap.size, 0, none⟩) xs.length cap)) = .returned v ∧ RepV H' (.sl 1 (ns k xs)) noLoc v ∧ Ext w.heap.size H H' ∧ (∀ b o, H' b = some o → w'.heap[b]? = some o) ∧ Below w.heap.size w w' := by
  obtain ⟨ob, hob, hcl⟩ := cells_of_cell (hc 0 _ (List.getElem?_eq_getElem hl))
  cases ob with
  | cells o t fr =>
    have hsm : ∀ b x, H b = some x → b < w.heap.size := fun b x h => (Array.getElem?_eq_some_iff.1 (hH b x h)).1
    have hcell : ∀ (j x : Nat), xs[j]? = some x → o[j]? = some (.int k x) := fun j x hj => by
      have := hc j x hj
      unfold World.cell? at this
      rw [hob] at this
      simpa using this
    refine ⟨fun b => if b = w.heap.size then some (.cells o t fr) else H b, _, rfl, ?_, ⟨fun b x h => ?_, fun b h => if_neg (by omega)⟩, fun b x h => ?_, hb⟩
    · simp only [RepV]
      refine ⟨_, _, _, rfl, hle, hcap, by omega, by simp [ns], ⟨by simpa [ns] using hbd, fun h => by cases h⟩, fun _ => ⟨_, _, o, t, fr, xs.map (fun (x : Nat) => Value.int k (x : Int)), rfl, if_pos rfl, fun j u hu => ?_, ?_, fun u hu => ?_⟩⟩
      · rw [List.getElem?_map] at hu
        cases hx : xs[j]? with
        | none => rw [hx] at hu; cases hu
        | some x => rw [hx] at hu; cases hu; rw [Nat.zero_add]; exact hcell j x hx
      · have := RepL.lits (H := fun b => if b = w.heap.size then some (.cells o t fr) else H b) noLoc (xs.map (fun (x : Nat) => Value.int k (x : Int)))
        rw [List.map_map] at this
        exact this
      · obtain ⟨x, _, rfl⟩ := List.mem_map.1 hu; rfl
    · show (if b = w.heap.size then _ else H b) = _
      rw [if_neg (by have := hsm b x h; omega)]; exact h
    · have h' : (if b = w.heap.size then some (Obj.cells o t fr) else H b) = some x := h
      split at h'
      · rename_i e; subst e; cases h'; exact hob
      · rw [hb.block b (hsm b x h')]; exact hH b x h'
  | _ => simp [Obj.isCells] at hcl
theorem c_insert (xs : List Nat) (x : Nat) (hxs : xs.length ≤ 1000000000) : ECalls cx 83 [.slc 1 (ns .u32 xs) xs.length, nm .i64 0, .sl 1 (ns .u32 [x])] (.sl 1 (ns .u32 (x :: xs))) := by
  intro H L vals w hG hH hr
  simp only [RepL, RepV, nm, ns_len, Nat.mul_one] at hr
  obtain ⟨v1, _, rfl, ⟨A, n1, rfl, _, _, _, hn1, ⟨_, hA⟩, h1⟩, v2, _, rfl, rfl, v3, _, rfl, ⟨B, n2, vc, rfl, _, _, _, hn2, ⟨_, hB⟩, h2⟩, rfl⟩ := hr
  subst hn1
  simp at hn2
  subst hn2
  obtain ⟨vb, voff, o2, t2, fr2, vs2, rfl, hb2, hc2, hr2, ho2⟩ := h2 (by omega)
  simp only [ns, List.map_cons, List.map_nil, RepL, RepV, nm] at hr2
  obtain ⟨_, _, rfl, rfl, rfl⟩ := hr2
  have hx : w.cell? ⟨vb, voff, none⟩ = some (.int .u32 (x : Int)) := by
    unfold World.cell?
    rw [hH vb _ hb2]
    have := hc2 0 _ rfl
    simpa using this
  by_cases h0 : xs.length = 0
  · have hx0 : xs = [] := List.length_eq_zero_iff.1 h0
    subst hx0
    refine (insert_empty A vb voff vc _ w hx rfl).mono ?_
    rintro e w' ⟨rfl, rfl⟩
    refine ret_row (xs := [x]) hH ?_ (by simp) (grownCap_ge w _ _ _) (grownCap_le_maxLen w 1 0 111 (by unfold maxLen; omega)) (by simp) ?_
    · exact (Below.refl _ _).drew.alloc (Nat.le_refl _) _
    · intro j y hj
      cases j with
      | zero =>
        simp at hj; subst hj
        rw [World.cell?_alloc_at (w := w.drew) _ _ w.heap.size 0 rfl, Array.getElem?_append_left (by simp)]
        rfl
      | succ j => simp at hj
  · obtain ⟨b1, off1, o1, t1, fr1, vs1, rfl, hb1, hc1, hr1, ho1⟩ := h1 (by omega)
    have hv1 : vs1 = xs.map (fun (x : Nat) => Value.int .u32 (x : Int)) := by
      have h : ∀ (l : List Nat) (vs : List Value), RepL H (ns .u32 l) noLoc vs → vs = l.map (fun (x : Nat) => Value.int .u32 (x : Int)) := by
        intro l
        induction l with
        | nil => intro vs h; simpa [ns, RepL] using h
        | cons y l ih =>
          intro vs h
          simp only [ns, List.map_cons, RepL, RepV, nm] at h
          obtain ⟨_, r, rfl, rfl, h⟩ := h
          rw [List.map_cons, ih r h]
      exact h xs vs1 hr1
    have hl1 : vs1.length = xs.length := by rw [hv1, List.length_map]
    have hcs : ∀ (j : Nat) (v : Value), vs1[j]? = some v → w.cell? ⟨b1, off1 + j, none⟩ = some v := fun j v hj => by
      unfold World.cell?
      rw [hH b1 _ hb1]
      have := hc1 j v hj
      simpa using this
    refine (insert_front b1 off1 xs.length vb voff vc vs1 _ w (by omega) (by omega) hl1 hcs hx ho1 rfl).mono ?_
    rintro e w' ⟨rfl, rfl⟩
    refine ret_row (xs := x :: xs) hH ?_ (by simp) (grownCap_ge w _ _ _) (grownCap_le_maxLen w (xs.length + 1) xs.length 111 (by unfold maxLen; omega)) (by simp; omega) ?_
    · exact setCells_below (Nat.le_refl _) _ _ _ (setCells_below (Nat.le_refl _) _ _ _ ((Below.refl _ _).alloc (Nat.le_refl _) _).drew).drew
    · obtain ⟨ROW, hROW⟩ : ∃ ROW : Array Value, ROW = Builtin.zeroCells (Value.int .u32 0).cells (xs.length + 1) ++ Builtin.zeroCells (Value.int .u32 0).cells (grownCap w (xs.length + 1) xs.length 111 - (xs.length + 1)) := ⟨_, rfl⟩
      have hRl : xs.length + 1 ≤ ROW.size := by rw [hROW]; simp [Builtin.zeroCells, Value.cells]
      rw [← hROW]
      have hN : ∀ j, j < xs.length + 1 → ((w.drew.alloc (.cells ROW 111)).cell? ⟨w.heap.size, j, none⟩).isSome = true := fun j hj => by
        rw [World.cell?_alloc_at (w := w.drew) ROW _ w.heap.size j rfl, Array.getElem?_eq_getElem (by omega)]; rfl
      intro j y hj
      cases j with
      | zero =>
        simp at hj; subst hj
        rw [World.cell?_setCells_out _ _ _ _ _ (fun _ _ => .inl (by simp))]
        have := World.cell?_setCells_in w.heap.size [Value.int .u32 (x : Int)] 0 (w.drew.alloc (.cells ROW 111)) (fun j hj => hN _ (by simp at hj; omega)) 0 (by simp)
        rw [Nat.add_zero] at this
        exact this
      | succ j =>
        simp at hj
        have hjl : j < xs.length := (List.getElem?_eq_some_iff.1 hj).1
        have := World.cell?_setCells_in w.heap.size vs1 1 (((w.alloc (.cells ROW 111)).drew.setCells w.heap.size 0 [Value.int .u32 (x : Int)]).drew) (fun j hj => isSome_setCells _ _ _ _ (fun t ht => hN _ (by simp at ht; omega)) _ (hN _ (by omega))) j (by omega)
        rw [Nat.add_comm j 1, this]
        subst hv1
        rw [List.getElem_map]
        congr 2
        exact congrArg _ (List.getElem?_eq_some_iff.1 hj).2
end Go.Proofs.YtpamhblonmpniaaGreatDoor

set_option linter.unusedVariables false
namespace Go.Mth
open Go.Ab
def bv : List Nat → Nat := fun l => l.foldl (fun v b => 10 * v + (b - 48)) 0
theorem bv_snoc (l : List Nat) (b : Nat) : bv (l ++ [b]) = 10 * bv l + (b - 48) := by simp [bv]
def DigB (l : List Nat) : Prop := ∀ x ∈ l, 48 ≤ x ∧ x ≤ 57
theorem decs_digB (n : Nat) : DigB (decs n) := by
  induction n using Nat.strongRecOn with
  | _ n ih =>
    by_cases h : n = 0
    · subst h; rw [decs_zero]; intro x hx; cases hx
    · rw [decs_pos (by omega)]
      intro x hx
      rcases List.mem_cons.1 hx with e | e
      · omega
      · exact ih (n / 10) (by omega) x e
theorem bv_decs (n : Nat) : bv (decs n).reverse = n := by
  induction n using Nat.strongRecOn with
  | _ n ih =>
    by_cases h : n = 0
    · subst h; rw [decs_zero]; rfl
    · rw [decs_pos (by omega), List.reverse_cons, bv_snoc, ih (n / 10) (by omega)]
      omega
theorem decs_last {n : Nat} (h : 0 < n) : ∃ l b, decs n = l ++ [b] ∧ b ≠ 48 := by
  induction n using Nat.strongRecOn with
  | _ n ih =>
    rw [decs_pos h]
    by_cases h10 : n / 10 = 0
    · rw [h10, decs_zero]
      exact ⟨[], _, rfl, by omega⟩
    · obtain ⟨l, b, e, hb⟩ := ih (n / 10) (by omega) (by omega)
      exact ⟨_ :: l, b, by rw [e]; rfl, hb⟩
theorem decs_bv : ∀ (l : List Nat), DigB l → (∀ b r, l = r ++ [b] → b ≠ 48) → decs (bv l.reverse) = l
  | [], _, _ => by simp [bv, decs_zero]
  | x :: l, hd, hl => by
    have hx := hd x (by simp)
    have ih := decs_bv l (fun y hy => hd y (by simp [hy])) (fun b r e => hl b (x :: r) (by rw [e]; rfl))
    rw [List.reverse_cons, bv_snoc]
    have hpos : 0 < 10 * bv l.reverse + (x - 48) := by
      cases l with
      | nil =>
        have := hl x [] rfl
        omega
      | cons y l =>
        have : bv (y :: l).reverse ≠ 0 := fun e => by rw [e, decs_zero] at ih; cases ih
        omega
    rw [decs_pos hpos, show (10 * bv l.reverse + (x - 48)) / 10 = bv l.reverse by omega, show (10 * bv l.reverse + (x - 48)) % 10 = x - 48 by omega, ih, show 48 + (x - 48) = x by omega]
theorem dvk_bv {a : ByteArray} {s : Nat} : ∀ {k : Nat}, s + k ≤ a.size → dvk a s k = bv (((byts a).drop s).take k)
  | 0, _ => by simp [dvk, bv]
  | k + 1, h => by
    have hl : s + k < (byts a).length := by rw [byts_len]; omega
    have e : ((byts a).drop s).take (k + 1) = ((byts a).drop s).take k ++ [(byts a).getD (s + k) 0] := by
      rw [List.take_add_one, List.getElem?_drop, List.getElem?_eq_getElem hl, List.getD_eq_getElem?_getD, List.getElem?_eq_getElem hl]
      rfl
    rw [dvk, dvk_bv (k := k) (by omega), e, bv_snoc, byt_byts]
theorem dvk_all {a : ByteArray} {s : Nat} (h : s ≤ a.size) : dvk a s (a.size - s) = bv ((byts a).drop s) := by
  rw [dvk_bv (by omega), List.take_of_length_le (by rw [List.length_drop, byts_len]; omega)]
theorem txt_len (z : Int) : (txt z).size = (txtL z).length := by rw [← byts_txt, byts_len]
theorem byt_txt (z : Int) (i : Nat) : byt (txt z) i = (txtL z).getD i 0 := by rw [byt_byts, byts_txt]
theorem txtL_pos {z : Int} (h : 0 < z) : txtL z = (decs z.natAbs).reverse := by unfold txtL; rw [if_neg (by omega), if_neg (by omega)]; rfl
theorem txtL_neg {z : Int} (h : z < 0) : txtL z = 45 :: (decs z.natAbs).reverse := by unfold txtL; rw [if_neg (by omega), if_pos h]; rfl
theorem decs_ne {n : Nat} (h : 0 < n) : 0 < (decs n).length := by rw [decs_pos h]; simp
theorem rev_head {n : Nat} (h : 0 < n) : 48 ≤ (decs n).reverse.getD 0 0 ∧ (decs n).reverse.getD 0 0 ≤ 57 ∧ (decs n).reverse.getD 0 0 ≠ 48 := by
  obtain ⟨l, b, e, hb⟩ := decs_last h
  have hd := decs_digB n b (by rw [e]; simp)
  rw [e]
  simp only [List.reverse_append, List.reverse_cons, List.reverse_nil, List.nil_append, List.cons_append, List.getD_cons_zero]
  exact ⟨hd.1, hd.2, hb⟩
theorem sgnAt_txt (z : Int) : sgnAt (txt z) = if z < 0 then 1 else 0 := by
  unfold sgnAt
  rw [byt_txt]
  by_cases hz : z < 0
  · rw [txtL_neg hz, if_pos hz]; rfl
  · rw [if_neg hz]
    by_cases h0 : z = 0
    · subst h0; rfl
    · rw [txtL_pos (by omega)]
      have := rev_head (n := z.natAbs) (by omega)
      rw [if_neg (by omega)]
theorem numS_txt (z : Int) : numS (txt z) = z := by
  unfold numS
  rw [sgnAt_txt]
  by_cases hz : z < 0
  · rw [if_pos hz]
    have hb : byt (txt z) 0 = 45 := by rw [byt_txt, txtL_neg hz]; rfl
    rw [hb, dvk_all (by rw [txt_len, txtL_neg hz]; simp), byts_txt, txtL_neg hz, List.drop_succ_cons, List.drop_zero, bv_decs]
    simp only [sg, decide_true, if_true]
    omega
  · rw [if_neg hz]
    have hb : ¬ byt (txt z) 0 = 45 := by
      intro h
      have := sgnAt_txt z
      unfold sgnAt at this
      rw [if_pos h, if_neg hz] at this
      cases this
    rw [decide_eq_false hb, dvk_all (by omega), byts_txt, List.drop_zero]
    by_cases h0 : z = 0
    · subst h0; rfl
    · rw [txtL_pos (by omega), bv_decs]
      simp only [sg, Bool.false_eq_true, if_false]
      omega
theorem ndig_pos (n : Nat) : 0 < ndig n := by
  unfold ndig
  split
  · decide
  · exact decs_ne (by omega)
theorem okS_txt {z : Int} (hf : Fit z) : OkS (txt z) := by
  have hs := sgnAt_txt z
  by_cases hz : z < 0
  · rw [if_pos hz] at hs
    have hn : ndig z.natAbs = (decs z.natAbs).length := by unfold ndig; rw [if_neg (by omega)]
    unfold Fit at hf
    have hp := decs_ne (n := z.natAbs) (by omega)
    have hh := rev_head (n := z.natAbs) (by omega)
    refine ⟨by rw [hs, txt_len, txtL_neg hz]; simp; omega, by rw [hs, txt_len, txtL_neg hz]; simp; omega, fun h => ?_, fun i h1 h2 => ?_⟩
    · rw [hs, byt_txt, txtL_neg hz, List.getD_cons_succ] at h
      exact hh.2.2 h.1
    · rw [hs] at h1
      rw [txt_len, txtL_neg hz] at h2
      rw [byt_txt, txtL_neg hz]
      obtain ⟨j, rfl⟩ : ∃ j, i = j + 1 := ⟨i - 1, by omega⟩
      rw [List.getD_cons_succ]
      have hj : j < (decs z.natAbs).reverse.length := by simpa using h2
      rw [List.getD_eq_getElem?_getD, List.getElem?_eq_getElem hj]
      exact decs_digB _ _ (List.mem_reverse.1 (List.getElem_mem hj))
  · rw [if_neg hz] at hs
    by_cases h0 : z = 0
    · subst h0
      refine ⟨by rw [hs]; decide, by rw [hs]; decide, by rw [hs]; decide, fun i h1 h2 => ?_⟩
      have : i = 0 := by rw [txt_zero] at h2; simp [ByteArray.size] at h2; omega
      subst this
      rw [txt_zero]
      decide
    · have hn : ndig z.natAbs = (decs z.natAbs).length := by unfold ndig; rw [if_neg (by omega)]
      unfold Fit at hf
      have hp := decs_ne (n := z.natAbs) (by omega)
      have hh := rev_head (n := z.natAbs) (by omega)
      refine ⟨by rw [hs, txt_len, txtL_pos (by omega)]; simpa using hp, by rw [hs, txt_len, txtL_pos (by omega)]; simp; omega, fun h => ?_, fun i h1 h2 => ?_⟩
      · rw [hs, byt_txt, txtL_pos (by omega)] at h
        exact hh.2.2 h.1
      · rw [txt_len, txtL_pos (by omega)] at h2
        rw [byt_txt, txtL_pos (by omega), List.getD_eq_getElem?_getD, List.getElem?_eq_getElem h2]
        exact decs_digB _ _ (List.mem_reverse.1 (List.getElem_mem h2))
theorem txt_numS {a : ByteArray} (h : OkS a) : txt (numS a) = a := by
  obtain ⟨o1, o2, o3, o4⟩ := h
  refine byts_inj ?_
  rw [byts_txt]
  have hdig : DigB ((byts a).drop (sgnAt a)) := fun x hx => by
    obtain ⟨i, hi, rfl⟩ := List.mem_iff_getElem.1 hx
    rw [List.length_drop, byts_len] at hi
    have := o4 (sgnAt a + i) (by omega) (by omega)
    rw [byt_byts, List.getD_eq_getElem?_getD, List.getElem?_eq_getElem (by rw [byts_len]; omega)] at this
    simpa using this
  have hnum : numS a = sg (decide (byt a 0 = 45)) (bv ((byts a).drop (sgnAt a))) := by unfold numS; rw [dvk_all (by omega)]
  have hhead : ∀ (x : Nat) (r : List Nat), (byts a).drop (sgnAt a) = x :: r → x = byt a (sgnAt a) := fun x r e => by
    rw [byt_byts]
    have := congrArg (·[0]?) e
    simp only [List.getElem?_drop, Nat.add_zero, List.getElem?_cons_zero] at this
    rw [List.getD_eq_getElem?_getD, this]
    rfl
  have hne : (byts a).drop (sgnAt a) ≠ [] := by
    intro e
    have := congrArg List.length e
    rw [List.length_drop, byts_len] at this
    simp at this
    omega
  by_cases hz : a.size = 1 ∧ byt a 0 = 48
  · have hs : sgnAt a = 0 := by unfold sgnAt; rw [if_neg (by omega)]
    have hb : byts a = [48] := by
      obtain ⟨x, r, e⟩ : ∃ x r, byts a = x :: r := by
        cases e : byts a with
        | nil => rw [hs, List.drop_zero] at hne; exact absurd e hne
        | cons x r => exact ⟨x, r, rfl⟩
      have hl := congrArg List.length e
      rw [byts_len] at hl
      have hx := hhead x r (by rw [hs]; exact e)
      rw [hs] at hx
      have : r = [] := List.eq_nil_of_length_eq_zero (by simp at hl; omega)
      rw [e, this, hx, hz.2]
    rw [hnum, hs, hb]
    have : ¬ byt a 0 = 45 := by omega
    rw [decide_eq_false this]
    decide
  · have hcan : decs (bv ((byts a).drop (sgnAt a))) = ((byts a).drop (sgnAt a)).reverse := by
      have := decs_bv ((byts a).drop (sgnAt a)).reverse (fun x hx => hdig x (List.mem_reverse.1 hx)) (fun b r e => by
        have e2 : (byts a).drop (sgnAt a) = b :: r.reverse := by
          have := congrArg List.reverse e
          simpa using this
        have hb := hhead b _ e2
        intro h48
        have hl := congrArg List.length e2
        rw [List.length_drop, byts_len] at hl
        simp at hl
        by_cases hsz : 1 < a.size
        · exact o3 ⟨by omega, hsz⟩
        · have : sgnAt a = 0 := by omega
          rw [this] at hb
          exact hz ⟨by omega, by omega⟩)
      rw [List.reverse_reverse] at this
      exact this
    have hpos : 0 < bv ((byts a).drop (sgnAt a)) := by
      rcases Nat.eq_zero_or_pos (bv ((byts a).drop (sgnAt a))) with h0 | h0
      · rw [h0, decs_zero] at hcan
        have := congrArg List.length hcan
        simp at this
        rw [byts_len] at this
        omega
      · exact h0
    rw [hnum]
    by_cases hneg : byt a 0 = 45
    · have hs : sgnAt a = 1 := if_pos hneg
      rw [decide_eq_true hneg, txtL_neg (by simp [sg]; omega)]
      have e1 : (sg true (bv ((byts a).drop (sgnAt a)))).natAbs = bv ((byts a).drop (sgnAt a)) := by simp [sg]
      rw [e1, hcan, List.reverse_reverse, hs]
      cases e : byts a with
      | nil => rw [e] at hne; simp at hne
      | cons x r =>
        have : x = 45 := by rw [← hneg, byt_byts, e]; rfl
        rw [this]; rfl
    · have hs : sgnAt a = 0 := if_neg hneg
      rw [decide_eq_false hneg, txtL_pos (by simp [sg]; omega)]
      have e1 : (sg false (bv ((byts a).drop (sgnAt a)))).natAbs = bv ((byts a).drop (sgnAt a)) := by simp [sg]
      rw [e1, hcan, List.reverse_reverse, hs, List.drop_zero]
theorem txt_inj {x y : Int} (h : txt x = txt y) : x = y := by rw [← numS_txt x, ← numS_txt y, h]
end Go.Mth

set_option linter.unusedVariables false
set_option linter.unusedSimpArgs false
namespace Go.Ab
open Go.Mth
theorem AV.le_nilc' {sz c : Nat} {xs : List AV} (h : 0 < sz) (e : xs = []) (e2 : c = 0) : AV.le (.lit (.slice none 0 0)) (.slc sz xs c) := by subst e; subst e2; exact AV.le_nilc h
def intC (z : Int) : AV := .agg [bp (z < 0), .slc 1 (ns .u32 (digs z.natAbs)) (digs z.natAbs).length]
theorem intC_of {a : AV} {l : List Nat} {c : Nat} {z : Int} (h : AV.agg [a, .sl 1 (ns .u32 l)] = intW z) (hc : c = l.length) : AV.agg [a, .slc 1 (ns .u32 l) c] = intC z := by
  unfold intW intK at h
  simp only [AV.agg.injEq, List.cons.injEq, AV.sl.injEq, and_true, true_and] at h
  have hl := congrArg List.length h.2
  simp only [ns_len] at hl
  unfold intC
  rw [h.1, h.2, hc, hl]
theorem trimc_fin {neg : Bool} {xs : List Nat} {n : Nat} (hx : Dig xs) (hn : n ≤ xs.length) (hv : val (xs.take n) = val xs) (h : n = 0 ∨ xs.getD (n - 1) 0 ≠ 0) :
    AV.agg [AV.lit (.bool (neg && decide (0 < n))), .slc 1 (ns .u32 ((xs.drop 0).take (n - 0))) (n - 0)] = intC (sg neg (val xs)) :=
  intC_of (trim_fin (k := .u32) hx hn hv h) (by rw [List.length_take, List.drop_zero, Nat.sub_zero]; omega)
theorem nc_sg {X n : Nat} (h : n = X) : AV.slc 1 (ns .u32 (digs (sg false n).natAbs)) (digs (sg false n).natAbs).length = AV.slc 1 (ns .u32 (digs X)) (digs X).length := by subst h; rw [sg_abs]
end Go.Ab
namespace Go.Mth
theorem times_step {r a : List Nat} {i c n t : Nat} (hl : r.length = i) (hv : val r + 1000000000 ^ i * c = val (a.take i) * n) (ht : t = a.getD i 0 * n + c) :
    val (r ++ [t % 1000000000]) + 1000000000 ^ (i + 1) * (t / 1000000000) = val (a.take (i + 1)) * n := by
  rw [val_snoc, val_take_succ, hl, Nat.add_assoc, carry, ht, Nat.add_mul, ← hv, Nat.mul_add, ← Nat.mul_assoc]
  omega
theorem times_fin {r : List Nat} {m n c i : Nat} (hi : i = (digs m).length) (hl : r.length = i) (hv : val r + 1000000000 ^ i * c = val ((digs m).take i) * n) : val (r ++ [c]) = m * n := by
  rw [val_snoc, hl, hv, hi, List.take_length, val_digs]
theorem set_zero {o : List Nat} {j : Nat} (h : o.getD j 0 = 0) : o.set j 0 = o := by
  apply List.ext_getElem?
  intro k
  rw [List.getElem?_set]
  split
  · rename_i e; subst e
    split
    · rename_i hl
      rw [List.getD_eq_getElem?_getD, List.getElem?_eq_getElem hl] at h
      rw [List.getElem?_eq_getElem hl]
      exact congrArg some (by simpa using h.symm)
    · rename_i hl; rw [List.getElem?_eq_none (by omega)]
  · rfl
theorem getD_set_off {o : List Nat} {j k v : Nat} (h : j ≠ k) : (o.set j v).getD k 0 = o.getD k 0 := by
  rw [List.getD_eq_getElem?_getD, List.getD_eq_getElem?_getD, List.getElem?_set_ne h]
theorem quo_top {a b r : Nat} (ha : a < 1000000000) (hr : r < b) : a + 1000000000 * r < b * 1000000000 := by
  have : 1000000000 * r + 1000000000 ≤ 1000000000 * b := by
    have := Nat.mul_le_mul_left 1000000000 (show r + 1 ≤ b by omega)
    omega
  omega
theorem quo_at {X n l : Nat} (h1 : n * l ≤ X) (h2 : X < n * (l + 1)) : X / n = l ∧ X % n = X - n * l := by
  have hn : 0 < n := by rcases Nat.eq_zero_or_pos n with e | e; subst e; simp at h2; exact e
  have hq : X / n = l := by
    apply Nat.le_antisymm
    · exact Nat.le_of_lt_succ ((Nat.div_lt_iff_lt_mul hn).2 (by rw [Nat.mul_comm]; exact h2))
    · exact (Nat.le_div_iff_mul_le hn).2 (by rw [Nat.mul_comm]; exact h1)
  refine ⟨hq, ?_⟩
  have := Nat.div_add_mod X n
  rw [hq] at this
  omega
theorem cmpN_le {m n : Nat} (h : cmpN m n ≤ 0) : m ≤ n := by unfold cmpN at h; split at h; omega; split at h <;> omega
theorem cmpN_nle {m n : Nat} (h : ¬ cmpN m n ≤ 0) : n < m := by unfold cmpN at h; split at h; omega; split at h <;> omega
theorem cmpN_neg {m n : Nat} (h : cmpN m n < 0) : m < n := by unfold cmpN at h; split at h; omega; split at h <;> omega
theorem cmpN_nneg {m n : Nat} (h : ¬ cmpN m n < 0) : n ≤ m := by unfold cmpN at h; split at h; omega; split at h <;> omega
theorem quo_skip {a o : List Nat} {j n r : Nat} (hj : j < a.length) (hl : o.length = a.length) (hv : val (a.drop (j + 1)) = n * val (o.drop (j + 1)) + r) (hz : o.getD j 0 = 0) (hX : a.getD j 0 + 1000000000 * r < n) :
    val (a.drop j) = n * val (o.drop j) + (a.getD j 0 + 1000000000 * r) := by
  have h := div_step hj hl (show 0 < n by omega) hv (x := a.getD j 0 + 1000000000 * r) (by omega)
  rw [Nat.div_eq_of_lt hX, Nat.mod_eq_of_lt hX, set_zero hz] at h
  exact h
theorem quo_put {a o : List Nat} {j n r l : Nat} (hj : j < a.length) (hl : o.length = a.length) (hv : val (a.drop (j + 1)) = n * val (o.drop (j + 1)) + r) (h1 : n * l ≤ a.getD j 0 + 1000000000 * r) (h2 : a.getD j 0 + 1000000000 * r < n * (l + 1)) :
    val (a.drop j) = n * val ((o.set j l).drop j) + (a.getD j 0 + 1000000000 * r - n * l) := by
  have hn : 0 < n := by rcases Nat.eq_zero_or_pos n with e | e; subst e; simp at h2; exact e
  have h := div_step hj hl hn hv (x := a.getD j 0 + 1000000000 * r) (by omega)
  have hq := quo_at h1 h2
  rw [hq.1, hq.2] at h
  exact h
theorem quo_rest {X n l : Nat} (h1 : n * l ≤ X) (h2 : X < n * (l + 1)) : X - n * l < n := by rw [Nat.mul_add] at h2; omega
theorem digs_len_mod (m : Nat) {n : Nat} (hn : 0 < n) : (digs (m % n)).length ≤ (digs n).length := digs_len_le (Nat.le_of_lt (Nat.mod_lt m hn))
theorem digs_mul_len (m n : Nat) : (digs (m * n)).length ≤ (digs m).length + (digs n).length := by
  apply digs_len_of_lt
  rw [Nat.pow_add]
  have h1 := digs_hi m
  have h2 := digs_hi n
  rcases Nat.eq_zero_or_pos n with e | e
  · subst e; rw [Nat.mul_zero]; exact Nat.mul_pos (by omega) (by omega)
  · exact Nat.lt_of_lt_of_le (Nat.mul_lt_mul_of_pos_right h1 e) (Nat.mul_le_mul_left _ (Nat.le_of_lt h2))
theorem dgn_val (k n : Nat) (h : n < 1000000000 ^ k) : val (dgn k n) = n := by rw [val_dgn, Nat.mod_eq_of_lt h]
theorem val_quo (m n : Nat) : val (dgn (digs m).length (m / n)) = m / n := dgn_val _ _ (Nat.lt_of_le_of_lt (Nat.div_le_self m n) (digs_hi m))
end Go.Mth

set_option linter.unusedVariables false
set_option linter.unusedSimpArgs false
namespace Go.Proofs.YtpamhblonmpniaaGreatDoor
open Go Go.Ab Go.Mth
theorem Wr_tO89 : tyZero cx.P 89 = some [(Go.Value.bool false), (Go.Value.slice none 0 0)] := by kernel_rfl
theorem Wr_tU87 : cx.P.underlying 87 = some (.slice 111) := by kernel_rfl
theorem Wr_tE87 : tyElem cx.P 87 = some (111, 1, 4) := by kernel_rfl
theorem Wr_tS111 : tySc cx.P 111 = true := by kernel_rfl
theorem Wr_tP89 : tyPlaces cx.P 89 = some (fun i => (#[(0, 1), (1, 1)] : Array (Nat × Nat))[i]?) := by kernel_rfl
theorem Wr_tZ89 : tySize cx.P 89 = some 2 := by kernel_rfl
theorem Wr_tA89 : tyAgg cx.P 89 = some 2 := by kernel_rfl
theorem Wr_tO111 : tyZero cx.P 111 = some [(Go.Value.int IntKind.u32 0)] := by kernel_rfl
theorem Wr_tI111 : tyInt cx.P 111 = some .u32 := by kernel_rfl
theorem Wr_tI106 : tyInt cx.P 106 = some .u64 := by kernel_rfl
theorem Wr_tC69 : callable cx.P 69 = true := by kernel_rfl
theorem Wr_tF89_1 : tyField cx.P 89 1 = some (1, 87) := by kernel_rfl
theorem Wr_tS87 : tySc cx.P 87 = true := by kernel_rfl
theorem Wr_tC83 : callable cx.P 83 = true := by kernel_rfl
theorem Wr_tC84 : callable cx.P 84 = true := by kernel_rfl
theorem Wr_tC85 : callable cx.P 85 = true := by kernel_rfl
theorem Wr_tZ111 : tySize cx.P 111 = some 1 := by kernel_rfl
theorem Wr_tC86 : callable cx.P 86 = true := by kernel_rfl
theorem c_wTrimX (neg : Bool) (xs : List Nat) (hx : Dig xs) : ECalls cx 69 [(AV.lit (.bool (neg))), (AV.sl 1 (ns .u32 (xs)))] (intC (sg neg (val xs))) := by
  refine ecalls_of_awp Tryz.func69 (c := _) rfl (Nat.le_of_ble_eq_true rfl) ?_
  show awp cx 30 _ (postF cx Tryz.f69 _) ⟨[(0, (AV.lit (.bool (neg)))), (1, (AV.sl 1 (ns .u32 (xs))))], []⟩
  refine awp_bound (i := 1) rfl fun hb => ?_
  replace hb := n_bnd hb
  refine awp_seq fun K0 hK0 => ?_
  refine awp_region rfl ?_
  refine o_alloc 2 [(AV.lit (.bool false)), (AV.lit (.slice none 0 0))] Gd.none Wr_tO89 rfl rfl rfl ?_
  refine aops_end ?_
  refine hK0 _ ?_
  refine awp_seq fun K1 hK1 => ?_
  refine awp_region rfl ?_
  refine o_mv (AV.sl 1 (ns .u32 (xs))) rfl ?_
  refine n_len (xs) Gd.none Wr_tU87 rfl ?_
  refine o_as (nm .i64 ((xs).length)) rfl ?_
  refine aops_end ?_
  refine hK1 _ ?_
  refine awp_seq fun K2 hK2 => ?_
  refine awp_block ?_
  refine awp_loopR (fun κ σ => ∃ (n : Nat), (n ≤ xs.length) ∧ (val (xs.take n) = val xs) ∧ (n) = κ ∧ σ = ⟨[(0, (AV.lit (.bool (neg)))), (1, (AV.sl 1 (ns .u32 (xs)))), (4, (AV.ref 2 (0))), (5, (nm .i64 (n)))], [(2, (AO.var 89 [(AV.lit (.bool false)), (AV.lit (.slice none 0 0))]))]⟩) ⟨_, _, ⟨xs.length, (Nat.le_refl _), (by rw [List.take_length]), rfl, rfl⟩, ?wk0⟩ ?rd0
  case wk0 =>
    exact Wk.sub (And.intro rfl (And.intro rfl (And.intro rfl (And.intro (by first | rfl | exact congrArg (nm _) (by omega) | exact nm_int (by omega) | exact nm_int (by simp [IntKind.wrap, IntKind.bits, IntKind.signed]; omega)) (trivial))))) (And.intro rfl (trivial))
  rintro κ _ ⟨n, hn, hv, rfl, rfl⟩
  refine awp_seq fun K3 hK3 => ?_
  refine awp_seq fun K4 hK4 => ?_
  refine awp_region rfl ?_
  refine o_mv (nm .i64 (n)) rfl ?_
  refine n_gtr (n) (0) Gd.none rfl rfl ?_
  refine o_mv (bp ((0) < (n))) rfl ?_
  refine o_splitP (q := (0) < (n)) 10 rfl (fun h1 => ?_) (fun h1 => ?_)
  · refine o_move (AV.sl 1 (ns .u32 (xs))) (Gd.yes rfl rfl (decide_eq_true h1)) rfl ?_
    refine o_move (nm .i64 (n)) (Gd.yes rfl rfl (decide_eq_true h1)) rfl ?_
    refine n_sub (n) (1) (Gd.yes rfl rfl (decide_eq_true h1)) rfl rfl (by omega) (by simp only [topOf]; omega) ?_
    refine n_index (xs) ((n) - (1)) (Gd.yes rfl rfl (decide_eq_true h1)) Wr_tE87 rfl rfl (by omega) ?_
    refine n_loadI (xs) ((n) - (1)) (Gd.yes rfl rfl (decide_eq_true h1)) Wr_tS111 rfl (by omega) ?_
    refine n_eql ((xs).getD ((n) - (1)) 0) (0) (Gd.yes rfl rfl (decide_eq_true h1)) rfl rfl ?_
    refine o_pickT (bp (((xs).getD ((n) - (1)) 0) = (0))) Gd.none rfl (decide_eq_true h1) rfl ?_
    refine aops_end ?_
    refine hK4 _ ?_
    refine awp_condQ (q := ((xs).getD ((n) - (1)) 0) = (0)) rfl (fun h2 => ?_) (fun h2 => ?_)
    · refine awp_skip ?_
      refine hK3 _ ?_
      refine awp_block ?_
      refine awp_region rfl ?_
      refine o_mv (nm .i64 (n)) rfl ?_
      refine n_sub (n) (1) Gd.none rfl rfl (by omega) (by simp only [topOf]; omega) ?_
      refine o_as (nm .i64 ((n) - (1))) rfl ?_
      refine aops_end ?_
      refine ⟨_, _, ?lt, ⟨n - 1, (by omega), (by rw [← take_getD_zero (by assumption) hn (by assumption)]; exact hv), rfl, rfl⟩, ?wk⟩
      case lt => omega
      case wk => exact Wk.sub (And.intro rfl (And.intro rfl (And.intro rfl (And.intro (by first | rfl | exact congrArg (nm _) (by omega) | exact nm_int (by omega) | exact nm_int (by simp [IntKind.wrap, IntKind.bits, IntKind.signed]; omega)) (trivial))))) (And.intro rfl (trivial))
    · refine awp_exit ?_
      refine hK2 _ ?_
      refine awp_seq fun K5 hK5 => ?_
      refine awp_region rfl ?_
      refine o_mv (AV.lit (.bool (neg))) rfl ?_
      refine o_mv (AV.lit (.bool (neg))) rfl ?_
      refine o_split (b := neg) 21 rfl (fun h3 => ?_) (fun h3 => ?_)
      · refine o_move (nm .i64 (n)) (Gd.yes rfl rfl h3) rfl ?_
        refine n_gtr (n) (0) (Gd.yes rfl rfl h3) rfl rfl ?_
        refine o_pickT (bp ((0) < (n))) Gd.none rfl h3 rfl ?_
        refine o_mv (AV.sl 1 (ns .u32 (xs))) rfl ?_
        refine o_mv (nm .i64 (n)) rfl ?_
        refine o_mv (nm .i64 (n)) rfl ?_
        refine n_sliceX (xs) (0) (n) Gd.none Wr_tE87 rfl rfl (hi_nm rfl) (mx_nm rfl) rfl (by omega) (by omega) ?_
        refine o_build [(bp ((0) < (n))), (AV.slc 1 (ns .u32 (((xs).drop (0)).take (n - 0))) (n - 0))] [(0, [(bp ((0) < (n)))]), (1, [(AV.slc 1 (ns .u32 (((xs).drop (0)).take (n - 0))) (n - 0))])] Gd.none Wr_tP89 Wr_tO89 rfl rfl rfl ?_
        refine o_store [(2, (AO.var 89 [(bp ((0) < (n))), (AV.slc 1 (ns .u32 (((xs).drop (0)).take (n - 0))) (n - 0))]))] Gd.none Wr_tZ89 rfl rfl rfl rfl rfl rfl ?_
        refine aops_end ?_
        refine hK5 _ ?_
        refine awp_ret ?_
        refine post_ret ⟨[(AV.agg [(bp ((0) < (n))), (AV.slc 1 (ns .u32 (((xs).drop (0)).take (n - 0))) (n - 0))])], And.intro ⟨2, (AO.var 89 [(bp ((0) < (n))), (AV.slc 1 (ns .u32 (((xs).drop (0)).take (n - 0))) (n - 0))]), rfl, rfl, rfl, Or.inl ⟨Wr_tA89, AV.le_refl _⟩⟩ (trivial), rfl, ?_⟩
        subst h3
        exact (trimc_fin (neg := true) hx hn hv (by first | (left; omega) | (right; assumption))).symm
      · refine o_skip rfl rfl h3 ?_
        refine o_skip rfl rfl h3 ?_
        refine o_pickF (AV.lit (.bool false)) Gd.none rfl h3 rfl ?_
        refine o_mv (AV.sl 1 (ns .u32 (xs))) rfl ?_
        refine o_mv (nm .i64 (n)) rfl ?_
        refine o_mv (nm .i64 (n)) rfl ?_
        refine n_sliceX (xs) (0) (n) Gd.none Wr_tE87 rfl rfl (hi_nm rfl) (mx_nm rfl) rfl (by omega) (by omega) ?_
        refine o_build [(AV.lit (.bool false)), (AV.slc 1 (ns .u32 (((xs).drop (0)).take (n - 0))) (n - 0))] [(0, [(AV.lit (.bool false))]), (1, [(AV.slc 1 (ns .u32 (((xs).drop (0)).take (n - 0))) (n - 0))])] Gd.none Wr_tP89 Wr_tO89 rfl rfl rfl ?_
        refine o_store [(2, (AO.var 89 [(AV.lit (.bool false)), (AV.slc 1 (ns .u32 (((xs).drop (0)).take (n - 0))) (n - 0))]))] Gd.none Wr_tZ89 rfl rfl rfl rfl rfl rfl ?_
        refine aops_end ?_
        refine hK5 _ ?_
        refine awp_ret ?_
        refine post_ret ⟨[(AV.agg [(AV.lit (.bool false)), (AV.slc 1 (ns .u32 (((xs).drop (0)).take (n - 0))) (n - 0))])], And.intro ⟨2, (AO.var 89 [(AV.lit (.bool false)), (AV.slc 1 (ns .u32 (((xs).drop (0)).take (n - 0))) (n - 0))]), rfl, rfl, rfl, Or.inl ⟨Wr_tA89, AV.le_refl _⟩⟩ (trivial), rfl, ?_⟩
        subst h3
        exact (trimc_fin (neg := false) hx hn hv (by first | (left; omega) | (right; assumption))).symm
  · refine o_skip rfl rfl (decide_eq_false h1) ?_
    refine o_skip rfl rfl (decide_eq_false h1) ?_
    refine o_skip rfl rfl (decide_eq_false h1) ?_
    refine o_skip rfl rfl (decide_eq_false h1) ?_
    refine o_skip rfl rfl (decide_eq_false h1) ?_
    refine o_skip rfl rfl (decide_eq_false h1) ?_
    refine o_pickF (AV.lit (.bool false)) Gd.none rfl (decide_eq_false h1) rfl ?_
    refine aops_end ?_
    refine hK4 _ ?_
    refine awp_condB (b := false) rfl (fun hh => absurd (hh.symm.trans rfl) (by decide)) (fun _ => ?_)
    refine awp_exit ?_
    refine hK2 _ ?_
    refine awp_seq fun K6 hK6 => ?_
    refine awp_region rfl ?_
    refine o_mv (AV.lit (.bool (neg))) rfl ?_
    refine o_mv (AV.lit (.bool (neg))) rfl ?_
    refine o_split (b := neg) 21 rfl (fun h4 => ?_) (fun h4 => ?_)
    · refine o_move (nm .i64 (n)) (Gd.yes rfl rfl h4) rfl ?_
      refine n_gtr (n) (0) (Gd.yes rfl rfl h4) rfl rfl ?_
      refine o_pickT (bp ((0) < (n))) Gd.none rfl h4 rfl ?_
      refine o_mv (AV.sl 1 (ns .u32 (xs))) rfl ?_
      refine o_mv (nm .i64 (n)) rfl ?_
      refine o_mv (nm .i64 (n)) rfl ?_
      refine n_sliceX (xs) (0) (n) Gd.none Wr_tE87 rfl rfl (hi_nm rfl) (mx_nm rfl) rfl (by omega) (by omega) ?_
      refine o_build [(bp ((0) < (n))), (AV.slc 1 (ns .u32 (((xs).drop (0)).take (n - 0))) (n - 0))] [(0, [(bp ((0) < (n)))]), (1, [(AV.slc 1 (ns .u32 (((xs).drop (0)).take (n - 0))) (n - 0))])] Gd.none Wr_tP89 Wr_tO89 rfl rfl rfl ?_
      refine o_store [(2, (AO.var 89 [(bp ((0) < (n))), (AV.slc 1 (ns .u32 (((xs).drop (0)).take (n - 0))) (n - 0))]))] Gd.none Wr_tZ89 rfl rfl rfl rfl rfl rfl ?_
      refine aops_end ?_
      refine hK6 _ ?_
      refine awp_ret ?_
      refine post_ret ⟨[(AV.agg [(bp ((0) < (n))), (AV.slc 1 (ns .u32 (((xs).drop (0)).take (n - 0))) (n - 0))])], And.intro ⟨2, (AO.var 89 [(bp ((0) < (n))), (AV.slc 1 (ns .u32 (((xs).drop (0)).take (n - 0))) (n - 0))]), rfl, rfl, rfl, Or.inl ⟨Wr_tA89, AV.le_refl _⟩⟩ (trivial), rfl, ?_⟩
      subst h4
      exact (trimc_fin (neg := true) hx hn hv (by first | (left; omega) | (right; assumption))).symm
    · refine o_skip rfl rfl h4 ?_
      refine o_skip rfl rfl h4 ?_
      refine o_pickF (AV.lit (.bool false)) Gd.none rfl h4 rfl ?_
      refine o_mv (AV.sl 1 (ns .u32 (xs))) rfl ?_
      refine o_mv (nm .i64 (n)) rfl ?_
      refine o_mv (nm .i64 (n)) rfl ?_
      refine n_sliceX (xs) (0) (n) Gd.none Wr_tE87 rfl rfl (hi_nm rfl) (mx_nm rfl) rfl (by omega) (by omega) ?_
      refine o_build [(AV.lit (.bool false)), (AV.slc 1 (ns .u32 (((xs).drop (0)).take (n - 0))) (n - 0))] [(0, [(AV.lit (.bool false))]), (1, [(AV.slc 1 (ns .u32 (((xs).drop (0)).take (n - 0))) (n - 0))])] Gd.none Wr_tP89 Wr_tO89 rfl rfl rfl ?_
      refine o_store [(2, (AO.var 89 [(AV.lit (.bool false)), (AV.slc 1 (ns .u32 (((xs).drop (0)).take (n - 0))) (n - 0))]))] Gd.none Wr_tZ89 rfl rfl rfl rfl rfl rfl ?_
      refine aops_end ?_
      refine hK6 _ ?_
      refine awp_ret ?_
      refine post_ret ⟨[(AV.agg [(AV.lit (.bool false)), (AV.slc 1 (ns .u32 (((xs).drop (0)).take (n - 0))) (n - 0))])], And.intro ⟨2, (AO.var 89 [(AV.lit (.bool false)), (AV.slc 1 (ns .u32 (((xs).drop (0)).take (n - 0))) (n - 0))]), rfl, rfl, rfl, Or.inl ⟨Wr_tA89, AV.le_refl _⟩⟩ (trivial), rfl, ?_⟩
      subst h4
      exact (trimc_fin (neg := false) hx hn hv (by first | (left; omega) | (right; assumption))).symm

theorem c_wTimes (m n : Nat) (hm : (digs m).length ≤ 1000000000) (hn : n < 1000000000) : ECalls cx 85 [(AV.sl 1 (ns .u32 (digs m))), (nm .u64 (n))] (.sl 1 (ns .u32 (digs (m * n)))) := by
  refine ecalls_of_awp Tryz.func85 (c := _) rfl (Nat.le_of_ble_eq_true rfl) ?_
  show awp cx 42 _ (postF cx Tryz.f85 _) ⟨[(0, (AV.sl 1 (ns .u32 (digs m)))), (1, (nm .u64 (n)))], []⟩
  refine awp_bound (i := 0) rfl fun hb => ?_
  replace hb := n_bnd hb
  refine awp_seq fun K0 hK0 => ?_
  refine awp_region rfl ?_
  refine o_as (AV.lit (.slice none 0 0)) rfl ?_
  refine aops_end ?_
  refine hK0 _ ?_
  refine awp_seq fun K1 hK1 => ?_
  refine awp_region rfl ?_
  refine o_mv (AV.sl 1 (ns .u32 (digs m))) rfl ?_
  refine n_len (digs m) Gd.none Wr_tU87 rfl ?_
  refine n_add ((digs m).length) (1) Gd.none rfl rfl (by simp only [topOf]; omega) ?_
  refine n_make0 .u32 2 (((digs m).length) + (1)) Gd.none Wr_tE87 Wr_tO111 rfl rfl (by omega) (by omega) rfl ?_
  refine o_as (AV.row 2) rfl ?_
  refine aops_end ?_
  refine hK1 _ ?_
  refine awp_seq fun K2 hK2 => ?_
  refine awp_region rfl ?_
  refine o_as (nm .u64 (0)) rfl ?_
  refine aops_end ?_
  refine hK2 _ ?_
  refine awp_seq fun K3 hK3 => ?_
  refine awp_seq fun K4 hK4 => ?_
  refine awp_region rfl ?_
  refine o_mv (AV.sl 1 (ns .u32 (digs m))) rfl ?_
  refine n_len (digs m) Gd.none Wr_tU87 rfl ?_
  refine o_mv (nm .i64 (0)) rfl ?_
  refine aops_end ?_
  refine hK4 _ ?_
  refine awp_block ?_
  refine awp_loopR (fun κ σ => ∃ (i : Nat), ∃ (r : List Nat), ∃ (c : Nat), (r.length = i) ∧ (i ≤ (digs m).length) ∧ (Dig r) ∧ (c < 1000000000) ∧ (val r + 1000000000 ^ i * c = val ((digs m).take i) * n) ∧ ((digs m).length - i) = κ ∧ σ = ⟨[(1, (nm .u64 (n))), (5, (AV.row 3)), (6, (nm .u64 (c))), (14, (AV.sl 1 (ns .u32 (digs m)))), (15, (nm .i64 ((digs m).length))), (16, (nm .i64 (i)))], [(3, (AO.row 111 1 (ns .u32 (r))))]⟩) ⟨_, _, ⟨0, [], 0, rfl, (by omega), Dig.nil, (by omega), (by simp [val]), rfl, rfl⟩, ?wk0⟩ ?rd0
  case wk0 =>
    exact Wk.trans (Wk.sub (σ' := ⟨[(1, (nm .u64 (n))), (5, (AV.row 2)), (6, (nm .u64 (0))), (14, (AV.sl 1 (ns .u32 (digs m)))), (15, (nm .i64 ((digs m).length))), (16, (nm .i64 (0)))], [(2, (AO.row 111 1 (ns .u32 ([]))))]⟩) (And.intro rfl (And.intro rfl (And.intro rfl (And.intro rfl (And.intro rfl (And.intro rfl (trivial))))))) (And.intro rfl (trivial))) (Wk.trans (Wk.ren (id := 2) (id' := 3) rfl) (Wk.sub (And.intro rfl (And.intro (by first | rfl | (simp)) (And.intro (by first | rfl | exact congrArg (nm _) (by omega) | exact nm_int (by omega) | exact nm_int (by simp [IntKind.wrap, IntKind.bits, IntKind.signed]; omega)) (And.intro rfl (And.intro rfl (And.intro (by first | rfl | exact congrArg (nm _) (by omega) | exact nm_int (by omega) | exact nm_int (by simp [IntKind.wrap, IntKind.bits, IntKind.signed]; omega)) (trivial))))))) (And.intro (by first | rfl | exact row_ns (by simp)) (trivial))))
  rintro κ _ ⟨i, r, c, hl, hi, hd, hc, hv, rfl, rfl⟩
  have hA := Dig.getD (digs_dig m) i
  have hAn : ((digs m).getD (i) 0) * n ≤ 999999999 * 999999999 := Nat.mul_le_mul (by omega) (by omega)
  refine awp_seq fun K5 hK5 => ?_
  refine awp_region rfl ?_
  refine n_lss (i) ((digs m).length) Gd.none rfl rfl ?_
  refine aops_end ?_
  refine hK5 _ ?_
  refine awp_seq fun K6 hK6 => ?_
  refine awp_condQ (q := (i) < ((digs m).length)) rfl (fun h1 => ?_) (fun h1 => ?_)
  · refine awp_skip ?_
    refine hK6 _ ?_
    refine awp_seq fun K7 hK7 => ?_
    refine awp_block ?_
    refine awp_seq fun K8 hK8 => ?_
    refine awp_region rfl ?_
    refine n_index (digs m) (i) Gd.none Wr_tE87 rfl rfl (by omega) ?_
    refine n_loadI (digs m) (i) Gd.none Wr_tS111 rfl (by omega) ?_
    refine o_as (nm .u32 ((digs m).getD (i) 0)) rfl ?_
    refine aops_end ?_
    refine hK8 _ ?_
    refine awp_seq fun K9 hK9 => ?_
    refine awp_region rfl ?_
    refine o_mv (nm .u32 ((digs m).getD (i) 0)) rfl ?_
    refine n_conv ((digs m).getD (i) 0) Gd.none rfl Wr_tI111 Wr_tI106 (by simp only [topOf]; omega) ?_
    refine o_mv (nm .u64 (n)) rfl ?_
    refine n_mul ((digs m).getD (i) 0) (n) Gd.none rfl rfl (by simp only [topOf]; omega) ?_
    refine o_mv (nm .u64 (c)) rfl ?_
    refine n_add (((digs m).getD (i) 0) * (n)) (c) Gd.none rfl rfl (by simp only [topOf]; omega) ?_
    refine o_as (nm .u64 ((((digs m).getD (i) 0) * (n)) + (c))) rfl ?_
    refine aops_end ?_
    refine hK9 _ ?_
    refine awp_seq fun K10 hK10 => ?_
    refine awp_region rfl ?_
    refine o_mv (AV.row 3) rfl ?_
    refine o_mv (nm .u64 ((((digs m).getD (i) 0) * (n)) + (c))) rfl ?_
    refine n_rem ((((digs m).getD (i) 0) * (n)) + (c)) (1000000000) Gd.none rfl rfl (by omega) ?_
    refine n_conv (((((digs m).getD (i) 0) * (n)) + (c)) % (1000000000)) Gd.none rfl Wr_tI106 Wr_tI111 (by simp only [topOf]; omega) ?_
    refine o_buildSlice 101 (ns .u32 ([((((digs m).getD (i) 0) * (n)) + (c)) % (1000000000)])) [(0, [(nm .u32 (((((digs m).getD (i) 0) * (n)) + (c)) % (1000000000)))])] Gd.none Wr_tE87 rfl Wr_tO111 rfl rfl rfl rfl rfl rfl rfl ?_
    refine n_append 102 (r) ([((((digs m).getD (i) 0) * (n)) + (c)) % (1000000000)]) [(101, (AO.row 111 1 (ns .u32 ([((((digs m).getD (i) 0) * (n)) + (c)) % (1000000000)]))))] Gd.none Wr_tE87 Wr_tO111 rfl rfl rfl rfl rfl (by simp only [List.length_append, List.length_cons, List.length_nil]; omega) (by decide) rfl rfl ?_
    refine o_as (AV.row 102) rfl ?_
    refine aops_end ?_
    refine hK10 _ ?_
    refine awp_region rfl ?_
    refine o_mv (nm .u64 ((((digs m).getD (i) 0) * (n)) + (c))) rfl ?_
    refine n_quo ((((digs m).getD (i) 0) * (n)) + (c)) (1000000000) Gd.none rfl rfl (by omega) (by simp only [topOf]; omega) ?_
    refine o_as (nm .u64 (((((digs m).getD (i) 0) * (n)) + (c)) / (1000000000))) rfl ?_
    refine aops_end ?_
    refine hK7 _ ?_
    refine awp_region rfl ?_
    refine n_add (i) (1) Gd.none rfl rfl (by simp only [topOf]; omega) ?_
    refine o_mv (nm .i64 ((i) + (1))) rfl ?_
    refine aops_end ?_
    refine ⟨_, _, ?lt, ⟨i + 1, (r) ++ ([((((digs m).getD (i) 0) * (n)) + (c)) % (1000000000)]), ((((digs m).getD (i) 0) * (n)) + (c)) / (1000000000), (by simp [hl]), (by omega), (hd.snoc (Nat.mod_lt _ (by decide))), (by omega), (times_step hl hv rfl), rfl, rfl⟩, ?wk⟩
    case lt => omega
    case wk => exact Wk.trans (Wk.sub (σ' := ⟨[(1, (nm .u64 (n))), (5, (AV.row 102)), (6, (nm .u64 (((((digs m).getD (i) 0) * (n)) + (c)) / (1000000000)))), (14, (AV.sl 1 (ns .u32 (digs m)))), (15, (nm .i64 ((digs m).length))), (16, (nm .i64 ((i) + (1))))], [(102, (AO.row 111 1 (ns .u32 ((r) ++ ([((((digs m).getD (i) 0) * (n)) + (c)) % (1000000000)])))))]⟩) (And.intro rfl (And.intro rfl (And.intro rfl (And.intro rfl (And.intro rfl (And.intro rfl (trivial))))))) (And.intro rfl (trivial))) (Wk.trans (Wk.ren (id := 102) (id' := 3) rfl) (Wk.sub (And.intro rfl (And.intro (by first | rfl | (simp)) (And.intro (by first | rfl | exact congrArg (nm _) (by omega) | exact nm_int (by omega) | exact nm_int (by simp [IntKind.wrap, IntKind.bits, IntKind.signed]; omega)) (And.intro rfl (And.intro rfl (And.intro (by first | rfl | exact congrArg (nm _) (by omega) | exact nm_int (by omega) | exact nm_int (by simp [IntKind.wrap, IntKind.bits, IntKind.signed]; omega)) (trivial))))))) (And.intro (by first | rfl | exact row_ns (by simp)) (trivial))))
  · refine awp_exit ?_
    refine hK3 _ ?_
    refine awp_seq fun K11 hK11 => ?_
    refine awp_region rfl ?_
    refine o_mv (AV.row 3) rfl ?_
    refine o_mv (nm .u64 (c)) rfl ?_
    refine n_conv (c) Gd.none rfl Wr_tI106 Wr_tI111 (by simp only [topOf]; omega) ?_
    refine o_buildSlice 101 (ns .u32 ([c])) [(0, [(nm .u32 (c))])] Gd.none Wr_tE87 rfl Wr_tO111 rfl rfl rfl rfl rfl rfl rfl ?_
    refine n_append 102 (r) ([c]) [(101, (AO.row 111 1 (ns .u32 ([c]))))] Gd.none Wr_tE87 Wr_tO111 rfl rfl rfl rfl rfl (by simp only [List.length_append, List.length_cons, List.length_nil]; omega) (by decide) rfl rfl ?_
    refine o_callG [(102, 1, (ns .u32 ((r) ++ ([c]))))] [(AV.lit (.bool false)), (AV.sl 1 (ns .u32 ((r) ++ ([c]))))] _ (intW ((sg (false) (val ((r) ++ ([c])))))) [(101, (AO.row 111 1 (ns .u32 ([c]))))] Gd.none Wr_tC69 rfl (And.intro ⟨_, rfl⟩ (trivial)) rfl rfl (LeL.cons (AV.le_refl _) (LeL.cons (AV.le_refl _) (LeL.nil))) (c_wTrim (false) ((r) ++ ([c])) (by first | assumption | exact dgn_dig _ _ | exact digs_dig _ | exact Dig.snoc (by assumption) (by assumption) | exact Dig.cons (by omega) (digs_dig _))) rfl ?_
    refine o_fieldS (AV.sl 1 (ns .u32 (digs ((sg (false) (val ((r) ++ ([c]))))).natAbs))) Gd.none Wr_tF89_1 Wr_tS87 rfl rfl ?_
    refine o_as (AV.sl 1 (ns .u32 (digs ((sg (false) (val ((r) ++ ([c]))))).natAbs))) rfl ?_
    refine aops_end ?_
    refine hK11 _ ?_
    refine awp_ret ?_
    refine post_ret ⟨[(AV.sl 1 (ns .u32 (digs ((sg (false) (val ((r) ++ ([c]))))).natAbs)))], And.intro (AV.le_refl _) (trivial), rfl, ?_⟩
    refine ns_congr ?_
    rw [sg_abs, times_fin (by omega) hl hv]

theorem c_wQuot (m n : Nat) (hn0 : 0 < n) (hm : (digs m).length ≤ 900000000) (hn : (digs n).length ≤ 900000000) : ECalls cx 73 [(AV.sl 1 (ns .u32 (digs m))), (AV.sl 1 (ns .u32 (digs n)))] (.tup [.sl 1 (ns .u32 (dgn (digs m).length (m / n))), .sl 1 (ns .u32 (digs (m % n)))]) := by
  refine ecalls_of_awp Tryz.func73 (c := _) rfl (Nat.le_of_ble_eq_true rfl) ?_
  show awp cx 65 _ (postF cx Tryz.f73 _) ⟨[(0, (AV.sl 1 (ns .u32 (digs m)))), (1, (AV.sl 1 (ns .u32 (digs n))))], []⟩
  refine awp_bound (i := 0) rfl fun hb => ?_
  replace hb := n_bnd hb
  refine awp_bound (i := 1) rfl fun hb2 => ?_
  replace hb2 := n_bnd hb2
  refine awp_seq fun K0 hK0 => ?_
  refine awp_region rfl ?_
  refine o_as (AV.lit (.slice none 0 0)) rfl ?_
  refine o_as (AV.lit (.slice none 0 0)) rfl ?_
  refine aops_end ?_
  refine hK0 _ ?_
  refine awp_seq fun K1 hK1 => ?_
  refine awp_region rfl ?_
  refine o_mv (AV.sl 1 (ns .u32 (digs m))) rfl ?_
  refine n_len (digs m) Gd.none Wr_tU87 rfl ?_
  refine n_make 2 ((digs m).length) Gd.none Wr_tE87 Wr_tO111 rfl rfl (by omega) rfl rfl ?_
  refine o_as (AV.row 2) rfl ?_
  refine aops_end ?_
  refine hK1 _ ?_
  refine awp_seq fun K2 hK2 => ?_
  refine awp_region rfl ?_
  refine o_as (AV.lit (.slice none 0 0)) rfl ?_
  refine aops_end ?_
  refine hK2 _ ?_
  refine awp_seq fun K3 hK3 => ?_
  refine awp_seq fun K4 hK4 => ?_
  refine awp_region rfl ?_
  refine o_mv (AV.sl 1 (ns .u32 (digs m))) rfl ?_
  refine n_len (digs m) Gd.none Wr_tU87 rfl ?_
  refine o_sub (a := ((((digs m).length : Nat) : Int))) (c := (((1 : Nat) : Int))) Gd.none rfl rfl (by exact wrap64 (by omega) (by omega)) ?_
  refine o_as (AV.lit (.int .i64 (((((digs m).length : Nat) : Int)) - (((1 : Nat) : Int))))) rfl ?_
  refine aops_end ?_
  refine hK4 _ ?_
  refine awp_block ?_
  refine awp_wk (Wk.slot (i := 7) (y := (AV.slc 1 (ns .u32 (digs 0)) ((digs 0).length))) (AV.le_nilc' (by decide) (by simp [digs_zero, ns]) (by simp [digs_zero]))) ?_
  refine awp_loopR (fun κ σ => ∃ (j : Nat), ∃ (o : List Nat), ∃ (r : Nat), (j ≤ (digs m).length) ∧ (o.length = (digs m).length) ∧ (Dig o) ∧ (∀ k, k < j → o.getD k 0 = 0) ∧ (r < n) ∧ (val ((digs m).drop j) = n * val (o.drop j) + r) ∧ (j) = κ ∧ σ = ⟨[(0, (AV.sl 1 (ns .u32 (digs m)))), (1, (AV.sl 1 (ns .u32 (digs n)))), (6, (AV.row 3)), (8, (AV.lit (.int .i64 ((j : Int) - 1)))), (7, (AV.slc 1 (ns .u32 (digs (r))) ((digs (r)).length)))], [(3, (AO.row 111 1 (ns .u32 (o))))]⟩) ⟨_, _, ⟨(digs m).length, List.replicate (digs m).length 0, 0, (Nat.le_refl _), (by simp), (Dig.repl _), (fun k hk => by rw [List.getD_eq_getElem?_getD, List.getElem?_replicate]; split <;> rfl), hn0, (by rw [val_drop_all (Nat.le_refl _), val_drop_all (by simp)]; simp), rfl, rfl⟩, ?wk0⟩ ?rd0
  case wk0 =>
    exact Wk.trans (Wk.sub (σ' := ⟨[(0, (AV.sl 1 (ns .u32 (digs m)))), (1, (AV.sl 1 (ns .u32 (digs n)))), (6, (AV.row 2)), (8, (AV.lit (.int .i64 (((((digs m).length : Nat) : Int)) - (((1 : Nat) : Int)))))), (7, (AV.slc 1 (ns .u32 (digs 0)) ((digs 0).length)))], [(2, (AO.row 111 1 (ns .u32 (List.replicate ((digs m).length) 0))))]⟩) (And.intro rfl (And.intro rfl (And.intro rfl (And.intro rfl (And.intro rfl (trivial)))))) (And.intro rfl (trivial))) (Wk.trans (Wk.ren (id := 2) (id' := 3) rfl) (Wk.sub (And.intro rfl (And.intro rfl (And.intro (by first | rfl | (simp)) (And.intro (by first | rfl | exact int_eq (by omega) | exact int_nm (by omega)) (And.intro (by first | rfl | (simp)) (trivial)))))) (And.intro (by first | rfl | exact row_ns (by simp)) (trivial))))
  rintro κ _ ⟨j, o, r, hj, hl, hd, hz, hr, hv, rfl, rfl⟩
  have hA := Dig.getD (digs_dig m) (j - 1)
  have hrl := digs_len_le (Nat.le_of_lt hr)
  have hXt := quo_top hA hr
  have hXl := digs_len_le (Nat.le_of_lt hXt)
  have hXm := digs_mul_len n 1000000000
  have h10 : (digs 1000000000).length ≤ 3 := digs_len_small (by decide)
  refine awp_seq fun K5 hK5 => ?_
  refine awp_seq fun K6 hK6 => ?_
  refine awp_region rfl ?_
  refine o_mv (AV.lit (.int .i64 ((j : Int) - 1))) rfl ?_
  refine o_geq (a := ((j : Int) - 1)) (c := (((0 : Nat) : Int))) Gd.none rfl rfl ?_
  refine aops_end ?_
  refine hK6 _ ?_
  refine awp_condQ (q := (((0 : Nat) : Int)) ≤ ((j : Int) - 1)) rfl (fun h1 => ?_) (fun h1 => ?_)
  · refine awp_wk (Wk.slot (i := 8) (y := (nm .i64 (j - 1))) (AV.le_eq (by exact nm_int (by omega)))) ?_
    refine awp_skip ?_
    refine hK5 _ ?_
    refine awp_seq fun K7 hK7 => ?_
    refine awp_block ?_
    refine awp_seq fun K8 hK8 => ?_
    refine awp_region rfl ?_
    refine o_mv (AV.slc 1 (ns .u32 (digs (r))) ((digs (r)).length)) rfl ?_
    refine o_mv (AV.sl 1 (ns .u32 (digs m))) rfl ?_
    refine o_mv (nm .i64 (j - 1)) rfl ?_
    refine n_index (digs m) (j - 1) Gd.none Wr_tE87 rfl rfl (by omega) ?_
    refine n_loadI (digs m) (j - 1) Gd.none Wr_tS111 rfl (by omega) ?_
    refine o_buildSlice 101 (ns .u32 ([(digs m).getD (j - 1) 0])) [(0, [(nm .u32 ((digs m).getD (j - 1) 0))])] Gd.none Wr_tE87 rfl Wr_tO111 rfl rfl rfl rfl rfl rfl rfl ?_
    refine o_callG [(101, 1, (ns .u32 ([(digs m).getD (j - 1) 0])))] [(AV.slc 1 (ns .u32 (digs (r))) ((digs (r)).length)), (nm .i64 (0)), (AV.sl 1 (ns .u32 ([(digs m).getD (j - 1) 0])))] _ (AV.sl 1 (ns .u32 (((digs m).getD (j - 1) 0) :: digs (r)))) [(3, (AO.row 111 1 (ns .u32 (o))))] Gd.none Wr_tC83 rfl (And.intro ⟨_, rfl⟩ (trivial)) rfl rfl (LeL.cons (AV.le_refl _) (LeL.cons (AV.le_refl _) (LeL.cons (AV.le_refl _) (LeL.nil)))) (c_insert (digs (r)) ((digs m).getD (j - 1) 0) (by omega)) rfl ?_
    refine o_ct (c_wTrimX (false) (((digs m).getD (j - 1) 0) :: digs (r)) (by first | assumption | exact dgn_dig _ _ | exact digs_dig _ | exact Dig.snoc (by assumption) (by assumption) | exact Dig.cons (by omega) (digs_dig _))) Gd.none Wr_tC69 rfl ?_
    refine o_fieldS (AV.slc 1 (ns .u32 (digs ((sg (false) (val (((digs m).getD (j - 1) 0) :: digs (r))))).natAbs)) ((digs ((sg (false) (val (((digs m).getD (j - 1) 0) :: digs (r))))).natAbs).length)) Gd.none Wr_tF89_1 Wr_tS87 rfl rfl ?_
    refine n_as (v' := (AV.slc 1 (ns .u32 (digs (((digs m).getD (j - 1) 0 + 1000000000 * r)))) ((digs (((digs m).getD (j - 1) 0 + 1000000000 * r))).length))) (by exact nc_sg (by simp only [val, val_digs])) ?_
    refine o_as (AV.slc 1 (ns .u32 (digs (((digs m).getD (j - 1) 0 + 1000000000 * r)))) ((digs (((digs m).getD (j - 1) 0 + 1000000000 * r))).length)) rfl ?_
    refine aops_end ?_
    refine hK8 _ ?_
    refine awp_seq fun K9 hK9 => ?_
    refine awp_seq fun K10 hK10 => ?_
    refine awp_region rfl ?_
    refine o_mv (AV.slc 1 (ns .u32 (digs (((digs m).getD (j - 1) 0 + 1000000000 * r)))) ((digs (((digs m).getD (j - 1) 0 + 1000000000 * r))).length)) rfl ?_
    refine o_mv (AV.sl 1 (ns .u32 (digs n))) rfl ?_
    refine o_callG [] [(AV.slc 1 (ns .u32 (digs (((digs m).getD (j - 1) 0 + 1000000000 * r)))) ((digs (((digs m).getD (j - 1) 0 + 1000000000 * r))).length)), (AV.sl 1 (ns .u32 (digs n)))] _ (AV.lit (.int .i64 (cmpN ((((digs m).getD (j - 1) 0 + 1000000000 * r))) (n)))) [(3, (AO.row 111 1 (ns .u32 (o))))] Gd.none Wr_tC84 rfl (trivial) rfl rfl (LeL.cons (AV.le_slc) (LeL.cons (AV.le_refl _) (LeL.nil))) (c_wSize ((((digs m).getD (j - 1) 0 + 1000000000 * r))) (n)) rfl ?_
    refine o_lss (a := (cmpN ((((digs m).getD (j - 1) 0 + 1000000000 * r))) (n))) (c := (((0 : Nat) : Int))) Gd.none rfl rfl ?_
    refine aops_end ?_
    refine hK10 _ ?_
    refine awp_condQ (q := (cmpN ((((digs m).getD (j - 1) 0 + 1000000000 * r))) (n)) < (((0 : Nat) : Int))) rfl (fun h2 => ?_) (fun h2 => ?_)
    · have hXn := cmpN_neg h2
      refine awp_exit ?_
      refine hK7 _ ?_
      refine awp_region rfl ?_
      refine o_mv (nm .i64 (j - 1)) rfl ?_
      refine o_sub (a := (((j - 1 : Nat) : Int))) (c := (((1 : Nat) : Int))) Gd.none rfl rfl (by exact wrap64 (by omega) (by omega)) ?_
      refine o_as (AV.lit (.int .i64 ((((j - 1 : Nat) : Int)) - (((1 : Nat) : Int))))) rfl ?_
      refine aops_end ?_
      refine ⟨_, _, ?lt, ⟨j - 1, o, ((digs m).getD (j - 1) 0 + 1000000000 * r), (by omega), hl, hd, (fun k hk => hz k (by omega)), hXn, (quo_skip (by omega) hl (by rw [Nat.sub_add_cancel (by omega)]; exact hv) (hz _ (by omega)) hXn), rfl, rfl⟩, ?wk⟩
      case lt => omega
      case wk => exact Wk.sub (And.intro rfl (And.intro rfl (And.intro rfl (And.intro (by first | rfl | exact int_eq (by omega) | exact int_nm (by omega)) (And.intro (by first | rfl | (simp)) (trivial)))))) (And.intro rfl (trivial))
    · have hXn := cmpN_nneg h2
      refine awp_skip ?_
      refine hK9 _ ?_
      refine awp_seq fun K11 hK11 => ?_
      refine awp_region rfl ?_
      refine o_as (nm .u64 (0)) rfl ?_
      refine o_as (nm .u64 (1000000000)) rfl ?_
      refine aops_end ?_
      refine hK11 _ ?_
      refine awp_seq fun K12 hK12 => ?_
      refine awp_block ?_
      refine awp_loopR (fun κ σ => ∃ (l : Nat), ∃ (h : Nat), (l < h) ∧ (h ≤ 1000000000) ∧ (n * l ≤ ((digs m).getD (j - 1) 0 + 1000000000 * r)) ∧ (((digs m).getD (j - 1) 0 + 1000000000 * r) < n * h) ∧ (h - l) = κ ∧ σ = ⟨[(0, (AV.sl 1 (ns .u32 (digs m)))), (1, (AV.sl 1 (ns .u32 (digs n)))), (6, (AV.row 3)), (8, (nm .i64 (j - 1))), (7, (AV.slc 1 (ns .u32 (digs (((digs m).getD (j - 1) 0 + 1000000000 * r)))) ((digs (((digs m).getD (j - 1) 0 + 1000000000 * r))).length))), (9, (nm .u64 (l))), (10, (nm .u64 (h)))], [(3, (AO.row 111 1 (ns .u32 (o))))]⟩) ⟨_, _, ⟨0, 1000000000, (by decide), (Nat.le_refl _), (by rw [Nat.mul_zero]; exact Nat.zero_le _), hXt, rfl, rfl⟩, ?wk1⟩ ?rd1
      case wk1 =>
        exact Wk.sub (And.intro rfl (And.intro rfl (And.intro rfl (And.intro rfl (And.intro rfl (And.intro (by first | rfl | exact congrArg (nm _) (by omega) | exact nm_int (by omega) | exact nm_int (by simp [IntKind.wrap, IntKind.bits, IntKind.signed]; omega)) (And.intro (by first | rfl | exact congrArg (nm _) (by omega) | exact nm_int (by omega) | exact nm_int (by simp [IntKind.wrap, IntKind.bits, IntKind.signed]; omega)) (trivial)))))))) (And.intro rfl (trivial))
      rintro κ _ ⟨l, h, hlh, hh, hlo, hhi, rfl, rfl⟩
      have hml := digs_mul_len n ((l + h) / 2)
      have hmd := digs_len_small (n := (l + h) / 2) (by omega)
      have hnl := digs_len_le hlo
      refine awp_seq fun K13 hK13 => ?_
      refine awp_seq fun K14 hK14 => ?_
      refine awp_region rfl ?_
      refine o_mv (nm .u64 (h)) rfl ?_
      refine o_mv (nm .u64 (l)) rfl ?_
      refine n_sub (h) (l) Gd.none rfl rfl (by omega) (by simp only [topOf]; omega) ?_
      refine n_gtr ((h) - (l)) (1) Gd.none rfl rfl ?_
      refine aops_end ?_
      refine hK14 _ ?_
      refine awp_condQ (q := (1) < ((h) - (l))) rfl (fun h3 => ?_) (fun h3 => ?_)
      · refine awp_skip ?_
        refine hK13 _ ?_
        refine awp_block ?_
        refine awp_seq fun K15 hK15 => ?_
        refine awp_region rfl ?_
        refine o_mv (nm .u64 (l)) rfl ?_
        refine o_mv (nm .u64 (h)) rfl ?_
        refine n_add (l) (h) Gd.none rfl rfl (by simp only [topOf]; omega) ?_
        refine n_quo ((l) + (h)) (2) Gd.none rfl rfl (by omega) (by simp only [topOf]; omega) ?_
        refine o_as (nm .u64 (((l) + (h)) / (2))) rfl ?_
        refine aops_end ?_
        refine hK15 _ ?_
        refine awp_seq fun K16 hK16 => ?_
        refine awp_region rfl ?_
        refine o_mv (AV.sl 1 (ns .u32 (digs n))) rfl ?_
        refine o_mv (nm .u64 (((l) + (h)) / (2))) rfl ?_
        refine o_ct (c_wTimes (n) (((l) + (h)) / (2)) (by omega) (by omega)) Gd.none Wr_tC85 rfl ?_
        refine o_mv (AV.slc 1 (ns .u32 (digs (((digs m).getD (j - 1) 0 + 1000000000 * r)))) ((digs (((digs m).getD (j - 1) 0 + 1000000000 * r))).length)) rfl ?_
        refine o_callG [] [(AV.sl 1 (ns .u32 (digs (n * (((l) + (h)) / (2)))))), (AV.slc 1 (ns .u32 (digs (((digs m).getD (j - 1) 0 + 1000000000 * r)))) ((digs (((digs m).getD (j - 1) 0 + 1000000000 * r))).length))] _ (AV.lit (.int .i64 (cmpN ((n * (((l) + (h)) / (2)))) ((((digs m).getD (j - 1) 0 + 1000000000 * r)))))) [(3, (AO.row 111 1 (ns .u32 (o))))] Gd.none Wr_tC84 rfl (trivial) rfl rfl (LeL.cons (AV.le_refl _) (LeL.cons (AV.le_slc) (LeL.nil))) (c_wSize ((n * (((l) + (h)) / (2)))) ((((digs m).getD (j - 1) 0 + 1000000000 * r)))) rfl ?_
        refine o_leq (a := (cmpN ((n * (((l) + (h)) / (2)))) ((((digs m).getD (j - 1) 0 + 1000000000 * r))))) (c := (((0 : Nat) : Int))) Gd.none rfl rfl ?_
        refine aops_end ?_
        refine hK16 _ ?_
        refine awp_condQ (q := (cmpN ((n * (((l) + (h)) / (2)))) ((((digs m).getD (j - 1) 0 + 1000000000 * r)))) ≤ (((0 : Nat) : Int))) rfl (fun h4 => ?_) (fun h4 => ?_)
        · refine awp_region rfl ?_
          refine o_mv (nm .u64 (((l) + (h)) / (2))) rfl ?_
          refine o_as (nm .u64 (((l) + (h)) / (2))) rfl ?_
          refine aops_end ?_
          refine ⟨_, _, ?lt, ⟨(l + h) / 2, h, (by omega), hh, (cmpN_le h4), hhi, rfl, rfl⟩, ?wk⟩
          case lt => omega
          case wk => exact Wk.sub (And.intro rfl (And.intro rfl (And.intro rfl (And.intro rfl (And.intro rfl (And.intro (by first | rfl | exact congrArg (nm _) (by omega) | exact nm_int (by omega) | exact nm_int (by simp [IntKind.wrap, IntKind.bits, IntKind.signed]; omega)) (And.intro rfl (trivial)))))))) (And.intro rfl (trivial))
        · refine awp_region rfl ?_
          refine o_mv (nm .u64 (((l) + (h)) / (2))) rfl ?_
          refine o_as (nm .u64 (((l) + (h)) / (2))) rfl ?_
          refine aops_end ?_
          refine ⟨_, _, ?lt, ⟨l, (l + h) / 2, (by omega), (by omega), hlo, (cmpN_nle h4), rfl, rfl⟩, ?wk⟩
          case lt => omega
          case wk => exact Wk.sub (And.intro rfl (And.intro rfl (And.intro rfl (And.intro rfl (And.intro rfl (And.intro rfl (And.intro (by first | rfl | exact congrArg (nm _) (by omega) | exact nm_int (by omega) | exact nm_int (by simp [IntKind.wrap, IntKind.bits, IntKind.signed]; omega)) (trivial)))))))) (And.intro rfl (trivial))
      · have hh1 : h = l + 1 := by omega
        have hend := hhi
        rw [hh1] at hend
        refine awp_exit ?_
        refine hK12 _ ?_
        refine awp_seq fun K17 hK17 => ?_
        refine awp_region rfl ?_
        refine o_mv (AV.row 3) rfl ?_
        refine o_mv (nm .i64 (j - 1)) rfl ?_
        refine o_mv (nm .u64 (l)) rfl ?_
        refine n_conv (l) Gd.none rfl Wr_tI106 Wr_tI111 (by simp only [topOf]; omega) ?_
        refine n_indexRow (o) (j - 1) Gd.none Wr_tE87 rfl rfl rfl (by omega) ?_
        refine n_storeRow (o) (j - 1) (l) [(3, (AO.row 111 1 (ns .u32 ((o).set (j - 1) (l)))))] Gd.none Wr_tZ111 rfl rfl rfl (by omega) rfl ?_
        refine aops_end ?_
        refine hK17 _ ?_
        refine awp_region rfl ?_
        refine o_mv (AV.slc 1 (ns .u32 (digs (((digs m).getD (j - 1) 0 + 1000000000 * r)))) ((digs (((digs m).getD (j - 1) 0 + 1000000000 * r))).length)) rfl ?_
        refine o_mv (AV.sl 1 (ns .u32 (digs n))) rfl ?_
        refine o_mv (nm .u64 (l)) rfl ?_
        refine o_ct (c_wTimes (n) (l) (by omega) (by omega)) Gd.none Wr_tC85 rfl ?_
        refine o_callG [] [(AV.slc 1 (ns .u32 (digs (((digs m).getD (j - 1) 0 + 1000000000 * r)))) ((digs (((digs m).getD (j - 1) 0 + 1000000000 * r))).length)), (AV.sl 1 (ns .u32 (digs (n * (l)))))] _ (AV.sl 1 (ns .u32 (dgn (digs ((((digs m).getD (j - 1) 0 + 1000000000 * r)))).length ((((digs m).getD (j - 1) 0 + 1000000000 * r)) - (n * (l)))))) [(3, (AO.row 111 1 (ns .u32 ((o).set (j - 1) (l)))))] Gd.none Wr_tC86 rfl (trivial) rfl rfl (LeL.cons (AV.le_slc) (LeL.cons (AV.le_refl _) (LeL.nil))) (c_wLess ((((digs m).getD (j - 1) 0 + 1000000000 * r))) ((n * (l))) (by omega) (by omega) (by omega)) rfl ?_
        refine o_ct (c_wTrimX (false) (dgn (digs ((((digs m).getD (j - 1) 0 + 1000000000 * r)))).length ((((digs m).getD (j - 1) 0 + 1000000000 * r)) - (n * (l)))) (by first | assumption | exact dgn_dig _ _ | exact digs_dig _ | exact Dig.snoc (by assumption) (by assumption) | exact Dig.cons (by omega) (digs_dig _))) Gd.none Wr_tC69 rfl ?_
        refine o_fieldS (AV.slc 1 (ns .u32 (digs ((sg (false) (val (dgn (digs ((((digs m).getD (j - 1) 0 + 1000000000 * r)))).length ((((digs m).getD (j - 1) 0 + 1000000000 * r)) - (n * (l))))))).natAbs)) ((digs ((sg (false) (val (dgn (digs ((((digs m).getD (j - 1) 0 + 1000000000 * r)))).length ((((digs m).getD (j - 1) 0 + 1000000000 * r)) - (n * (l))))))).natAbs).length)) Gd.none Wr_tF89_1 Wr_tS87 rfl rfl ?_
        refine n_as (v' := (AV.slc 1 (ns .u32 (digs (((digs m).getD (j - 1) 0 + 1000000000 * r) - n * l))) ((digs (((digs m).getD (j - 1) 0 + 1000000000 * r) - n * l)).length))) (by exact nc_sg (val_minus _ _)) ?_
        refine o_as (AV.slc 1 (ns .u32 (digs (((digs m).getD (j - 1) 0 + 1000000000 * r) - n * l))) ((digs (((digs m).getD (j - 1) 0 + 1000000000 * r) - n * l)).length)) rfl ?_
        refine aops_end ?_
        refine hK7 _ ?_
        refine awp_region rfl ?_
        refine o_mv (nm .i64 (j - 1)) rfl ?_
        refine o_sub (a := (((j - 1 : Nat) : Int))) (c := (((1 : Nat) : Int))) Gd.none rfl rfl (by exact wrap64 (by omega) (by omega)) ?_
        refine o_as (AV.lit (.int .i64 ((((j - 1 : Nat) : Int)) - (((1 : Nat) : Int))))) rfl ?_
        refine aops_end ?_
        refine ⟨_, _, ?lt, ⟨j - 1, o.set (j - 1) l, ((digs m).getD (j - 1) 0 + 1000000000 * r) - n * l, (by omega), (by simp only [List.length_set]; exact hl), (hd.set (by omega)), (fun k hk => by rw [getD_set_off (by omega)]; exact hz k (by omega)), (quo_rest hlo hend), (quo_put (by omega) hl (by rw [Nat.sub_add_cancel (by omega)]; exact hv) hlo hend), rfl, rfl⟩, ?wk⟩
        case lt => omega
        case wk => exact Wk.sub (And.intro rfl (And.intro rfl (And.intro rfl (And.intro (by first | rfl | exact int_eq (by omega) | exact int_nm (by omega)) (And.intro (by first | rfl | (simp)) (trivial)))))) (And.intro (by first | rfl | exact row_ns (by simp)) (trivial))
  · have hj0 : j = 0 := by omega
    have hv0 := hv
    rw [hj0] at hv0
    have hE := div_end hr hv0
    refine awp_exit ?_
    refine hK3 _ ?_
    refine awp_seq fun K18 hK18 => ?_
    refine awp_region rfl ?_
    refine o_mv (AV.row 3) rfl ?_
    refine o_mv (AV.slc 1 (ns .u32 (digs (r))) ((digs (r)).length)) rfl ?_
    refine o_as (AV.row 3) rfl ?_
    refine o_as (AV.slc 1 (ns .u32 (digs (r))) ((digs (r)).length)) rfl ?_
    refine aops_end ?_
    refine hK18 _ ?_
    refine awp_wk (σ' := ⟨[(4, (AV.row 3)), (5, (AV.slc 1 (ns .u32 (digs (r))) ((digs (r)).length)))], [(3, (AO.row 111 1 (ns .u32 (o))))]⟩) (Wk.sub (And.intro rfl (And.intro rfl (trivial))) (And.intro rfl (trivial))) ?_
    refine awp_wk (σ' := ⟨[(4, (AV.sl 1 (ns .u32 (o)))), (5, (AV.slc 1 (ns .u32 (digs (r))) ((digs (r)).length)))], []⟩) (Wk.freeze (id := 3) (e := 111) (sz := 1) (cs := (ns .u32 (o))) rfl) ?_
    refine awp_ret ?_
    refine post_ret ⟨[(AV.sl 1 (ns .u32 (o))), (AV.sl 1 (ns .u32 (digs (r))))], And.intro (AV.le_refl _) (And.intro (AV.le_slc) (trivial)), rfl, ?_⟩
    exact tup_eq2 (ns_congr (dgn_eq hd hl hE.1).symm) (ns_congr (by rw [← hE.2]))

end Go.Proofs.YtpamhblonmpniaaGreatDoor

set_option linter.unusedVariables false
set_option linter.unusedSimpArgs false
namespace Go.Mth
open Go.Ab
abbrev qN (x y : Int) : Nat := val (dgn (digs x.natAbs).length (x.natAbs / y.natAbs))
abbrev rN (x y : Int) : Nat := val (digs (x.natAbs % y.natAbs))
theorem qN_eq (x y : Int) : qN x y = x.natAbs / y.natAbs := val_quo _ _
theorem rN_eq (x y : Int) : rN x y = x.natAbs % y.natAbs := val_digs _
theorem len_qN (b : Bool) (x y : Int) : (digs (sg b (qN x y)).natAbs).length ≤ (digs x.natAbs).length := by
  rw [sg_abs, qN_eq]; exact digs_len_le (Nat.div_le_self _ _)
theorem len_rN (b : Bool) (x y : Int) : (digs (sg b (rN x y)).natAbs).length ≤ (digs x.natAbs).length := by
  rw [sg_abs, rN_eq]; exact digs_len_le (Nat.mod_le _ _)
theorem div1 {x y : Int} (hx : ¬ x < 0) (hy : 0 < y) : x / y = sg false (qN x y) ∧ x % y = sg false (rN x y) := by
  have h := part1 (d := y.natAbs) hx (by omega) (qN_eq x y) (rN_eq x y)
  rw [show ((y.natAbs : Nat) : Int) = y by omega] at h
  exact ⟨h.1, h.2⟩
theorem sgn_neg {z : Int} : sgn z < 0 ↔ z < 0 := by unfold sgn; repeat' split <;> omega
theorem sgn_pos {z : Int} : 0 < sgn z ↔ 0 < z := by unfold sgn; repeat' split <;> omega
theorem sgn_le {z : Int} : sgn z ≤ 0 ↔ z ≤ 0 := by unfold sgn; repeat' split <;> omega
theorem div2 {x y : Int} (hx : x < 0) (hy : 0 < y) (h : sgn (sg true (rN x y)) < 0) : x / y = sg true (qN x y) - 1 ∧ x % y = sg true (rN x y) + y := by
  have h0 := (sg_neg true _).1 (sgn_neg.1 h)
  have h := part3 (d := y.natAbs) hx (by omega) (qN_eq x y) (rN_eq x y) (by omega)
  rw [show ((y.natAbs : Nat) : Int) = y by omega] at h
  simp only [sg, if_true]
  exact ⟨h.1, by rw [h.2]; omega⟩
theorem div3 {x y : Int} (hx : x < 0) (hy : 0 < y) (h : ¬ sgn (sg true (rN x y)) < 0) : x / y = sg true (qN x y) ∧ x % y = sg true (rN x y) := by
  have h0 : rN x y = 0 := by
    rcases Nat.eq_zero_or_pos (rN x y) with e | e
    · exact e
    · exact absurd (sgn_neg.2 ((sg_neg true _).2 ⟨rfl, e⟩)) h
  have h := part2 (d := y.natAbs) hx (by omega) (qN_eq x y) (rN_eq x y) h0
  rw [show ((y.natAbs : Nat) : Int) = y by omega] at h
  simp only [sg, if_true]
  exact ⟨h.1, by rw [h.2, h0]; rfl⟩
theorem gcd_next {u v g : Nat} (h : Nat.gcd u v = g) : Nat.gcd v (u % v) = g := by rw [← h, Nat.gcd_comm u v, Nat.gcd_rec v u, Nat.gcd_comm]
theorem gcd_end {u v g : Nat} (h : Nat.gcd u v = g) (hv : v = 0) : g = u := by subst hv; simpa using h.symm
theorem len_gcd (x y : Int) : (digs (((Int.gcd x y : Nat) : Int)).natAbs).length ≤ max (digs x.natAbs).length (digs y.natAbs).length := by
  show (digs (Nat.gcd x.natAbs y.natAbs)).length ≤ _
  rcases Nat.eq_zero_or_pos x.natAbs with e | e
  · rw [e, Nat.gcd_zero_left]; omega
  · have := digs_len_le (Nat.gcd_le_left y.natAbs e)
    omega
theorem len_powZ (x : Int) : ∀ e : Nat, (digs (x ^ e).natAbs).length ≤ e * (digs x.natAbs).length + 1
  | 0 => by rw [Int.pow_zero]; have := digs_len_of_lt (n := (1 : Int).natAbs) (k := 1) (by decide); omega
  | e + 1 => by
    rw [Int.pow_succ]
    have := len_mulZ (x ^ e) x
    have := len_powZ x e
    rw [Nat.add_mul]
    omega
theorem len_powB {x : Int} {e : Nat} (he : e ≤ 20000) (hx : (digs x.natAbs).length ≤ 1000) : (digs (x ^ e).natAbs).length ≤ 20000001 := by
  have := len_powZ x e
  have := Nat.mul_le_mul he hx
  omega
theorem pow_odd {f e k n : Nat} (h : f + e * k = n) (hk : k % 2 = 1) : f + e + (e + e) * (k / 2) = n := by
  have h2 : k = 2 * (k / 2) + 1 := by omega
  have : e * k = (e + e) * (k / 2) + e := by
    rw [Nat.add_mul]
    generalize k / 2 = j at *
    subst h2
    rw [Nat.mul_add, ← Nat.mul_assoc, Nat.mul_comm e 2, Nat.mul_assoc]
    omega
  omega
theorem pow_even {f e k n : Nat} (h : f + e * k = n) (hk : ¬ k % 2 = 1) : f + (e + e) * (k / 2) = n := by
  have h2 : k = 2 * (k / 2) := by omega
  have : e * k = (e + e) * (k / 2) := by
    rw [Nat.add_mul]
    generalize k / 2 = j at *
    subst h2
    rw [← Nat.mul_assoc, Nat.mul_comm e 2, Nat.mul_assoc]
    omega
  omega
theorem pow_le {f e k n : Nat} (h : f + e * k = n) (hk : 0 < k) : f + e ≤ n := by
  have := Nat.le_mul_of_pos_right e hk
  omega
theorem pow_fin {x : Int} {f e k n : Nat} (h : f + e * k = n) (hk : ¬ 0 < k) : x ^ n = x ^ f := by
  have : k = 0 := by omega
  subst this
  rw [← h, Nat.mul_zero, Nat.add_zero]
theorem pow0_obj (x : Int) (t : TypeId) : some (AO.var t [bp ((1 : Int) < 0), AV.sl 1 (ns .u32 (digs (1 : Int).natAbs))]) = some (AO.var t [bp (x ^ 0 < 0), AV.sl 1 (ns .u32 (digs (x ^ 0).natAbs))]) := by rw [Int.pow_zero]
theorem pow1_obj (x : Int) (t : TypeId) : some (AO.var t [bp (x < 0), AV.sl 1 (ns .u32 (digs x.natAbs))]) = some (AO.var t [bp (x ^ 1 < 0), AV.sl 1 (ns .u32 (digs (x ^ 1).natAbs))]) := by
  have e : x ^ 1 = x := by simp [Int.pow_succ]
  rw [e]
end Go.Mth

set_option linter.unusedVariables false
set_option linter.unusedSimpArgs false
namespace Go.Proofs.YtpamhblonmpniaaGreatDoor
open Go Go.Ab Go.Mth
theorem Ws_tO89 : tyZero cx.P 89 = some [(Go.Value.bool false), (Go.Value.slice none 0 0)] := by kernel_rfl
theorem Ws_tF89_1 : tyField cx.P 89 1 = some (1, 87) := by kernel_rfl
theorem Ws_tS87 : tySc cx.P 87 = true := by kernel_rfl
theorem Ws_tC73 : callable cx.P 73 = true := by kernel_rfl
theorem Ws_tF89_0 : tyField cx.P 89 0 = some (0, 4) := by kernel_rfl
theorem Ws_tS4 : tySc cx.P 4 = true := by kernel_rfl
theorem Ws_tC69 : callable cx.P 69 = true := by kernel_rfl
theorem Ws_tZ89 : tySize cx.P 89 = some 2 := by kernel_rfl
theorem Ws_tA89 : tyAgg cx.P 89 = some 2 := by kernel_rfl
theorem Ws_tC62 : callable cx.P 62 = true := by kernel_rfl
theorem Ws_tC70 : callable cx.P 70 = true := by kernel_rfl
theorem Ws_tC74 : callable cx.P 74 = true := by kernel_rfl
theorem Ws_tC75 : callable cx.P 75 = true := by kernel_rfl
theorem Ws_tC63 : callable cx.P 63 = true := by kernel_rfl
theorem Ws_tC56 : callable cx.P 56 = true := by kernel_rfl
theorem c_wDivide (x y : Int) (hy : 0 < y) (hx : (digs x.natAbs).length ≤ 800000000) (hyl : (digs y.natAbs).length ≤ 800000000) : ECalls cx 63 [(intW (x)), (intW (y))] (.tup [intW (x / y), intW (x % y)]) := by
  refine ecalls_of_awp Tryz.func63 (c := _) rfl (Nat.le_of_ble_eq_true rfl) ?_
  show awp cx 40 _ (postF cx Tryz.f63 _) ⟨[(0, (intW (x))), (1, (intW (y)))], []⟩
  have hlq := fun b => len_qN b x y
  have hlr := fun b => len_rN b x y
  have hq1 : (digs ((sg (true) (val (dgn (digs ((x).natAbs)).length ((x).natAbs / (y).natAbs)))).natAbs)).length ≤ (digs x.natAbs).length := hlq true
  have hr1 : (digs ((sg (true) (val (digs ((x).natAbs % (y).natAbs)))).natAbs)).length ≤ (digs x.natAbs).length := hlr true
  have ho := len_one
  refine awp_seq fun K0 hK0 => ?_
  refine awp_region rfl ?_
  refine o_box 2 [(bp (x < 0)), (AV.sl 1 (ns .u32 (digs (x).natAbs)))] Gd.none rfl rfl ?_
  refine o_box 3 [(bp (y < 0)), (AV.sl 1 (ns .u32 (digs (y).natAbs)))] Gd.none rfl rfl ?_
  refine o_alloc 4 [(AV.lit (.bool false)), (AV.lit (.slice none 0 0))] Gd.none Ws_tO89 rfl rfl rfl ?_
  refine o_alloc 5 [(AV.lit (.bool false)), (AV.lit (.slice none 0 0))] Gd.none Ws_tO89 rfl rfl rfl ?_
  refine aops_end ?_
  refine hK0 _ ?_
  refine awp_seq fun K1 hK1 => ?_
  refine awp_region rfl ?_
  refine o_fieldRef 1 Gd.none Ws_tF89_1 rfl rfl ?_
  refine o_loadS (AV.sl 1 (ns .u32 (digs (x).natAbs))) Gd.none Ws_tS87 rfl rfl rfl ?_
  refine o_fieldRef 1 Gd.none Ws_tF89_1 rfl rfl ?_
  refine o_loadS (AV.sl 1 (ns .u32 (digs (y).natAbs))) Gd.none Ws_tS87 rfl rfl rfl ?_
  refine o_ct (c_wQuot ((x).natAbs) ((y).natAbs) (by omega) (by omega) (by omega)) Gd.none Ws_tC73 rfl ?_
  refine o_mv (AV.tup [(AV.sl 1 (ns .u32 (dgn (digs ((x).natAbs)).length ((x).natAbs / (y).natAbs)))), (AV.sl 1 (ns .u32 (digs ((x).natAbs % (y).natAbs))))]) rfl ?_
  refine o_extract (AV.sl 1 (ns .u32 (dgn (digs ((x).natAbs)).length ((x).natAbs / (y).natAbs)))) Gd.none rfl rfl ?_
  refine o_extract (AV.sl 1 (ns .u32 (digs ((x).natAbs % (y).natAbs)))) Gd.none rfl rfl ?_
  refine o_as (AV.sl 1 (ns .u32 (dgn (digs ((x).natAbs)).length ((x).natAbs / (y).natAbs)))) rfl ?_
  refine o_as (AV.sl 1 (ns .u32 (digs ((x).natAbs % (y).natAbs)))) rfl ?_
  refine aops_end ?_
  refine hK1 _ ?_
  refine awp_seq fun K2 hK2 => ?_
  refine awp_seq fun K3 hK3 => ?_
  refine awp_region rfl ?_
  refine o_fieldRef 0 Gd.none Ws_tF89_0 rfl rfl ?_
  refine o_loadS (bp (x < 0)) Gd.none Ws_tS4 rfl rfl rfl ?_
  refine o_notP (q := x < 0) Gd.none rfl ?_
  refine aops_end ?_
  refine hK3 _ ?_
  refine awp_condQ (q := ¬ (x < 0)) rfl (fun h1 => ?_) (fun h1 => ?_)
  · refine awp_seq fun K4 hK4 => ?_
    refine awp_region rfl ?_
    refine o_mv (AV.sl 1 (ns .u32 (dgn (digs ((x).natAbs)).length ((x).natAbs / (y).natAbs)))) rfl ?_
    refine o_ct (c_wTrim (false) (dgn (digs ((x).natAbs)).length ((x).natAbs / (y).natAbs)) (by first | assumption | exact dgn_dig _ _ | exact digs_dig _ | exact Dig.snoc (by assumption) (by assumption) | exact Dig.cons (by omega) (digs_dig _))) Gd.none Ws_tC69 rfl ?_
    refine o_mv (AV.sl 1 (ns .u32 (digs ((x).natAbs % (y).natAbs)))) rfl ?_
    refine o_ct (c_wTrim (false) (digs ((x).natAbs % (y).natAbs)) (by first | assumption | exact dgn_dig _ _ | exact digs_dig _ | exact Dig.snoc (by assumption) (by assumption) | exact Dig.cons (by omega) (digs_dig _))) Gd.none Ws_tC69 rfl ?_
    refine o_store [(5, (AO.var 89 [(AV.lit (.bool false)), (AV.lit (.slice none 0 0))])), (4, (oZ 89 .u32 ((sg (false) (val (dgn (digs ((x).natAbs)).length ((x).natAbs / (y).natAbs))))))), (3, (oZ 89 .u32 (y))), (2, (oZ 89 .u32 (x)))] Gd.none Ws_tZ89 rfl rfl rfl rfl rfl rfl ?_
    refine o_store [(5, (oZ 89 .u32 ((sg (false) (val (digs ((x).natAbs % (y).natAbs))))))), (4, (oZ 89 .u32 ((sg (false) (val (dgn (digs ((x).natAbs)).length ((x).natAbs / (y).natAbs))))))), (3, (oZ 89 .u32 (y))), (2, (oZ 89 .u32 (x)))] Gd.none Ws_tZ89 rfl rfl rfl rfl rfl rfl ?_
    refine aops_end ?_
    refine hK4 _ ?_
    refine awp_ret ?_
    refine post_ret ⟨[(intW ((sg (false) (val (dgn (digs ((x).natAbs)).length ((x).natAbs / (y).natAbs)))))), (intW ((sg (false) (val (digs ((x).natAbs % (y).natAbs))))))], And.intro ⟨4, (oZ 89 .u32 ((sg (false) (val (dgn (digs ((x).natAbs)).length ((x).natAbs / (y).natAbs)))))), rfl, rfl, rfl, Or.inl ⟨Ws_tA89, AV.le_refl _⟩⟩ (And.intro ⟨5, (oZ 89 .u32 ((sg (false) (val (digs ((x).natAbs % (y).natAbs)))))), rfl, rfl, rfl, Or.inl ⟨Ws_tA89, AV.le_refl _⟩⟩ (trivial)), rfl, ?_⟩
    have e := div1 h1 hy
    exact tup_eq2 (congrArg intW e.1) (congrArg intW e.2)
  · refine awp_skip ?_
    refine hK2 _ ?_
    refine awp_seq fun K5 hK5 => ?_
    refine awp_region rfl ?_
    refine o_mv (AV.sl 1 (ns .u32 (dgn (digs ((x).natAbs)).length ((x).natAbs / (y).natAbs)))) rfl ?_
    refine o_ct (c_wTrim (true) (dgn (digs ((x).natAbs)).length ((x).natAbs / (y).natAbs)) (by first | assumption | exact dgn_dig _ _ | exact digs_dig _ | exact Dig.snoc (by assumption) (by assumption) | exact Dig.cons (by omega) (digs_dig _))) Gd.none Ws_tC69 rfl ?_
    refine o_mv (AV.sl 1 (ns .u32 (digs ((x).natAbs % (y).natAbs)))) rfl ?_
    refine o_ct (c_wTrim (true) (digs ((x).natAbs % (y).natAbs)) (by first | assumption | exact dgn_dig _ _ | exact digs_dig _ | exact Dig.snoc (by assumption) (by assumption) | exact Dig.cons (by omega) (digs_dig _))) Gd.none Ws_tC69 rfl ?_
    refine o_alloc 6 [(AV.lit (.bool false)), (AV.lit (.slice none 0 0))] Gd.none Ws_tO89 rfl rfl rfl ?_
    refine o_alloc 7 [(AV.lit (.bool false)), (AV.lit (.slice none 0 0))] Gd.none Ws_tO89 rfl rfl rfl ?_
    refine o_store [(7, (AO.var 89 [(AV.lit (.bool false)), (AV.lit (.slice none 0 0))])), (6, (oZ 89 .u32 ((sg (true) (val (dgn (digs ((x).natAbs)).length ((x).natAbs / (y).natAbs))))))), (5, (AO.var 89 [(AV.lit (.bool false)), (AV.lit (.slice none 0 0))])), (4, (AO.var 89 [(AV.lit (.bool false)), (AV.lit (.slice none 0 0))])), (3, (oZ 89 .u32 (y))), (2, (oZ 89 .u32 (x)))] Gd.none Ws_tZ89 rfl rfl rfl rfl rfl rfl ?_
    refine o_store [(7, (oZ 89 .u32 ((sg (true) (val (digs ((x).natAbs % (y).natAbs))))))), (6, (oZ 89 .u32 ((sg (true) (val (dgn (digs ((x).natAbs)).length ((x).natAbs / (y).natAbs))))))), (5, (AO.var 89 [(AV.lit (.bool false)), (AV.lit (.slice none 0 0))])), (4, (AO.var 89 [(AV.lit (.bool false)), (AV.lit (.slice none 0 0))])), (3, (oZ 89 .u32 (y))), (2, (oZ 89 .u32 (x)))] Gd.none Ws_tZ89 rfl rfl rfl rfl rfl rfl ?_
    refine aops_end ?_
    refine hK5 _ ?_
    refine awp_seq fun K6 hK6 => ?_
    refine awp_seq fun K7 hK7 => ?_
    refine awp_region rfl ?_
    refine o_loadA [(bp ((sg (true) (val (digs ((x).natAbs % (y).natAbs)))) < 0)), (AV.sl 1 (ns .u32 (digs ((sg (true) (val (digs ((x).natAbs % (y).natAbs))))).natAbs)))] Gd.none Ws_tA89 rfl rfl rfl rfl rfl ?_
    refine o_ct (c_wSign ((sg (true) (val (digs ((x).natAbs % (y).natAbs)))))) Gd.none Ws_tC62 rfl ?_
    refine o_lss (a := (sgn ((sg (true) (val (digs ((x).natAbs % (y).natAbs))))))) (c := (((0 : Nat) : Int))) Gd.none rfl rfl ?_
    refine aops_end ?_
    refine hK7 _ ?_
    refine awp_condQ (q := (sgn ((sg (true) (val (digs ((x).natAbs % (y).natAbs)))))) < (((0 : Nat) : Int))) rfl (fun h2 => ?_) (fun h2 => ?_)
    · refine awp_seq fun K8 hK8 => ?_
      refine awp_regionD rfl ?_
      refine o_loadA [(bp ((sg (true) (val (dgn (digs ((x).natAbs)).length ((x).natAbs / (y).natAbs)))) < 0)), (AV.sl 1 (ns .u32 (digs ((sg (true) (val (dgn (digs ((x).natAbs)).length ((x).natAbs / (y).natAbs))))).natAbs)))] Gd.none Ws_tA89 rfl rfl rfl rfl rfl ?_
      refine o_ct (c_wOf ((1 : Int)) (by first | decide | omega) (by first | decide | omega)) Gd.none Ws_tC70 rfl ?_
      refine o_ct (c_wSub ((sg (true) (val (dgn (digs ((x).natAbs)).length ((x).natAbs / (y).natAbs))))) ((1 : Int)) (by first | omega | assumption | (simp only [Int.natAbs_neg]; omega)) (by first | omega | assumption | (simp only [Int.natAbs_neg]; omega))) Gd.none Ws_tC74 rfl ?_
      refine o_loadA [(bp ((sg (true) (val (digs ((x).natAbs % (y).natAbs)))) < 0)), (AV.sl 1 (ns .u32 (digs ((sg (true) (val (digs ((x).natAbs % (y).natAbs))))).natAbs)))] Gd.none Ws_tA89 rfl rfl rfl rfl rfl ?_
      refine o_loadA [(bp (y < 0)), (AV.sl 1 (ns .u32 (digs (y).natAbs)))] Gd.none Ws_tA89 rfl rfl rfl rfl rfl ?_
      refine o_ct (c_wAdd ((sg (true) (val (digs ((x).natAbs % (y).natAbs))))) (y) (by first | omega | assumption | (simp only [Int.natAbs_neg]; omega)) (by first | omega | assumption | (simp only [Int.natAbs_neg]; omega))) Gd.none Ws_tC75 rfl ?_
      refine o_store [(7, (oZ 89 .u32 ((sg (true) (val (digs ((x).natAbs % (y).natAbs))))))), (6, (oZ 89 .u32 ((sg (true) (val (dgn (digs ((x).natAbs)).length ((x).natAbs / (y).natAbs))))))), (5, (AO.var 89 [(AV.lit (.bool false)), (AV.lit (.slice none 0 0))])), (4, (oZ 89 .u32 (((sg (true) (val (dgn (digs ((x).natAbs)).length ((x).natAbs / (y).natAbs)))) - (1 : Int))))), (3, (oZ 89 .u32 (y))), (2, (oZ 89 .u32 (x)))] Gd.none Ws_tZ89 rfl rfl rfl rfl rfl rfl ?_
      refine o_store [(7, (oZ 89 .u32 ((sg (true) (val (digs ((x).natAbs % (y).natAbs))))))), (6, (oZ 89 .u32 ((sg (true) (val (dgn (digs ((x).natAbs)).length ((x).natAbs / (y).natAbs))))))), (5, (oZ 89 .u32 (((sg (true) (val (digs ((x).natAbs % (y).natAbs)))) + y)))), (4, (oZ 89 .u32 (((sg (true) (val (dgn (digs ((x).natAbs)).length ((x).natAbs / (y).natAbs)))) - (1 : Int))))), (3, (oZ 89 .u32 (y))), (2, (oZ 89 .u32 (x)))] Gd.none Ws_tZ89 rfl rfl rfl rfl rfl rfl ?_
      refine aops_end ⟨by kernel_rfl, ?_⟩
      refine hK8 _ ?_
      refine awp_ret ?_
      refine post_ret ⟨[(intW (((sg (true) (val (dgn (digs ((x).natAbs)).length ((x).natAbs / (y).natAbs)))) - (1 : Int)))), (intW (((sg (true) (val (digs ((x).natAbs % (y).natAbs)))) + y)))], And.intro ⟨4, (oZ 89 .u32 (((sg (true) (val (dgn (digs ((x).natAbs)).length ((x).natAbs / (y).natAbs)))) - (1 : Int)))), rfl, rfl, rfl, Or.inl ⟨Ws_tA89, AV.le_refl _⟩⟩ (And.intro ⟨5, (oZ 89 .u32 (((sg (true) (val (digs ((x).natAbs % (y).natAbs)))) + y))), rfl, rfl, rfl, Or.inl ⟨Ws_tA89, AV.le_refl _⟩⟩ (trivial)), rfl, ?_⟩
      have e := div2 (Decidable.not_not.1 h1) hy h2
      exact tup_eq2 (congrArg intW e.1) (congrArg intW e.2)
    · refine awp_skip ?_
      refine hK6 _ ?_
      refine awp_seq fun K9 hK9 => ?_
      refine awp_regionD rfl ?_
      refine o_loadA [(bp ((sg (true) (val (dgn (digs ((x).natAbs)).length ((x).natAbs / (y).natAbs)))) < 0)), (AV.sl 1 (ns .u32 (digs ((sg (true) (val (dgn (digs ((x).natAbs)).length ((x).natAbs / (y).natAbs))))).natAbs)))] Gd.none Ws_tA89 rfl rfl rfl rfl rfl ?_
      refine o_loadA [(bp ((sg (true) (val (digs ((x).natAbs % (y).natAbs)))) < 0)), (AV.sl 1 (ns .u32 (digs ((sg (true) (val (digs ((x).natAbs % (y).natAbs))))).natAbs)))] Gd.none Ws_tA89 rfl rfl rfl rfl rfl ?_
      refine o_store [(7, (oZ 89 .u32 ((sg (true) (val (digs ((x).natAbs % (y).natAbs))))))), (6, (oZ 89 .u32 ((sg (true) (val (dgn (digs ((x).natAbs)).length ((x).natAbs / (y).natAbs))))))), (5, (AO.var 89 [(AV.lit (.bool false)), (AV.lit (.slice none 0 0))])), (4, (oZ 89 .u32 ((sg (true) (val (dgn (digs ((x).natAbs)).length ((x).natAbs / (y).natAbs))))))), (3, (oZ 89 .u32 (y))), (2, (oZ 89 .u32 (x)))] Gd.none Ws_tZ89 rfl rfl rfl rfl rfl rfl ?_
      refine o_store [(7, (oZ 89 .u32 ((sg (true) (val (digs ((x).natAbs % (y).natAbs))))))), (6, (oZ 89 .u32 ((sg (true) (val (dgn (digs ((x).natAbs)).length ((x).natAbs / (y).natAbs))))))), (5, (oZ 89 .u32 ((sg (true) (val (digs ((x).natAbs % (y).natAbs))))))), (4, (oZ 89 .u32 ((sg (true) (val (dgn (digs ((x).natAbs)).length ((x).natAbs / (y).natAbs))))))), (3, (oZ 89 .u32 (y))), (2, (oZ 89 .u32 (x)))] Gd.none Ws_tZ89 rfl rfl rfl rfl rfl rfl ?_
      refine aops_end ⟨by kernel_rfl, ?_⟩
      refine hK9 _ ?_
      refine awp_ret ?_
      refine post_ret ⟨[(intW ((sg (true) (val (dgn (digs ((x).natAbs)).length ((x).natAbs / (y).natAbs)))))), (intW ((sg (true) (val (digs ((x).natAbs % (y).natAbs))))))], And.intro ⟨4, (oZ 89 .u32 ((sg (true) (val (dgn (digs ((x).natAbs)).length ((x).natAbs / (y).natAbs)))))), rfl, rfl, rfl, Or.inl ⟨Ws_tA89, AV.le_refl _⟩⟩ (And.intro ⟨5, (oZ 89 .u32 ((sg (true) (val (digs ((x).natAbs % (y).natAbs)))))), rfl, rfl, rfl, Or.inl ⟨Ws_tA89, AV.le_refl _⟩⟩ (trivial)), rfl, ?_⟩
      have e := div3 (Decidable.not_not.1 h1) hy h2
      exact tup_eq2 (congrArg intW e.1) (congrArg intW e.2)

theorem c_wGcd (x y : Int) (hx : (digs x.natAbs).length ≤ 800000000) (hyl : (digs y.natAbs).length ≤ 800000000) : ECalls cx 61 [(intW (x)), (intW (y))] (intW ((Int.gcd x y : Nat) : Int)) := by
  refine ecalls_of_awp Tryz.func61 (c := _) rfl (Nat.le_of_ble_eq_true rfl) ?_
  show awp cx 25 _ (postF cx Tryz.f61 _) ⟨[(0, (intW (x))), (1, (intW (y)))], []⟩
  refine awp_seq fun K0 hK0 => ?_
  refine awp_region rfl ?_
  refine o_box 2 [(bp (x < 0)), (AV.sl 1 (ns .u32 (digs (x).natAbs)))] Gd.none rfl rfl ?_
  refine o_box 3 [(bp (y < 0)), (AV.sl 1 (ns .u32 (digs (y).natAbs)))] Gd.none rfl rfl ?_
  refine o_alloc 4 [(AV.lit (.bool false)), (AV.lit (.slice none 0 0))] Gd.none Ws_tO89 rfl rfl rfl ?_
  refine aops_end ?_
  refine hK0 _ ?_
  refine awp_seq fun K1 hK1 => ?_
  refine awp_regionD rfl ?_
  refine o_fieldRef 1 Gd.none Ws_tF89_1 rfl rfl ?_
  refine o_loadS (AV.sl 1 (ns .u32 (digs (x).natAbs))) Gd.none Ws_tS87 rfl rfl rfl ?_
  refine o_ct (c_wTrim (false) (digs (x).natAbs) (by first | assumption | exact dgn_dig _ _ | exact digs_dig _ | exact Dig.snoc (by assumption) (by assumption) | exact Dig.cons (by omega) (digs_dig _))) Gd.none Ws_tC69 rfl ?_
  refine n_as (v' := (intW (((x.natAbs : Nat) : Int)))) (by exact congrArg intW (by rw [val_digs]; rfl)) ?_
  refine o_fieldRef 1 Gd.none Ws_tF89_1 rfl rfl ?_
  refine o_loadS (AV.sl 1 (ns .u32 (digs (y).natAbs))) Gd.none Ws_tS87 rfl rfl rfl ?_
  refine o_ct (c_wTrim (false) (digs (y).natAbs) (by first | assumption | exact dgn_dig _ _ | exact digs_dig _ | exact Dig.snoc (by assumption) (by assumption) | exact Dig.cons (by omega) (digs_dig _))) Gd.none Ws_tC69 rfl ?_
  refine n_as (v' := (intW (((y.natAbs : Nat) : Int)))) (by exact congrArg intW (by rw [val_digs]; rfl)) ?_
  refine o_store [(4, (AO.var 89 [(AV.lit (.bool false)), (AV.lit (.slice none 0 0))])), (3, (oZ 89 .u32 (y))), (2, (oZ 89 .u32 (((x.natAbs : Nat) : Int))))] Gd.none Ws_tZ89 rfl rfl rfl rfl rfl rfl ?_
  refine o_store [(4, (AO.var 89 [(AV.lit (.bool false)), (AV.lit (.slice none 0 0))])), (3, (oZ 89 .u32 (((y.natAbs : Nat) : Int)))), (2, (oZ 89 .u32 (((x.natAbs : Nat) : Int))))] Gd.none Ws_tZ89 rfl rfl rfl rfl rfl rfl ?_
  refine aops_end ⟨by kernel_rfl, ?_⟩
  refine hK1 _ ?_
  refine awp_seq fun K2 hK2 => ?_
  refine awp_block ?_
  refine awp_loopR (fun κ σ => ∃ (u : Nat), ∃ (v : Nat), (Nat.gcd u v = Int.gcd x y) ∧ ((digs u).length ≤ 800000000) ∧ ((digs v).length ≤ 800000000) ∧ (v) = κ ∧ σ = ⟨[(2, (AV.ref 2 (0))), (3, (AV.ref 3 (0))), (4, (AV.ref 4 (0)))], [(2, (oZ 89 .u32 (((u : Nat) : Int)))), (3, (oZ 89 .u32 (((v : Nat) : Int)))), (4, (AO.var 89 [(AV.lit (.bool false)), (AV.lit (.slice none 0 0))]))]⟩) ⟨_, _, ⟨x.natAbs, y.natAbs, rfl, hx, hyl, rfl, rfl⟩, ?wk0⟩ ?rd0
  case wk0 =>
    exact Wk.sub (And.intro rfl (And.intro rfl (And.intro rfl (trivial)))) (And.intro rfl (And.intro rfl (And.intro rfl (trivial))))
  rintro κ _ ⟨u, v, hg, hu, hv, rfl, rfl⟩
  have hu2 : (digs (((u : Nat) : Int)).natAbs).length ≤ 800000000 := hu
  have hv2 : (digs (((v : Nat) : Int)).natAbs).length ≤ 800000000 := hv
  refine awp_seq fun K3 hK3 => ?_
  refine awp_seq fun K4 hK4 => ?_
  refine awp_region rfl ?_
  refine o_loadA [(bp (((v : Nat) : Int) < 0)), (AV.sl 1 (ns .u32 (digs (((v : Nat) : Int)).natAbs)))] Gd.none Ws_tA89 rfl rfl rfl rfl rfl ?_
  refine o_ct (c_wSign (((v : Nat) : Int))) Gd.none Ws_tC62 rfl ?_
  refine o_gtr (a := (sgn (((v : Nat) : Int)))) (c := (((0 : Nat) : Int))) Gd.none rfl rfl ?_
  refine aops_end ?_
  refine hK4 _ ?_
  refine awp_condQ (q := (((0 : Nat) : Int)) < (sgn (((v : Nat) : Int)))) rfl (fun h1 => ?_) (fun h1 => ?_)
  · have hvp := sgn_pos.1 h1
    have hv0 : 0 < v := by omega
    refine awp_skip ?_
    refine hK3 _ ?_
    refine awp_block ?_
    refine awp_seq fun K5 hK5 => ?_
    refine awp_region rfl ?_
    refine o_loadA [(bp (((u : Nat) : Int) < 0)), (AV.sl 1 (ns .u32 (digs (((u : Nat) : Int)).natAbs)))] Gd.none Ws_tA89 rfl rfl rfl rfl rfl ?_
    refine o_loadA [(bp (((v : Nat) : Int) < 0)), (AV.sl 1 (ns .u32 (digs (((v : Nat) : Int)).natAbs)))] Gd.none Ws_tA89 rfl rfl rfl rfl rfl ?_
    refine o_ct (c_wDivide (((u : Nat) : Int)) (((v : Nat) : Int)) (by omega) (by omega) (by omega)) Gd.none Ws_tC63 rfl ?_
    refine o_mv (AV.tup [(intW ((((u : Nat) : Int) / ((v : Nat) : Int)))), (intW ((((u : Nat) : Int) % ((v : Nat) : Int))))]) rfl ?_
    refine o_extract (intW ((((u : Nat) : Int) / ((v : Nat) : Int)))) Gd.none rfl rfl ?_
    refine o_extract (intW ((((u : Nat) : Int) % ((v : Nat) : Int)))) Gd.none rfl rfl ?_
    refine n_as (v' := (intW (((u % v : Nat) : Int)))) (by exact congrArg intW (Int.natCast_emod u v).symm) ?_
    refine o_alloc 101 [(AV.lit (.bool false)), (AV.lit (.slice none 0 0))] Gd.none Ws_tO89 rfl rfl rfl ?_
    refine o_alloc 102 [(AV.lit (.bool false)), (AV.lit (.slice none 0 0))] Gd.none Ws_tO89 rfl rfl rfl ?_
    refine o_store [(102, (AO.var 89 [(AV.lit (.bool false)), (AV.lit (.slice none 0 0))])), (101, (oZ 89 .u32 ((((u : Nat) : Int) / ((v : Nat) : Int))))), (2, (oZ 89 .u32 (((u : Nat) : Int)))), (3, (oZ 89 .u32 (((v : Nat) : Int)))), (4, (AO.var 89 [(AV.lit (.bool false)), (AV.lit (.slice none 0 0))]))] Gd.none Ws_tZ89 rfl rfl rfl rfl rfl rfl ?_
    refine o_store [(102, (oZ 89 .u32 (((u % v : Nat) : Int)))), (101, (oZ 89 .u32 ((((u : Nat) : Int) / ((v : Nat) : Int))))), (2, (oZ 89 .u32 (((u : Nat) : Int)))), (3, (oZ 89 .u32 (((v : Nat) : Int)))), (4, (AO.var 89 [(AV.lit (.bool false)), (AV.lit (.slice none 0 0))]))] Gd.none Ws_tZ89 rfl rfl rfl rfl rfl rfl ?_
    refine aops_end ?_
    refine hK5 _ ?_
    refine awp_regionD rfl ?_
    refine o_loadA [(bp (((v : Nat) : Int) < 0)), (AV.sl 1 (ns .u32 (digs (((v : Nat) : Int)).natAbs)))] Gd.none Ws_tA89 rfl rfl rfl rfl rfl ?_
    refine o_loadA [(bp (((u % v : Nat) : Int) < 0)), (AV.sl 1 (ns .u32 (digs (((u % v : Nat) : Int)).natAbs)))] Gd.none Ws_tA89 rfl rfl rfl rfl rfl ?_
    refine o_store [(102, (oZ 89 .u32 (((u % v : Nat) : Int)))), (101, (oZ 89 .u32 ((((u : Nat) : Int) / ((v : Nat) : Int))))), (2, (oZ 89 .u32 (((v : Nat) : Int)))), (3, (oZ 89 .u32 (((v : Nat) : Int)))), (4, (AO.var 89 [(AV.lit (.bool false)), (AV.lit (.slice none 0 0))]))] Gd.none Ws_tZ89 rfl rfl rfl rfl rfl rfl ?_
    refine o_store [(102, (oZ 89 .u32 (((u % v : Nat) : Int)))), (101, (oZ 89 .u32 ((((u : Nat) : Int) / ((v : Nat) : Int))))), (2, (oZ 89 .u32 (((v : Nat) : Int)))), (3, (oZ 89 .u32 (((u % v : Nat) : Int)))), (4, (AO.var 89 [(AV.lit (.bool false)), (AV.lit (.slice none 0 0))]))] Gd.none Ws_tZ89 rfl rfl rfl rfl rfl rfl ?_
    refine aops_end ⟨by kernel_rfl, ?_⟩
    refine ⟨_, _, ?lt, ⟨v, u % v, (gcd_next hg), hv, (Nat.le_trans (digs_len_mod u hv0) hv), rfl, rfl⟩, ?wk⟩
    case lt => exact Nat.mod_lt u hv0
    case wk => exact Wk.sub (And.intro rfl (And.intro rfl (And.intro rfl (trivial)))) (And.intro rfl (And.intro rfl (And.intro rfl (trivial))))
  · have hvz : v = 0 := (Nat.eq_zero_or_pos v).elim id (fun e => absurd (sgn_pos.2 (show (0 : Int) < ((v : Nat) : Int) by omega)) h1)
    refine awp_exit ?_
    refine hK2 _ ?_
    refine awp_seq fun K6 hK6 => ?_
    refine awp_region rfl ?_
    refine o_loadA [(bp (((u : Nat) : Int) < 0)), (AV.sl 1 (ns .u32 (digs (((u : Nat) : Int)).natAbs)))] Gd.none Ws_tA89 rfl rfl rfl rfl rfl ?_
    refine o_store [(2, (oZ 89 .u32 (((u : Nat) : Int)))), (3, (oZ 89 .u32 (((v : Nat) : Int)))), (4, (oZ 89 .u32 (((u : Nat) : Int))))] Gd.none Ws_tZ89 rfl rfl rfl rfl rfl rfl ?_
    refine aops_end ?_
    refine hK6 _ ?_
    refine awp_ret ?_
    refine post_ret ⟨[(intW (((u : Nat) : Int)))], And.intro ⟨4, (oZ 89 .u32 (((u : Nat) : Int))), rfl, rfl, rfl, Or.inl ⟨Ws_tA89, AV.le_refl _⟩⟩ (trivial), rfl, ?_⟩
    exact congrArg intW (congrArg Int.ofNat (gcd_end hg hvz))

theorem c_wPower (x : Int) (n : Nat) (hn : n ≤ 10000) (hx : (digs x.natAbs).length ≤ 1000) : ECalls cx 54 [(intW (x)), (nm .i64 (n))] (intW (x ^ n)) := by
  refine ecalls_of_awp Tryz.func54 (c := _) rfl (Nat.le_of_ble_eq_true rfl) ?_
  show awp cx 21 _ (postF cx Tryz.f54 _) ⟨[(0, (intW (x))), (1, (nm .i64 (n)))], []⟩
  refine awp_seq fun K0 hK0 => ?_
  refine awp_region rfl ?_
  refine o_box 2 [(bp (x < 0)), (AV.sl 1 (ns .u32 (digs (x).natAbs)))] Gd.none rfl rfl ?_
  refine o_alloc 3 [(AV.lit (.bool false)), (AV.lit (.slice none 0 0))] Gd.none Ws_tO89 rfl rfl rfl ?_
  refine aops_end ?_
  refine hK0 _ ?_
  refine awp_seq fun K1 hK1 => ?_
  refine awp_region rfl ?_
  refine o_ct (c_wOf ((1 : Int)) (by first | decide | omega) (by first | decide | omega)) Gd.none Ws_tC70 rfl ?_
  refine o_alloc 4 [(AV.lit (.bool false)), (AV.lit (.slice none 0 0))] Gd.none Ws_tO89 rfl rfl rfl ?_
  refine o_store [(4, (oZ 89 .u32 ((1 : Int)))), (3, (AO.var 89 [(AV.lit (.bool false)), (AV.lit (.slice none 0 0))])), (2, (oZ 89 .u32 (x)))] Gd.none Ws_tZ89 rfl rfl rfl rfl rfl rfl ?_
  refine aops_end ?_
  refine hK1 _ ?_
  refine awp_seq fun K2 hK2 => ?_
  refine awp_block ?_
  refine awp_loopR (fun κ σ => ∃ (e : Nat), ∃ (f : Nat), ∃ (k : Nat), (f + e * k = n) ∧ (e ≤ 20000) ∧ (k ≤ 10000) ∧ (k) = κ ∧ σ = ⟨[(1, (nm .i64 (k))), (2, (AV.ref 2 (0))), (4, (AV.ref 3 (0))), (5, (AV.ref 4 (0)))], [(2, (oZ 89 .u32 ((x ^ (e))))), (3, (AO.var 89 [(AV.lit (.bool false)), (AV.lit (.slice none 0 0))])), (4, (oZ 89 .u32 ((x ^ (f)))))]⟩) ⟨_, _, ⟨1, 0, n, (by omega), (by omega), hn, rfl, rfl⟩, ?wk0⟩ ?rd0
  case wk0 =>
    exact Wk.sub (And.intro (by first | rfl | exact congrArg (nm _) (by omega) | exact nm_int (by omega) | exact nm_int (by simp [IntKind.wrap, IntKind.bits, IntKind.signed]; omega)) (And.intro rfl (And.intro rfl (And.intro rfl (trivial))))) (And.intro (by first | rfl | (first | exact pow1_obj x _ | exact pow0_obj x _)) (And.intro (by first | rfl | (first | exact pow1_obj x _ | exact pow0_obj x _)) (And.intro (by first | rfl | (first | exact pow1_obj x _ | exact pow0_obj x _)) (trivial))))
  rintro κ _ ⟨e, f, k, hk, he, hkn, rfl, rfl⟩
  have hel := len_powB (x := x) he hx
  have hfl := len_powB (x := x) (e := f) (by omega) hx
  refine awp_seq fun K3 hK3 => ?_
  refine awp_seq fun K4 hK4 => ?_
  refine awp_region rfl ?_
  refine o_mv (nm .i64 (k)) rfl ?_
  refine n_gtr (k) (0) Gd.none rfl rfl ?_
  refine aops_end ?_
  refine hK4 _ ?_
  refine awp_condQ (q := (0) < (k)) rfl (fun h1 => ?_) (fun h1 => ?_)
  · have hpl := pow_le hk (by omega)
    refine awp_skip ?_
    refine hK3 _ ?_
    refine awp_seq fun K5 hK5 => ?_
    refine awp_block ?_
    refine awp_seq fun K6 hK6 => ?_
    refine awp_seq fun K7 hK7 => ?_
    refine awp_region rfl ?_
    refine o_mv (nm .i64 (k)) rfl ?_
    refine n_rem (k) (2) Gd.none rfl rfl (by omega) ?_
    refine n_eql ((k) % (2)) (1) Gd.none rfl rfl ?_
    refine aops_end ?_
    refine hK7 _ ?_
    refine awp_condQ (q := ((k) % (2)) = (1)) rfl (fun h2 => ?_) (fun h2 => ?_)
    · refine awp_region rfl ?_
      refine o_loadA [(bp ((x ^ (f)) < 0)), (AV.sl 1 (ns .u32 (digs ((x ^ (f))).natAbs)))] Gd.none Ws_tA89 rfl rfl rfl rfl rfl ?_
      refine o_loadA [(bp ((x ^ (e)) < 0)), (AV.sl 1 (ns .u32 (digs ((x ^ (e))).natAbs)))] Gd.none Ws_tA89 rfl rfl rfl rfl rfl ?_
      refine o_ct (c_wMul ((x ^ (f))) ((x ^ (e))) (by first | omega | assumption | (simp only [Int.natAbs_neg]; omega)) (by first | omega | assumption | (simp only [Int.natAbs_neg]; omega))) Gd.none Ws_tC56 rfl ?_
      refine n_as (v' := (intW ((x ^ (f + e))))) (by exact congrArg intW (Int.pow_add x f e).symm) ?_
      refine o_store [(2, (oZ 89 .u32 ((x ^ (e))))), (3, (AO.var 89 [(AV.lit (.bool false)), (AV.lit (.slice none 0 0))])), (4, (oZ 89 .u32 ((x ^ (f + e)))))] Gd.none Ws_tZ89 rfl rfl rfl rfl rfl rfl ?_
      refine aops_end ?_
      refine hK6 _ ?_
      refine awp_region rfl ?_
      refine o_loadA [(bp ((x ^ (e)) < 0)), (AV.sl 1 (ns .u32 (digs ((x ^ (e))).natAbs)))] Gd.none Ws_tA89 rfl rfl rfl rfl rfl ?_
      refine o_loadA [(bp ((x ^ (e)) < 0)), (AV.sl 1 (ns .u32 (digs ((x ^ (e))).natAbs)))] Gd.none Ws_tA89 rfl rfl rfl rfl rfl ?_
      refine o_ct (c_wMul ((x ^ (e))) ((x ^ (e))) (by first | omega | assumption | (simp only [Int.natAbs_neg]; omega)) (by first | omega | assumption | (simp only [Int.natAbs_neg]; omega))) Gd.none Ws_tC56 rfl ?_
      refine n_as (v' := (intW ((x ^ (e + e))))) (by exact congrArg intW (Int.pow_add x e e).symm) ?_
      refine o_store [(2, (oZ 89 .u32 ((x ^ (e + e))))), (3, (AO.var 89 [(AV.lit (.bool false)), (AV.lit (.slice none 0 0))])), (4, (oZ 89 .u32 ((x ^ (f + e)))))] Gd.none Ws_tZ89 rfl rfl rfl rfl rfl rfl ?_
      refine aops_end ?_
      refine hK5 _ ?_
      refine awp_region rfl ?_
      refine o_mv (nm .i64 (k)) rfl ?_
      refine n_quo (k) (2) Gd.none rfl rfl (by omega) (by simp only [topOf]; omega) ?_
      refine o_as (nm .i64 ((k) / (2))) rfl ?_
      refine aops_end ?_
      refine ⟨_, _, ?lt, ⟨e + e, f + e, k / 2, (pow_odd hk (by omega)), (by omega), (by omega), rfl, rfl⟩, ?wk⟩
      case lt => omega
      case wk => exact Wk.sub (And.intro (by first | rfl | exact congrArg (nm _) (by omega) | exact nm_int (by omega) | exact nm_int (by simp [IntKind.wrap, IntKind.bits, IntKind.signed]; omega)) (And.intro rfl (And.intro rfl (And.intro rfl (trivial))))) (And.intro (by first | rfl | (first | exact pow1_obj x _ | exact pow0_obj x _)) (And.intro rfl (And.intro (by first | rfl | (first | exact pow1_obj x _ | exact pow0_obj x _)) (trivial))))
    · refine awp_skip ?_
      refine hK6 _ ?_
      refine awp_region rfl ?_
      refine o_loadA [(bp ((x ^ (e)) < 0)), (AV.sl 1 (ns .u32 (digs ((x ^ (e))).natAbs)))] Gd.none Ws_tA89 rfl rfl rfl rfl rfl ?_
      refine o_loadA [(bp ((x ^ (e)) < 0)), (AV.sl 1 (ns .u32 (digs ((x ^ (e))).natAbs)))] Gd.none Ws_tA89 rfl rfl rfl rfl rfl ?_
      refine o_ct (c_wMul ((x ^ (e))) ((x ^ (e))) (by first | omega | assumption | (simp only [Int.natAbs_neg]; omega)) (by first | omega | assumption | (simp only [Int.natAbs_neg]; omega))) Gd.none Ws_tC56 rfl ?_
      refine n_as (v' := (intW ((x ^ (e + e))))) (by exact congrArg intW (Int.pow_add x e e).symm) ?_
      refine o_store [(2, (oZ 89 .u32 ((x ^ (e + e))))), (3, (AO.var 89 [(AV.lit (.bool false)), (AV.lit (.slice none 0 0))])), (4, (oZ 89 .u32 ((x ^ (f)))))] Gd.none Ws_tZ89 rfl rfl rfl rfl rfl rfl ?_
      refine aops_end ?_
      refine hK5 _ ?_
      refine awp_region rfl ?_
      refine o_mv (nm .i64 (k)) rfl ?_
      refine n_quo (k) (2) Gd.none rfl rfl (by omega) (by simp only [topOf]; omega) ?_
      refine o_as (nm .i64 ((k) / (2))) rfl ?_
      refine aops_end ?_
      refine ⟨_, _, ?lt, ⟨e + e, f, k / 2, (pow_even hk (by omega)), (by omega), (by omega), rfl, rfl⟩, ?wk⟩
      case lt => omega
      case wk => exact Wk.sub (And.intro (by first | rfl | exact congrArg (nm _) (by omega) | exact nm_int (by omega) | exact nm_int (by simp [IntKind.wrap, IntKind.bits, IntKind.signed]; omega)) (And.intro rfl (And.intro rfl (And.intro rfl (trivial))))) (And.intro (by first | rfl | (first | exact pow1_obj x _ | exact pow0_obj x _)) (And.intro rfl (And.intro rfl (trivial))))
  · refine awp_exit ?_
    refine hK2 _ ?_
    refine awp_seq fun K8 hK8 => ?_
    refine awp_region rfl ?_
    refine o_loadA [(bp ((x ^ (f)) < 0)), (AV.sl 1 (ns .u32 (digs ((x ^ (f))).natAbs)))] Gd.none Ws_tA89 rfl rfl rfl rfl rfl ?_
    refine o_store [(2, (oZ 89 .u32 ((x ^ (e))))), (3, (oZ 89 .u32 ((x ^ (f))))), (4, (oZ 89 .u32 ((x ^ (f)))))] Gd.none Ws_tZ89 rfl rfl rfl rfl rfl rfl ?_
    refine aops_end ?_
    refine hK8 _ ?_
    refine awp_ret ?_
    refine post_ret ⟨[(intW ((x ^ (f))))], And.intro ⟨3, (oZ 89 .u32 ((x ^ (f)))), rfl, rfl, rfl, Or.inl ⟨Ws_tA89, AV.le_refl _⟩⟩ (trivial), rfl, ?_⟩
    exact congrArg intW (pow_fin hk (by omega))

end Go.Proofs.YtpamhblonmpniaaGreatDoor

set_option linter.unusedVariables false
set_option linter.unusedSimpArgs false
namespace Go.Mth
open Go.Ab
theorem decs_hi (n : Nat) : n < 10 ^ (decs n).length := by
  induction n using Nat.strongRecOn with
  | _ n ih =>
    by_cases h : n = 0
    · subst h; rw [decs_zero]; decide
    · rw [decs_pos (by omega), List.length_cons, Nat.pow_succ]
      have := ih (n / 10) (by omega)
      omega
theorem decs_lo {n : Nat} (h : 0 < n) : 10 ^ ((decs n).length - 1) ≤ n := by
  induction n using Nat.strongRecOn with
  | _ n ih =>
    rw [decs_pos h, List.length_cons, Nat.add_sub_cancel]
    by_cases h1 : n / 10 = 0
    · rw [h1, decs_zero]; exact h
    · have := ih (n / 10) (by omega) (by omega)
      have hl : 0 < (decs (n / 10)).length := decs_ne (by omega)
      obtain ⟨l, hl'⟩ : ∃ l, (decs (n / 10)).length = l + 1 := ⟨(decs (n / 10)).length - 1, by omega⟩
      rw [hl', Nat.add_sub_cancel] at this
      rw [hl', Nat.pow_succ]
      omega
theorem ndig_mono {m n : Nat} (h : m ≤ n) : ndig m ≤ ndig n := by
  unfold ndig
  split
  · split
    · exact Nat.le_refl _
    · exact decs_ne (by omega)
  · rw [if_neg (by omega)]
    exact decs_len_lt (Nat.lt_of_le_of_lt h (decs_hi n))
theorem fit_le {x y : Int} (h : x.natAbs ≤ y.natAbs) (hy : Fit y) : Fit x := Nat.le_trans (ndig_mono h) hy
theorem fit_div {x y : Int} (hx : Fit x) (hy : 0 < y) : Fit (x / y) := by
  refine fit_le ?_ hx
  by_cases h : x < 0
  · have h1 : x ≤ x / y := by
      rw [Int.le_ediv_iff_mul_le hy]
      have := Int.mul_le_mul_of_nonpos_left (show x ≤ 0 by omega) (show (1 : Int) ≤ y by omega)
      omega
    have h2 : x / y < 0 := Int.ediv_neg_of_neg_of_pos h hy
    omega
  · have h1 : 0 ≤ x / y := Int.ediv_nonneg (by omega) (by omega)
    have h2 : x / y ≤ x := Int.ediv_le_self y (by omega)
    omega
theorem fit_mod {x y : Int} (hy : Fit y) (h0 : 0 < y) : Fit (x % y) := by
  have h1 := Int.emod_nonneg x (show y ≠ 0 by omega)
  have h2 := Int.emod_lt_of_pos x h0
  exact fit_le (by omega) hy
theorem pow_big {x : Int} {n : Nat} (h : 2000 ≤ (ndig x.natAbs - 1) * n) : ¬ Fit (x ^ n) := by
  intro hf
  have hx : 0 < x.natAbs := by
    rcases Nat.eq_zero_or_pos x.natAbs with e | e
    · rw [e] at h; simp [ndig] at h
    · exact e
  have hd : ndig x.natAbs = (decs x.natAbs).length := by unfold ndig; rw [if_neg (by omega)]
  rw [hd] at h
  have h1 := Nat.pow_le_pow_left (decs_lo hx) n
  rw [← Nat.pow_mul] at h1
  have h2 : (x ^ n).natAbs = x.natAbs ^ n := Int.natAbs_pow x n
  have hp : 0 < (x ^ n).natAbs := by rw [h2]; exact Nat.pow_pos hx
  unfold Fit ndig at hf
  rw [if_neg (by omega)] at hf
  have h3 := decs_hi (x ^ n).natAbs
  rw [h2] at h3 hf
  generalize hk : (decs (x.natAbs ^ n)).length = k at h3 hf
  generalize hm : ((decs x.natAbs).length - 1) * n = j at h1 h
  have h4 : 10 ^ j < 10 ^ k := Nat.lt_of_le_of_lt h1 h3
  have h5 := (Nat.pow_lt_pow_iff_right (by decide : 1 < 10)).1 h4
  omega
noncomputable def divQ (a b : ByteArray) : ByteArray := if okS a = true ∧ okS b = true ∧ 0 < numS b then txt (numS a / numS b) else { data := #[] }
noncomputable def divR (a b : ByteArray) : ByteArray := if okS a = true ∧ okS b = true ∧ 0 < numS b then txt (numS a % numS b) else { data := #[] }
noncomputable def divE (a b : ByteArray) : Nat := if okS a = true ∧ okS b = true then (if 0 < numS b then 0 else 2) else 1
def powIn (n : Int) : Prop := 0 ≤ n ∧ n ≤ 10000
instance (n : Int) : Decidable (powIn n) := inferInstanceAs (Decidable (0 ≤ n ∧ n ≤ 10000))
noncomputable def powS (a : ByteArray) (n : Int) : ByteArray := if okS a = true ∧ powIn n then toldS (numS a ^ n.toNat) else { data := #[] }
noncomputable def powE (a : ByteArray) (n : Int) : Nat := if okS a = true then (if powIn n then toldE (numS a ^ n.toNat) else 2) else 1
def rstIn (d : Int) : Prop := 1 ≤ d ∧ d ≤ 2147483647
instance (d : Int) : Decidable (rstIn d) := inferInstanceAs (Decidable (1 ≤ d ∧ d ≤ 2147483647))
noncomputable def rstV (a : ByteArray) (d : Int) : Int := if okS a = true ∧ rstIn d then numS a % d else 0
noncomputable def rstE (a : ByteArray) (d : Int) : Nat := if okS a = true then (if rstIn d then 0 else 2) else 1
theorem str_as2 {a b : ByteArray} (h : a = b) : AV.lit (.string a) = AV.lit (.string b) := by rw [h]
theorem div_no {a b : ByteArray} (h : ¬ (okS a = true ∧ okS b = true)) : divQ a b = { data := #[] } ∧ divR a b = { data := #[] } ∧ divE a b = 1 :=
  ⟨if_neg fun e => h ⟨e.1, e.2.1⟩, if_neg fun e => h ⟨e.1, e.2.1⟩, if_neg h⟩
theorem div_arg {a b : ByteArray} (h : okS a = true ∧ okS b = true) (h0 : ¬ 0 < numS b) : divQ a b = { data := #[] } ∧ divR a b = { data := #[] } ∧ divE a b = 2 :=
  ⟨if_neg fun e => h0 e.2.2, if_neg fun e => h0 e.2.2, by unfold divE; rw [if_pos h, if_neg h0]⟩
theorem div_yes {a b : ByteArray} (h : okS a = true ∧ okS b = true) (h0 : 0 < numS b) : divQ a b = txt (numS a / numS b) ∧ divR a b = txt (numS a % numS b) ∧ divE a b = 0 :=
  ⟨if_pos ⟨h.1, h.2, h0⟩, if_pos ⟨h.1, h.2, h0⟩, by unfold divE; rw [if_pos h, if_pos h0]⟩
theorem pow_no {a : ByteArray} {n : Int} (h : ¬ okS a = true) : powS a n = { data := #[] } ∧ powE a n = 1 := ⟨if_neg fun e => h e.1, if_neg h⟩
theorem pow_arg {a : ByteArray} {n : Int} (h : okS a = true) (hn : ¬ powIn n) : powS a n = { data := #[] } ∧ powE a n = 2 := ⟨if_neg fun e => hn e.2, by unfold powE; rw [if_pos h, if_neg hn]⟩
theorem pow_yes {a : ByteArray} {n : Int} (h : okS a = true) (hn : powIn n) : powS a n = toldS (numS a ^ n.toNat) ∧ powE a n = toldE (numS a ^ n.toNat) := ⟨if_pos ⟨h, hn⟩, by unfold powE; rw [if_pos h, if_pos hn]⟩
theorem told_big {z : Int} (h : ¬ Fit z) : toldS z = { data := #[] } ∧ toldE z = 3 := ⟨if_neg h, if_neg h⟩
theorem told_fit {z : Int} (h : Fit z) : toldS z = txt z ∧ toldE z = 0 := ⟨if_pos h, if_pos h⟩
theorem pow_long {a : ByteArray} {n : Int} (h : okS a = true) (hn : powIn n) (hb : 2000 ≤ (ndig (numS a).natAbs - 1) * n.toNat) : powS a n = { data := #[] } ∧ powE a n = 3 := by
  have := pow_yes h hn
  have h2 := told_big (pow_big hb)
  exact ⟨this.1.trans h2.1, this.2.trans h2.2⟩
theorem txt_one : txt 1 = ⟨#[49]⟩ := by
  simp [txt, txtL, decs, strN]
  rfl
theorem pow_zero {a : ByteArray} (h : okS a = true) : powS a 0 = { data := #[49] } ∧ powE a 0 = 0 := by
  have := pow_yes h (n := 0) ⟨by decide, by decide⟩
  rw [this.1, this.2]
  show toldS (numS a ^ 0) = _ ∧ toldE (numS a ^ 0) = _
  rw [Int.pow_zero]
  have hf : Fit 1 := fit_of_pow (k := 1) (by decide) (by decide) (by decide)
  exact ⟨(told_fit hf).1.trans txt_one, (told_fit hf).2⟩
end Go.Mth

set_option linter.unusedVariables false
set_option linter.unusedSimpArgs false
namespace Go.Proofs.YtpamhblonmpniaaGreatDoor
open Go Go.Ab Go.Mth
theorem Wt_tC61 : callable cx.P 61 = true := by kernel_rfl
theorem Wt_tC55 : callable cx.P 55 = true := by kernel_rfl
theorem Wt_tC50 : callable cx.P 50 = true := by kernel_rfl
theorem Wt_tC51 : callable cx.P 51 = true := by kernel_rfl
theorem Wt_tO89 : tyZero cx.P 89 = some [(Go.Value.bool false), (Go.Value.slice none 0 0)] := by kernel_rfl
theorem Wt_tZ89 : tySize cx.P 89 = some 2 := by kernel_rfl
theorem Wt_tA89 : tyAgg cx.P 89 = some 2 := by kernel_rfl
theorem Wt_tC62 : callable cx.P 62 = true := by kernel_rfl
theorem Wt_tC63 : callable cx.P 63 = true := by kernel_rfl
theorem Wt_tC53 : callable cx.P 53 = true := by kernel_rfl
theorem Wt_tC64 : callable cx.P 64 = true := by kernel_rfl
theorem Wt_tC52 : callable cx.P 52 = true := by kernel_rfl
theorem Wt_tC54 : callable cx.P 54 = true := by kernel_rfl
theorem c_nGcd (a b : ByteArray) (ha : a.size ≤ 9223372036854775807) (hb : b.size ≤ 9223372036854775807) : ECalls cx 35 [(AV.lit (.string (a))), (AV.lit (.string (b)))] (.tup [.lit (.string (if okS a && okS b then toldS ((Int.gcd (numS a) (numS b) : Nat) : Int) else { data := #[] })), nm .i64 (if okS a && okS b then toldE ((Int.gcd (numS a) (numS b) : Nat) : Int) else 1)]) := by
  refine ecalls_of_awp Tryz.func35 (c := _) rfl (Nat.le_of_ble_eq_true rfl) ?_
  show awp cx 11 _ (postF cx Tryz.f35 _) ⟨[(0, (AV.lit (.string (a)))), (1, (AV.lit (.string (b))))], []⟩
  refine awp_seq fun K0 hK0 => ?_
  refine awp_region rfl ?_
  refine o_as (AV.lit (.string (({data := #[]} : ByteArray)))) rfl ?_
  refine o_as (nm .i64 (0)) rfl ?_
  refine aops_end ?_
  refine hK0 _ ?_
  refine awp_seq fun K1 hK1 => ?_
  refine awp_region rfl ?_
  refine o_mv (AV.lit (.string (a))) rfl ?_
  refine o_mv (AV.lit (.string (b))) rfl ?_
  refine o_ct (c_nBinary a b 61 (fun x y => ((Int.gcd x y : Nat) : Int)) Wt_tC61 (fun x y hx hy => c_wGcd x y (by omega) (by omega)) (fun x y hx hy => by have := len_gcd x y; omega) ha hb) Gd.none Wt_tC55 rfl ?_
  refine o_extract (AV.lit (.string (if okS a && okS b then toldS ((Int.gcd (numS a) (numS b) : Nat) : Int) else { data := #[] }))) Gd.none rfl rfl ?_
  refine o_extract (nm .i64 (if okS a && okS b then toldE ((Int.gcd (numS a) (numS b) : Nat) : Int) else 1)) Gd.none rfl rfl ?_
  refine o_as (AV.lit (.string (if okS a && okS b then toldS ((Int.gcd (numS a) (numS b) : Nat) : Int) else { data := #[] }))) rfl ?_
  refine o_as (nm .i64 (if okS a && okS b then toldE ((Int.gcd (numS a) (numS b) : Nat) : Int) else 1)) rfl ?_
  refine aops_end ?_
  refine hK1 _ ?_
  refine awp_ret ?_
  refine post_ret ⟨[(AV.lit (.string (if okS a && okS b then toldS ((Int.gcd (numS a) (numS b) : Nat) : Int) else { data := #[] }))), (nm .i64 (if okS a && okS b then toldE ((Int.gcd (numS a) (numS b) : Nat) : Int) else 1))], And.intro (AV.le_refl _) (And.intro (AV.le_refl _) (trivial)), rfl, ?_⟩
  rfl

theorem c_nDivide (a b : ByteArray) (ha : a.size ≤ 9223372036854775807) (hb : b.size ≤ 9223372036854775807) : ECalls cx 36 [(AV.lit (.string (a))), (AV.lit (.string (b)))] (.tup [.lit (.string (divQ a b)), .lit (.string (divR a b)), nm .i64 (divE a b)]) := by
  refine ecalls_of_awp Tryz.func36 (c := _) rfl (Nat.le_of_ble_eq_true rfl) ?_
  show awp cx 45 _ (postF cx Tryz.f36 _) ⟨[(0, (AV.lit (.string (a)))), (1, (AV.lit (.string (b))))], []⟩
  refine awp_seq fun K0 hK0 => ?_
  refine awp_region rfl ?_
  refine o_as (AV.lit (.string (({data := #[]} : ByteArray)))) rfl ?_
  refine o_as (AV.lit (.string (({data := #[]} : ByteArray)))) rfl ?_
  refine o_as (nm .i64 (0)) rfl ?_
  refine aops_end ?_
  refine hK0 _ ?_
  refine awp_seq fun K1 hK1 => ?_
  refine awp_seq fun K2 hK2 => ?_
  refine awp_region rfl ?_
  refine o_mv (AV.lit (.string (a))) rfl ?_
  refine o_ct (c_nValid (a) (by first | assumption | decide | omega)) Gd.none Wt_tC50 rfl ?_
  refine o_not (b := okS (a)) Gd.none rfl ?_
  refine o_mv (AV.lit (.bool (!(okS (a))))) rfl ?_
  refine o_split (b := !(okS (a))) 16 rfl (fun h1 => ?_) (fun h1 => ?_)
  · have ha' : okS a = false := by simpa using h1
    refine o_skip rfl rfl h1 ?_
    refine o_skip rfl rfl h1 ?_
    refine o_skip rfl rfl h1 ?_
    refine o_pickT (AV.lit (.bool true)) Gd.none rfl h1 rfl ?_
    refine aops_end ?_
    refine hK2 _ ?_
    refine awp_condB (b := true) rfl (fun _ => ?_) (fun hh => absurd (hh.symm.trans rfl) (by decide))
    refine awp_seq fun K3 hK3 => ?_
    refine awp_region rfl ?_
    refine o_as (AV.lit (.string (({data := #[]} : ByteArray)))) rfl ?_
    refine o_as (AV.lit (.string (({data := #[]} : ByteArray)))) rfl ?_
    refine o_as (nm .i64 (1)) rfl ?_
    refine aops_end ?_
    refine hK3 _ ?_
    refine awp_ret ?_
    refine post_ret ⟨[(AV.lit (.string (({data := #[]} : ByteArray)))), (AV.lit (.string (({data := #[]} : ByteArray)))), (nm .i64 (1))], And.intro (AV.le_refl _) (And.intro (AV.le_refl _) (And.intro (AV.le_refl _) (trivial))), rfl, ?_⟩
    have e := div_no (a := a) (b := b) (fun h => by rw [ha'] at h; exact absurd h.1 (by decide))
    exact tup_eq3 (str_as2 e.1) (str_as2 e.2.1) (congrArg (nm _) e.2.2)
  · have ha' : okS a = true := by simpa using h1
    have hSa := okS_iff.1 ha'
    have hla := len_numS hSa
    refine o_move (AV.lit (.string (b))) (Gd.yes rfl rfl h1) rfl ?_
    refine o_ct (c_nValid (b) (by first | assumption | decide | omega)) (Gd.yes rfl rfl h1) Wt_tC50 rfl ?_
    refine o_not (b := okS (b)) (Gd.yes rfl rfl h1) rfl ?_
    refine o_pickF (AV.lit (.bool (!(okS (b))))) Gd.none rfl h1 rfl ?_
    refine aops_end ?_
    refine hK2 _ ?_
    refine awp_condB (b := !(okS (b))) rfl (fun h2 => ?_) (fun h2 => ?_)
    · have hb' : okS b = false := by simpa using h2
      refine awp_seq fun K4 hK4 => ?_
      refine awp_region rfl ?_
      refine o_as (AV.lit (.string (({data := #[]} : ByteArray)))) rfl ?_
      refine o_as (AV.lit (.string (({data := #[]} : ByteArray)))) rfl ?_
      refine o_as (nm .i64 (1)) rfl ?_
      refine aops_end ?_
      refine hK4 _ ?_
      refine awp_ret ?_
      refine post_ret ⟨[(AV.lit (.string (({data := #[]} : ByteArray)))), (AV.lit (.string (({data := #[]} : ByteArray)))), (nm .i64 (1))], And.intro (AV.le_refl _) (And.intro (AV.le_refl _) (And.intro (AV.le_refl _) (trivial))), rfl, ?_⟩
      have e := div_no (a := a) (b := b) (fun h => by rw [hb'] at h; exact absurd h.2 (by decide))
      exact tup_eq3 (str_as2 e.1) (str_as2 e.2.1) (congrArg (nm _) e.2.2)
    · have hb' : okS b = true := by simpa using h2
      have hSb := okS_iff.1 hb'
      have hlb := len_numS hSb
      refine awp_skip ?_
      refine hK1 _ ?_
      refine awp_seq fun K5 hK5 => ?_
      refine awp_region rfl ?_
      refine o_mv (AV.lit (.string (a))) rfl ?_
      refine o_ct (c_wParse (a) (by first | assumption | exact okS_iff.1 (by assumption))) Gd.none Wt_tC51 rfl ?_
      refine o_mv (AV.lit (.string (b))) rfl ?_
      refine o_ct (c_wParse (b) (by first | assumption | exact okS_iff.1 (by assumption))) Gd.none Wt_tC51 rfl ?_
      refine o_alloc 2 [(AV.lit (.bool false)), (AV.lit (.slice none 0 0))] Gd.none Wt_tO89 rfl rfl rfl ?_
      refine o_alloc 3 [(AV.lit (.bool false)), (AV.lit (.slice none 0 0))] Gd.none Wt_tO89 rfl rfl rfl ?_
      refine o_store [(3, (AO.var 89 [(AV.lit (.bool false)), (AV.lit (.slice none 0 0))])), (2, (oZ 89 .u32 ((numS (a)))))] Gd.none Wt_tZ89 rfl rfl rfl rfl rfl rfl ?_
      refine o_store [(3, (oZ 89 .u32 ((numS (b))))), (2, (oZ 89 .u32 ((numS (a)))))] Gd.none Wt_tZ89 rfl rfl rfl rfl rfl rfl ?_
      refine aops_end ?_
      refine hK5 _ ?_
      refine awp_seq fun K6 hK6 => ?_
      refine awp_seq fun K7 hK7 => ?_
      refine awp_region rfl ?_
      refine o_loadA [(bp ((numS (b)) < 0)), (AV.sl 1 (ns .u32 (digs ((numS (b))).natAbs)))] Gd.none Wt_tA89 rfl rfl rfl rfl rfl ?_
      refine o_ct (c_wSign ((numS (b)))) Gd.none Wt_tC62 rfl ?_
      refine o_leq (a := (sgn ((numS (b))))) (c := (((0 : Nat) : Int))) Gd.none rfl rfl ?_
      refine aops_end ?_
      refine hK7 _ ?_
      refine awp_condQ (q := (sgn ((numS (b)))) ≤ (((0 : Nat) : Int))) rfl (fun h3 => ?_) (fun h3 => ?_)
      · have hb0 := sgn_le.1 h3
        refine awp_seq fun K8 hK8 => ?_
        refine awp_region rfl ?_
        refine o_as (AV.lit (.string (({data := #[]} : ByteArray)))) rfl ?_
        refine o_as (AV.lit (.string (({data := #[]} : ByteArray)))) rfl ?_
        refine o_as (nm .i64 (2)) rfl ?_
        refine aops_end ?_
        refine hK8 _ ?_
        refine awp_ret ?_
        refine post_ret ⟨[(AV.lit (.string (({data := #[]} : ByteArray)))), (AV.lit (.string (({data := #[]} : ByteArray)))), (nm .i64 (2))], And.intro (AV.le_refl _) (And.intro (AV.le_refl _) (And.intro (AV.le_refl _) (trivial))), rfl, ?_⟩
        have e := div_arg ⟨ha', hb'⟩ (by omega)
        exact tup_eq3 (str_as2 e.1) (str_as2 e.2.1) (congrArg (nm _) e.2.2)
      · have hb0 : 0 < numS b := Int.not_le.1 fun h => h3 (sgn_le.2 h)
        have hfq := fit_div (fit_numS hSa) hb0
        have hlq := fit_len hfq
        have hfr := fit_mod (x := numS a) (fit_numS hSb) hb0
        have hlr := fit_len hfr
        refine awp_skip ?_
        refine hK6 _ ?_
        refine awp_seq fun K9 hK9 => ?_
        refine awp_region rfl ?_
        refine o_loadA [(bp ((numS (a)) < 0)), (AV.sl 1 (ns .u32 (digs ((numS (a))).natAbs)))] Gd.none Wt_tA89 rfl rfl rfl rfl rfl ?_
        refine o_loadA [(bp ((numS (b)) < 0)), (AV.sl 1 (ns .u32 (digs ((numS (b))).natAbs)))] Gd.none Wt_tA89 rfl rfl rfl rfl rfl ?_
        refine o_ct (c_wDivide ((numS (a))) ((numS (b))) (by omega) (by omega) (by omega)) Gd.none Wt_tC63 rfl ?_
        refine o_mv (AV.tup [(intW (((numS (a)) / (numS (b))))), (intW (((numS (a)) % (numS (b)))))]) rfl ?_
        refine o_extract (intW (((numS (a)) / (numS (b))))) Gd.none rfl rfl ?_
        refine o_extract (intW (((numS (a)) % (numS (b))))) Gd.none rfl rfl ?_
        refine o_alloc 4 [(AV.lit (.bool false)), (AV.lit (.slice none 0 0))] Gd.none Wt_tO89 rfl rfl rfl ?_
        refine o_alloc 5 [(AV.lit (.bool false)), (AV.lit (.slice none 0 0))] Gd.none Wt_tO89 rfl rfl rfl ?_
        refine o_store [(5, (AO.var 89 [(AV.lit (.bool false)), (AV.lit (.slice none 0 0))])), (4, (oZ 89 .u32 (((numS (a)) / (numS (b)))))), (3, (oZ 89 .u32 ((numS (b))))), (2, (oZ 89 .u32 ((numS (a)))))] Gd.none Wt_tZ89 rfl rfl rfl rfl rfl rfl ?_
        refine o_store [(5, (oZ 89 .u32 (((numS (a)) % (numS (b)))))), (4, (oZ 89 .u32 (((numS (a)) / (numS (b)))))), (3, (oZ 89 .u32 ((numS (b))))), (2, (oZ 89 .u32 ((numS (a)))))] Gd.none Wt_tZ89 rfl rfl rfl rfl rfl rfl ?_
        refine aops_end ?_
        refine hK9 _ ?_
        refine awp_seq fun K10 hK10 => ?_
        refine awp_region rfl ?_
        refine o_loadA [(bp (((numS (a)) / (numS (b))) < 0)), (AV.sl 1 (ns .u32 (digs (((numS (a)) / (numS (b)))).natAbs)))] Gd.none Wt_tA89 rfl rfl rfl rfl rfl ?_
        refine o_ct (c_nTold (((numS (a)) / (numS (b)))) (by first | omega | assumption | (simp only [Int.natAbs_neg]; omega))) Gd.none Wt_tC53 rfl ?_
        refine o_mv (AV.tup [(AV.lit (.string (toldS (((numS (a)) / (numS (b))))))), (nm .i64 (toldE (((numS (a)) / (numS (b))))))]) rfl ?_
        refine o_extract (AV.lit (.string (toldS (((numS (a)) / (numS (b))))))) Gd.none rfl rfl ?_
        refine n_as (v' := (AV.lit (.string (txt (numS (a) / numS (b)))))) (by exact str_as2 (told_fit hfq).1) ?_
        refine o_extract (nm .i64 (toldE (((numS (a)) / (numS (b)))))) Gd.none rfl rfl ?_
        refine n_as (v' := (nm .i64 (0))) (by exact congrArg (nm _) (told_fit hfq).2) ?_
        refine o_as (AV.lit (.string (txt (numS (a) / numS (b))))) rfl ?_
        refine o_as (nm .i64 (0)) rfl ?_
        refine aops_end ?_
        refine hK10 _ ?_
        refine awp_seq fun K11 hK11 => ?_
        refine awp_seq fun K12 hK12 => ?_
        refine awp_region rfl ?_
        refine o_mv (nm .i64 (0)) rfl ?_
        refine n_neq (0) (0) Gd.none rfl rfl ?_
        refine aops_end ?_
        refine hK12 _ ?_
        refine awp_condB (b := decide ((0) ≠ (0))) rfl (fun hh => absurd (hh.symm.trans (decide_eq_false (by decide))) (by decide)) (fun _ => ?_)
        refine awp_skip ?_
        refine hK11 _ ?_
        refine awp_seq fun K13 hK13 => ?_
        refine awp_region rfl ?_
        refine o_mv (AV.lit (.string (txt (numS (a) / numS (b))))) rfl ?_
        refine o_loadA [(bp (((numS (a)) % (numS (b))) < 0)), (AV.sl 1 (ns .u32 (digs (((numS (a)) % (numS (b)))).natAbs)))] Gd.none Wt_tA89 rfl rfl rfl rfl rfl ?_
        refine o_ct (c_wText (((numS (a)) % (numS (b)))) (by first | omega | assumption | (simp only [Int.natAbs_neg]; omega))) Gd.none Wt_tC64 rfl ?_
        refine o_as (AV.lit (.string (txt (numS (a) / numS (b))))) rfl ?_
        refine o_as (AV.lit (.string (txt (((numS (a)) % (numS (b))))))) rfl ?_
        refine o_as (nm .i64 (0)) rfl ?_
        refine aops_end ?_
        refine hK13 _ ?_
        refine awp_ret ?_
        refine post_ret ⟨[(AV.lit (.string (txt (numS (a) / numS (b))))), (AV.lit (.string (txt (((numS (a)) % (numS (b))))))), (nm .i64 (0))], And.intro (AV.le_refl _) (And.intro (AV.le_refl _) (And.intro (AV.le_refl _) (trivial))), rfl, ?_⟩
        have e := div_yes ⟨ha', hb'⟩ hb0
        exact tup_eq3 (str_as2 e.1) (str_as2 e.2.1) (congrArg (nm _) e.2.2)

theorem c_nPower (a : ByteArray) (n : Int) (ha : a.size ≤ 9223372036854775807) : ECalls cx 28 [(AV.lit (.string (a))), (AV.lit (.int .i64 (n)))] (.tup [.lit (.string (powS a n)), nm .i64 (powE a n)]) := by
  refine ecalls_of_awp Tryz.func28 (c := _) rfl (Nat.le_of_ble_eq_true rfl) ?_
  show awp cx 35 _ (postF cx Tryz.f28 _) ⟨[(0, (AV.lit (.string (a)))), (1, (AV.lit (.int .i64 (n))))], []⟩
  refine awp_seq fun K0 hK0 => ?_
  refine awp_region rfl ?_
  refine o_as (AV.lit (.string (({data := #[]} : ByteArray)))) rfl ?_
  refine o_as (nm .i64 (0)) rfl ?_
  refine aops_end ?_
  refine hK0 _ ?_
  refine awp_seq fun K1 hK1 => ?_
  refine awp_block ?_
  refine awp_seq fun K2 hK2 => ?_
  refine awp_region rfl ?_
  refine o_mv (AV.lit (.string (a))) rfl ?_
  refine o_ct (c_nValid (a) (by first | assumption | decide | omega)) Gd.none Wt_tC50 rfl ?_
  refine o_not (b := okS (a)) Gd.none rfl ?_
  refine o_as (AV.lit (.bool (!(okS (a))))) rfl ?_
  refine aops_end ?_
  refine hK2 _ ?_
  refine awp_condB (b := !(okS (a))) rfl (fun h1 => ?_) (fun h1 => ?_)
  · have ha' : ¬ okS a = true := by simpa using h1
    refine awp_seq fun K3 hK3 => ?_
    refine awp_region rfl ?_
    refine o_as (AV.lit (.string (({data := #[]} : ByteArray)))) rfl ?_
    refine o_as (nm .i64 (1)) rfl ?_
    refine aops_end ?_
    refine hK3 _ ?_
    refine awp_ret ?_
    refine post_ret ⟨[(AV.lit (.string (({data := #[]} : ByteArray)))), (nm .i64 (1))], And.intro (AV.le_refl _) (And.intro (AV.le_refl _) (trivial)), rfl, ?_⟩
    have e := pow_no (n := n) ha'
    exact tup_eq2 (str_as2 e.1) (congrArg (nm _) e.2)
  · have ha' : okS a = true := by simpa using h1
    have hSa := okS_iff.1 ha'
    have hla := len_numS hSa
    have hfa : ndig (numS a).natAbs ≤ 2000 := fit_numS hSa
    have hdp := ndig_pos (numS a).natAbs
    have hml : (ndig (numS a).natAbs - 1) * n.toNat ≤ 2000 * n.toNat := Nat.mul_le_mul_right _ (by omega)
    refine awp_seq fun K4 hK4 => ?_
    refine awp_region rfl ?_
    refine o_mv (AV.lit (.int .i64 (n))) rfl ?_
    refine o_lss (a := (n)) (c := (((0 : Nat) : Int))) Gd.none rfl rfl ?_
    refine o_mv (bp ((n) < (((0 : Nat) : Int)))) rfl ?_
    refine o_splitP (q := (n) < (((0 : Nat) : Int))) 14 rfl (fun h2 => ?_) (fun h2 => ?_)
    · refine o_skip rfl rfl (decide_eq_true h2) ?_
      refine o_skip rfl rfl (decide_eq_true h2) ?_
      refine o_pickT (AV.lit (.bool true)) Gd.none rfl (decide_eq_true h2) rfl ?_
      refine o_as (AV.lit (.bool true)) rfl ?_
      refine aops_end ?_
      refine hK4 _ ?_
      refine awp_condB (b := true) rfl (fun _ => ?_) (fun hh => absurd (hh.symm.trans rfl) (by decide))
      refine awp_seq fun K5 hK5 => ?_
      refine awp_region rfl ?_
      refine o_as (AV.lit (.string (({data := #[]} : ByteArray)))) rfl ?_
      refine o_as (nm .i64 (2)) rfl ?_
      refine aops_end ?_
      refine hK5 _ ?_
      refine awp_ret ?_
      refine post_ret ⟨[(AV.lit (.string (({data := #[]} : ByteArray)))), (nm .i64 (2))], And.intro (AV.le_refl _) (And.intro (AV.le_refl _) (trivial)), rfl, ?_⟩
      have e := pow_arg (n := n) ha' (fun h => by have := h.1; omega)
      exact tup_eq2 (str_as2 e.1) (congrArg (nm _) e.2)
    · refine o_move (AV.lit (.int .i64 (n))) (Gd.yes rfl rfl (decide_eq_false h2)) rfl ?_
      refine o_gtr (a := (n)) (c := (((10000 : Nat) : Int))) (Gd.yes rfl rfl (decide_eq_false h2)) rfl rfl ?_
      refine o_pickF (bp ((((10000 : Nat) : Int)) < (n))) Gd.none rfl (decide_eq_false h2) rfl ?_
      refine o_as (bp ((((10000 : Nat) : Int)) < (n))) rfl ?_
      refine aops_end ?_
      refine hK4 _ ?_
      refine awp_condQ (q := (((10000 : Nat) : Int)) < (n)) rfl (fun h3 => ?_) (fun h3 => ?_)
      · refine awp_seq fun K6 hK6 => ?_
        refine awp_region rfl ?_
        refine o_as (AV.lit (.string (({data := #[]} : ByteArray)))) rfl ?_
        refine o_as (nm .i64 (2)) rfl ?_
        refine aops_end ?_
        refine hK6 _ ?_
        refine awp_ret ?_
        refine post_ret ⟨[(AV.lit (.string (({data := #[]} : ByteArray)))), (nm .i64 (2))], And.intro (AV.le_refl _) (And.intro (AV.le_refl _) (trivial)), rfl, ?_⟩
        have e := pow_arg (n := n) ha' (fun h => by have := h.2; omega)
        exact tup_eq2 (str_as2 e.1) (congrArg (nm _) e.2)
      · refine awp_seq fun K7 hK7 => ?_
        refine awp_region rfl ?_
        refine o_mv (AV.lit (.int .i64 (n))) rfl ?_
        refine o_eql (a := (n)) (c := (((0 : Nat) : Int))) Gd.none rfl rfl ?_
        refine o_as (bp ((n) = (((0 : Nat) : Int)))) rfl ?_
        refine aops_end ?_
        refine hK7 _ ?_
        refine awp_condQ (q := (n) = (((0 : Nat) : Int))) rfl (fun h4 => ?_) (fun h4 => ?_)
        · refine awp_seq fun K8 hK8 => ?_
          refine awp_region rfl ?_
          refine o_as (AV.lit (.string (({data := #[49]} : ByteArray)))) rfl ?_
          refine o_as (nm .i64 (0)) rfl ?_
          refine aops_end ?_
          refine hK8 _ ?_
          refine awp_ret ?_
          refine post_ret ⟨[(AV.lit (.string (({data := #[49]} : ByteArray)))), (nm .i64 (0))], And.intro (AV.le_refl _) (And.intro (AV.le_refl _) (trivial)), rfl, ?_⟩
          have hn0 : n = 0 := by omega
          subst hn0
          have e := pow_zero ha'
          exact tup_eq2 (str_as2 e.1) (congrArg (nm _) e.2)
        · refine awp_skip ?_
          refine hK1 _ ?_
          refine awp_seq fun K9 hK9 => ?_
          refine awp_region rfl ?_
          refine o_mv (AV.lit (.string (a))) rfl ?_
          refine o_ct (c_wParse (a) (by first | assumption | exact okS_iff.1 (by assumption))) Gd.none Wt_tC51 rfl ?_
          refine o_alloc 2 [(AV.lit (.bool false)), (AV.lit (.slice none 0 0))] Gd.none Wt_tO89 rfl rfl rfl ?_
          refine o_store [(2, (oZ 89 .u32 ((numS (a)))))] Gd.none Wt_tZ89 rfl rfl rfl rfl rfl rfl ?_
          refine aops_end ?_
          refine hK9 _ ?_
          refine awp_seq fun K10 hK10 => ?_
          refine awp_seq fun K11 hK11 => ?_
          refine awp_region rfl ?_
          refine o_loadA [(bp ((numS (a)) < 0)), (AV.sl 1 (ns .u32 (digs ((numS (a))).natAbs)))] Gd.none Wt_tA89 rfl rfl rfl rfl rfl ?_
          refine o_ct (c_wDigits ((numS (a))) (by first | omega | assumption | (simp only [Int.natAbs_neg]; omega))) Gd.none Wt_tC52 rfl ?_
          refine n_sub (ndig ((numS (a))).natAbs) (1) Gd.none rfl rfl (by omega) (by simp only [topOf]; omega) ?_
          refine o_mv (AV.lit (.int .i64 (n))) rfl ?_
          refine n_as (v' := (nm .i64 (n.toNat))) (nm_int (by omega)) ?_
          refine n_mul ((ndig ((numS (a))).natAbs) - (1)) (n.toNat) Gd.none rfl rfl (by simp only [topOf]; omega) ?_
          refine n_geq (((ndig ((numS (a))).natAbs) - (1)) * (n.toNat)) (2000) Gd.none rfl rfl ?_
          refine aops_end ?_
          refine hK11 _ ?_
          refine awp_condQ (q := (2000) ≤ (((ndig ((numS (a))).natAbs) - (1)) * (n.toNat))) rfl (fun h5 => ?_) (fun h5 => ?_)
          · refine awp_seq fun K12 hK12 => ?_
            refine awp_region rfl ?_
            refine o_as (AV.lit (.string (({data := #[]} : ByteArray)))) rfl ?_
            refine o_as (nm .i64 (3)) rfl ?_
            refine aops_end ?_
            refine hK12 _ ?_
            refine awp_ret ?_
            refine post_ret ⟨[(AV.lit (.string (({data := #[]} : ByteArray)))), (nm .i64 (3))], And.intro (AV.le_refl _) (And.intro (AV.le_refl _) (trivial)), rfl, ?_⟩
            have e := pow_long (n := n) ha' ⟨by omega, by omega⟩ (by omega)
            exact tup_eq2 (str_as2 e.1) (congrArg (nm _) e.2)
          · refine awp_skip ?_
            refine hK10 _ ?_
            refine awp_seq fun K13 hK13 => ?_
            refine awp_region rfl ?_
            refine o_loadA [(bp ((numS (a)) < 0)), (AV.sl 1 (ns .u32 (digs ((numS (a))).natAbs)))] Gd.none Wt_tA89 rfl rfl rfl rfl rfl ?_
            refine o_mv (AV.lit (.int .i64 (n))) rfl ?_
            refine n_as (v' := (nm .i64 (n.toNat))) (nm_int (by omega)) ?_
            refine o_ct (c_wPower ((numS (a))) (n.toNat) (by omega) (by omega)) Gd.none Wt_tC54 rfl ?_
            have hpw := len_powB (x := numS a) (e := n.toNat) (by omega) (by omega)
            refine o_ct (c_nTold (((numS (a)) ^ (n.toNat))) (by first | omega | assumption | (simp only [Int.natAbs_neg]; omega))) Gd.none Wt_tC53 rfl ?_
            refine o_extract (AV.lit (.string (toldS (((numS (a)) ^ (n.toNat)))))) Gd.none rfl rfl ?_
            refine o_extract (nm .i64 (toldE (((numS (a)) ^ (n.toNat))))) Gd.none rfl rfl ?_
            refine o_as (AV.lit (.string (toldS (((numS (a)) ^ (n.toNat)))))) rfl ?_
            refine o_as (nm .i64 (toldE (((numS (a)) ^ (n.toNat))))) rfl ?_
            refine aops_end ?_
            refine hK13 _ ?_
            refine awp_ret ?_
            refine post_ret ⟨[(AV.lit (.string (toldS (((numS (a)) ^ (n.toNat)))))), (nm .i64 (toldE (((numS (a)) ^ (n.toNat)))))], And.intro (AV.le_refl _) (And.intro (AV.le_refl _) (trivial)), rfl, ?_⟩
            have e := pow_yes (n := n) ha' ⟨by omega, by omega⟩
            exact tup_eq2 (str_as2 e.1) (congrArg (nm _) e.2)

end Go.Proofs.YtpamhblonmpniaaGreatDoor

set_option linter.unusedVariables false
set_option linter.unusedSimpArgs false
namespace Go.Proofs.YtpamhblonmpniaaGreatDoor
open Go Go.Ab Go.Mth
theorem Ya_tF24_1 : tyField cx.P 24 1 = some (1, 22) := by kernel_rfl
theorem Ya_tS22 : tySc cx.P 22 = true := by kernel_rfl
theorem Ya_tU22 : cx.P.underlying 22 = some (.slice 57) := by kernel_rfl
theorem Ya_tF57_1 : tyField cx.P 57 1 = some (1, 3) := by kernel_rfl
theorem Ya_tS3 : tySc cx.P 3 = true := by kernel_rfl
theorem Ya_tF24_0 : tyField cx.P 24 0 = some (0, 3) := by kernel_rfl
theorem Ya_tA24 : tyAgg cx.P 24 = some 2 := by kernel_rfl
theorem Ya_tF57_2 : tyField cx.P 57 2 = some (2, 3) := by kernel_rfl
theorem Ya_tC47 : callable cx.P 47 = true := by kernel_rfl
theorem Ya_tF57_0 : tyField cx.P 57 0 = some (0, 3) := by kernel_rfl
theorem Ya_tF57_3 : tyField cx.P 57 3 = some (3, 3) := by kernel_rfl
theorem Ya_tA57 : tyAgg cx.P 57 = some 4 := by kernel_rfl
theorem Ya_tC44 : callable cx.P 44 = true := by kernel_rfl
theorem Ya_tE22 : tyElem cx.P 22 = some (57, 4, 32) := by kernel_rfl
theorem Ya_tC43 : callable cx.P 43 = true := by kernel_rfl
theorem Ya_tC65 : callable cx.P 65 = true := by kernel_rfl
theorem Ya_tC42 : callable cx.P 42 = true := by kernel_rfl
theorem Ya_tU25 : cx.P.underlying 25 = some (.slice 3) := by kernel_rfl
theorem Ya_tE25 : tyElem cx.P 25 = some (3, 1, 8) := by kernel_rfl
theorem Ya_tC48 : callable cx.P 48 = true := by kernel_rfl
theorem Ya_tC66 : callable cx.P 66 = true := by kernel_rfl
theorem Ya_tC21 : callable cx.P 21 = true := by kernel_rfl
theorem Ya_tF27_0 : tyField cx.P 27 0 = some (0, 3) := by kernel_rfl
theorem Ya_tF27_1 : tyField cx.P 27 1 = some (1, 25) := by kernel_rfl
theorem Ya_tS25 : tySc cx.P 25 = true := by kernel_rfl
theorem Ya_tC45 : callable cx.P 45 = true := by kernel_rfl
theorem Ya_tC46 : callable cx.P 46 = true := by kernel_rfl
theorem c_place (m : Mac) (z : Int) : ECalls cx 47 [(macV m), (AV.lit (.int .i64 (z)))] (bp (plc m z)) := by
  refine ecalls_of_awp Tryz.func47 (c := _) rfl (Nat.le_of_ble_eq_true rfl) ?_
  show awp cx 14 _ (postF cx Tryz.f47 _) ⟨[(0, (macV m)), (1, (AV.lit (.int .i64 (z))))], []⟩
  refine awp_seq fun K0 hK0 => ?_
  refine awp_region rfl ?_
  refine o_box 2 [(AV.lit (.int .i64 (m.regs))), (AV.sl 4 (gcells cI (m.code)))] Gd.none rfl rfl ?_
  refine o_as (AV.lit (.bool false)) rfl ?_
  refine aops_end ?_
  refine hK0 _ ?_
  refine awp_seq fun K1 hK1 => ?_
  refine awp_region rfl ?_
  refine o_mv (AV.lit (.int .i64 (z))) rfl ?_
  refine o_geq (a := (z)) (c := (((0 : Nat) : Int))) Gd.none rfl rfl ?_
  refine o_mv (bp ((((0 : Nat) : Int)) ≤ (z))) rfl ?_
  refine o_splitP (q := (((0 : Nat) : Int)) ≤ (z)) 7 rfl (fun h1 => ?_) (fun h1 => ?_)
  · refine o_move (AV.lit (.int .i64 (z))) (Gd.yes rfl rfl (decide_eq_true h1)) rfl ?_
    refine o_fieldRef 1 (Gd.yes rfl rfl (decide_eq_true h1)) Ya_tF24_1 rfl rfl ?_
    refine o_loadS (AV.sl 4 (gcells cI (m.code))) (Gd.yes rfl rfl (decide_eq_true h1)) Ya_tS22 rfl rfl rfl ?_
    refine g_len cI (m.code) cI_len (Gd.yes rfl rfl (decide_eq_true h1)) Ya_tU22 rfl ?_
    refine o_leq (a := (z)) (c := ((((m.code).length : Nat) : Int))) (Gd.yes rfl rfl (decide_eq_true h1)) rfl rfl ?_
    refine o_pickT (bp ((z) ≤ ((((m.code).length : Nat) : Int)))) Gd.none rfl (decide_eq_true h1) rfl ?_
    refine o_as (bp ((z) ≤ ((((m.code).length : Nat) : Int)))) rfl ?_
    refine aops_end ?_
    refine hK1 _ ?_
    refine awp_ret ?_
    refine post_ret ⟨[(bp ((z) ≤ ((((m.code).length : Nat) : Int))))], And.intro (AV.le_refl _) (trivial), rfl, ?_⟩
    first | rfl | exact bpc (by simp only [insP, plc, regP] at *; omega) | exact bpn (by simp only [insP, plc, regP] at *; omega) | exact bpy (by simp only [insP, plc, regP] at *; omega)
  · refine o_skip rfl rfl (decide_eq_false h1) ?_
    refine o_skip rfl rfl (decide_eq_false h1) ?_
    refine o_skip rfl rfl (decide_eq_false h1) ?_
    refine o_skip rfl rfl (decide_eq_false h1) ?_
    refine o_skip rfl rfl (decide_eq_false h1) ?_
    refine o_pickF (AV.lit (.bool false)) Gd.none rfl (decide_eq_false h1) rfl ?_
    refine o_as (AV.lit (.bool false)) rfl ?_
    refine aops_end ?_
    refine hK1 _ ?_
    refine awp_ret ?_
    refine post_ret ⟨[(AV.lit (.bool false))], And.intro (AV.le_refl _) (trivial), rfl, ?_⟩
    first | rfl | exact bpc (by simp only [insP, plc, regP] at *; omega) | exact bpn (by simp only [insP, plc, regP] at *; omega) | exact bpy (by simp only [insP, plc, regP] at *; omega)

theorem c_instr (m : Mac) (x : Ins) : ECalls cx 44 [(macV m), (AV.agg [(AV.lit (.int .i64 ((x).kind))), (AV.lit (.int .i64 ((x).reg))), (AV.lit (.int .i64 ((x).next))), (AV.lit (.int .i64 ((x).els)))])] (bp (insP m x)) := by
  refine ecalls_of_awp Tryz.func44 (c := _) rfl (Nat.le_of_ble_eq_true rfl) ?_
  show awp cx 39 _ (postF cx Tryz.f44 _) ⟨[(0, (macV m)), (1, (AV.agg [(AV.lit (.int .i64 ((x).kind))), (AV.lit (.int .i64 ((x).reg))), (AV.lit (.int .i64 ((x).next))), (AV.lit (.int .i64 ((x).els)))]))], []⟩
  refine awp_seq fun K0 hK0 => ?_
  refine awp_region rfl ?_
  refine o_box 2 [(AV.lit (.int .i64 (m.regs))), (AV.sl 4 (gcells cI (m.code)))] Gd.none rfl rfl ?_
  refine o_box 3 [(AV.lit (.int .i64 ((x).kind))), (AV.lit (.int .i64 ((x).reg))), (AV.lit (.int .i64 ((x).next))), (AV.lit (.int .i64 ((x).els)))] Gd.none rfl rfl ?_
  refine o_as (AV.lit (.bool false)) rfl ?_
  refine aops_end ?_
  refine hK0 _ ?_
  refine awp_seq fun K1 hK1 => ?_
  refine awp_block ?_
  refine awp_seq fun K2 hK2 => ?_
  refine awp_region rfl ?_
  refine o_fieldRef 1 Gd.none Ya_tF57_1 rfl rfl ?_
  refine o_loadS (AV.lit (.int .i64 ((x).reg))) Gd.none Ya_tS3 rfl rfl rfl ?_
  refine o_lss (a := ((x).reg)) (c := (((0 : Nat) : Int))) Gd.none rfl rfl ?_
  refine o_mv (bp (((x).reg) < (((0 : Nat) : Int)))) rfl ?_
  refine o_splitP (q := ((x).reg) < (((0 : Nat) : Int))) 9 rfl (fun h1 => ?_) (fun h1 => ?_)
  · refine o_skip rfl rfl (decide_eq_true h1) ?_
    refine o_skip rfl rfl (decide_eq_true h1) ?_
    refine o_skip rfl rfl (decide_eq_true h1) ?_
    refine o_skip rfl rfl (decide_eq_true h1) ?_
    refine o_skip rfl rfl (decide_eq_true h1) ?_
    refine o_pickT (AV.lit (.bool true)) Gd.none rfl (decide_eq_true h1) rfl ?_
    refine o_mv (AV.lit (.bool true)) rfl ?_
    refine o_skip rfl rfl rfl ?_
    refine o_skip rfl rfl rfl ?_
    refine o_skip rfl rfl rfl ?_
    refine o_skip rfl rfl rfl ?_
    refine o_skip rfl rfl rfl ?_
    refine o_pickT (AV.lit (.bool true)) Gd.none rfl rfl rfl ?_
    refine o_as (AV.lit (.bool true)) rfl ?_
    refine aops_end ?_
    refine hK2 _ ?_
    refine awp_condB (b := true) rfl (fun _ => ?_) (fun hh => absurd (hh.symm.trans rfl) (by decide))
    refine awp_seq fun K3 hK3 => ?_
    refine awp_region rfl ?_
    refine o_as (AV.lit (.bool false)) rfl ?_
    refine aops_end ?_
    refine hK3 _ ?_
    refine awp_ret ?_
    refine post_ret ⟨[(AV.lit (.bool false))], And.intro (AV.le_refl _) (trivial), rfl, ?_⟩
    first | rfl | exact bpc (by simp only [insP, plc, regP] at *; omega) | exact bpn (by simp only [insP, plc, regP] at *; omega) | exact bpy (by simp only [insP, plc, regP] at *; omega)
  · refine o_fieldRef 1 (Gd.yes rfl rfl (decide_eq_false h1)) Ya_tF57_1 rfl rfl ?_
    refine o_loadS (AV.lit (.int .i64 ((x).reg))) (Gd.yes rfl rfl (decide_eq_false h1)) Ya_tS3 rfl rfl rfl ?_
    refine o_fieldRef 0 (Gd.yes rfl rfl (decide_eq_false h1)) Ya_tF24_0 rfl rfl ?_
    refine o_loadS (AV.lit (.int .i64 (m.regs))) (Gd.yes rfl rfl (decide_eq_false h1)) Ya_tS3 rfl rfl rfl ?_
    refine o_geq (a := ((x).reg)) (c := (m.regs)) (Gd.yes rfl rfl (decide_eq_false h1)) rfl rfl ?_
    refine o_pickF (bp ((m.regs) ≤ ((x).reg))) Gd.none rfl (decide_eq_false h1) rfl ?_
    refine o_mv (bp ((m.regs) ≤ ((x).reg))) rfl ?_
    refine o_splitP (q := (m.regs) ≤ ((x).reg)) 16 rfl (fun h2 => ?_) (fun h2 => ?_)
    · refine o_skip rfl rfl (decide_eq_true h2) ?_
      refine o_skip rfl rfl (decide_eq_true h2) ?_
      refine o_skip rfl rfl (decide_eq_true h2) ?_
      refine o_skip rfl rfl (decide_eq_true h2) ?_
      refine o_skip rfl rfl (decide_eq_true h2) ?_
      refine o_pickT (AV.lit (.bool true)) Gd.none rfl (decide_eq_true h2) rfl ?_
      refine o_as (AV.lit (.bool true)) rfl ?_
      refine aops_end ?_
      refine hK2 _ ?_
      refine awp_condB (b := true) rfl (fun _ => ?_) (fun hh => absurd (hh.symm.trans rfl) (by decide))
      refine awp_seq fun K4 hK4 => ?_
      refine awp_region rfl ?_
      refine o_as (AV.lit (.bool false)) rfl ?_
      refine aops_end ?_
      refine hK4 _ ?_
      refine awp_ret ?_
      refine post_ret ⟨[(AV.lit (.bool false))], And.intro (AV.le_refl _) (trivial), rfl, ?_⟩
      first | rfl | exact bpc (by simp only [insP, plc, regP] at *; omega) | exact bpn (by simp only [insP, plc, regP] at *; omega) | exact bpy (by simp only [insP, plc, regP] at *; omega)
    · refine o_loadA [(AV.lit (.int .i64 (m.regs))), (AV.sl 4 (gcells cI (m.code)))] (Gd.yes rfl rfl (decide_eq_false h2)) Ya_tA24 rfl rfl rfl rfl rfl ?_
      refine o_fieldRef 2 (Gd.yes rfl rfl (decide_eq_false h2)) Ya_tF57_2 rfl rfl ?_
      refine o_loadS (AV.lit (.int .i64 ((x).next))) (Gd.yes rfl rfl (decide_eq_false h2)) Ya_tS3 rfl rfl rfl ?_
      refine o_ct (c_place m ((x).next)) (Gd.yes rfl rfl (decide_eq_false h2)) Ya_tC47 rfl ?_
      refine o_notP (q := plc m ((x).next)) (Gd.yes rfl rfl (decide_eq_false h2)) rfl ?_
      refine o_pickF (bp (¬ (plc m ((x).next)))) Gd.none rfl (decide_eq_false h2) rfl ?_
      refine o_as (bp (¬ (plc m ((x).next)))) rfl ?_
      refine aops_end ?_
      refine hK2 _ ?_
      refine awp_condQ (q := ¬ (plc m ((x).next))) rfl (fun h3 => ?_) (fun h3 => ?_)
      · refine awp_seq fun K5 hK5 => ?_
        refine awp_region rfl ?_
        refine o_as (AV.lit (.bool false)) rfl ?_
        refine aops_end ?_
        refine hK5 _ ?_
        refine awp_ret ?_
        refine post_ret ⟨[(AV.lit (.bool false))], And.intro (AV.le_refl _) (trivial), rfl, ?_⟩
        first | rfl | exact bpc (by simp only [insP, plc, regP] at *; omega) | exact bpn (by simp only [insP, plc, regP] at *; omega) | exact bpy (by simp only [insP, plc, regP] at *; omega)
      · refine awp_seq fun K6 hK6 => ?_
        refine awp_region rfl ?_
        refine o_fieldRef 0 Gd.none Ya_tF57_0 rfl rfl ?_
        refine o_loadS (AV.lit (.int .i64 ((x).kind))) Gd.none Ya_tS3 rfl rfl rfl ?_
        refine o_eql (a := ((x).kind)) (c := (((0 : Nat) : Int))) Gd.none rfl rfl ?_
        refine o_as (bp (((x).kind) = (((0 : Nat) : Int)))) rfl ?_
        refine aops_end ?_
        refine hK6 _ ?_
        refine awp_condQ (q := ((x).kind) = (((0 : Nat) : Int))) rfl (fun h4 => ?_) (fun h4 => ?_)
        · refine awp_seq fun K7 hK7 => ?_
          refine awp_region rfl ?_
          refine o_fieldRef 3 Gd.none Ya_tF57_3 rfl rfl ?_
          refine o_loadS (AV.lit (.int .i64 ((x).els))) Gd.none Ya_tS3 rfl rfl rfl ?_
          refine o_eql (a := ((x).els)) (c := (((0 : Nat) : Int))) Gd.none rfl rfl ?_
          refine o_as (bp (((x).els) = (((0 : Nat) : Int)))) rfl ?_
          refine aops_end ?_
          refine hK7 _ ?_
          refine awp_ret ?_
          refine post_ret ⟨[(bp (((x).els) = (((0 : Nat) : Int))))], And.intro (AV.le_refl _) (trivial), rfl, ?_⟩
          first | rfl | exact bpc (by simp only [insP, plc, regP] at *; omega) | exact bpn (by simp only [insP, plc, regP] at *; omega) | exact bpy (by simp only [insP, plc, regP] at *; omega)
        · refine awp_skip ?_
          refine hK1 _ ?_
          refine awp_seq fun K8 hK8 => ?_
          refine awp_region rfl ?_
          refine o_fieldRef 0 Gd.none Ya_tF57_0 rfl rfl ?_
          refine o_loadS (AV.lit (.int .i64 ((x).kind))) Gd.none Ya_tS3 rfl rfl rfl ?_
          refine o_eql (a := ((x).kind)) (c := (((1 : Nat) : Int))) Gd.none rfl rfl ?_
          refine o_mv (bp (((x).kind) = (((1 : Nat) : Int)))) rfl ?_
          refine o_splitP (q := ((x).kind) = (((1 : Nat) : Int))) 33 rfl (fun h5 => ?_) (fun h5 => ?_)
          · refine o_loadA [(AV.lit (.int .i64 (m.regs))), (AV.sl 4 (gcells cI (m.code)))] (Gd.yes rfl rfl (decide_eq_true h5)) Ya_tA24 rfl rfl rfl rfl rfl ?_
            refine o_fieldRef 3 (Gd.yes rfl rfl (decide_eq_true h5)) Ya_tF57_3 rfl rfl ?_
            refine o_loadS (AV.lit (.int .i64 ((x).els))) (Gd.yes rfl rfl (decide_eq_true h5)) Ya_tS3 rfl rfl rfl ?_
            refine o_ct (c_place m ((x).els)) (Gd.yes rfl rfl (decide_eq_true h5)) Ya_tC47 rfl ?_
            refine o_pickT (bp (plc m ((x).els))) Gd.none rfl (decide_eq_true h5) rfl ?_
            refine o_as (bp (plc m ((x).els))) rfl ?_
            refine aops_end ?_
            refine hK8 _ ?_
            refine awp_ret ?_
            refine post_ret ⟨[(bp (plc m ((x).els)))], And.intro (AV.le_refl _) (trivial), rfl, ?_⟩
            first | rfl | exact bpc (by simp only [insP, plc, regP] at *; omega) | exact bpn (by simp only [insP, plc, regP] at *; omega) | exact bpy (by simp only [insP, plc, regP] at *; omega)
          · refine o_skip rfl rfl (decide_eq_false h5) ?_
            refine o_skip rfl rfl (decide_eq_false h5) ?_
            refine o_skip rfl rfl (decide_eq_false h5) ?_
            refine o_skip rfl rfl (decide_eq_false h5) ?_
            refine o_pickF (AV.lit (.bool false)) Gd.none rfl (decide_eq_false h5) rfl ?_
            refine o_as (AV.lit (.bool false)) rfl ?_
            refine aops_end ?_
            refine hK8 _ ?_
            refine awp_ret ?_
            refine post_ret ⟨[(AV.lit (.bool false))], And.intro (AV.le_refl _) (trivial), rfl, ?_⟩
            first | rfl | exact bpc (by simp only [insP, plc, regP] at *; omega) | exact bpn (by simp only [insP, plc, regP] at *; omega) | exact bpy (by simp only [insP, plc, regP] at *; omega)

theorem c_Valid1 (m : Mac) (x : Ins) : ECalls cx 43 [(AV.agg [(AV.lit (.int .i64 ((x).kind))), (AV.lit (.int .i64 ((x).reg))), (AV.lit (.int .i64 ((x).next))), (AV.lit (.int .i64 ((x).els)))]), (AV.ip [(AV.lit (.int .i64 (m.regs))), (AV.sl 4 (gcells cI (m.code)))])] (bp (¬ insP m x)) := by
  refine ecalls_of_awp Tryz.func43 (c := _) rfl (Nat.le_of_ble_eq_true rfl) ?_
  show awp cx 8 _ (postF cx Tryz.f43 _) ⟨[(0, (AV.agg [(AV.lit (.int .i64 ((x).kind))), (AV.lit (.int .i64 ((x).reg))), (AV.lit (.int .i64 ((x).next))), (AV.lit (.int .i64 ((x).els)))])), (1, (AV.ip [(AV.lit (.int .i64 (m.regs))), (AV.sl 4 (gcells cI (m.code)))]))], []⟩
  refine awp_seq fun K0 hK0 => ?_
  refine awp_region rfl ?_
  refine o_box 2 [(AV.lit (.int .i64 ((x).kind))), (AV.lit (.int .i64 ((x).reg))), (AV.lit (.int .i64 ((x).next))), (AV.lit (.int .i64 ((x).els)))] Gd.none rfl rfl ?_
  refine o_as (AV.lit (.bool false)) rfl ?_
  refine aops_end ?_
  refine hK0 _ ?_
  refine awp_seq fun K1 hK1 => ?_
  refine awp_region rfl ?_
  refine o_loadIA [(AV.lit (.int .i64 (m.regs))), (AV.sl 4 (gcells cI (m.code)))] Gd.none Ya_tA24 rfl (Nat.le_of_ble_eq_true rfl) rfl ?_
  refine o_loadA [(AV.lit (.int .i64 ((x).kind))), (AV.lit (.int .i64 ((x).reg))), (AV.lit (.int .i64 ((x).next))), (AV.lit (.int .i64 ((x).els)))] Gd.none Ya_tA57 rfl rfl rfl rfl rfl ?_
  refine o_ct (c_instr m (x)) Gd.none Ya_tC44 rfl ?_
  refine o_notP (q := insP m (x)) Gd.none rfl ?_
  refine o_as (bp (¬ (insP m (x)))) rfl ?_
  refine aops_end ?_
  refine hK1 _ ?_
  refine awp_ret ?_
  refine post_ret ⟨[(bp (¬ (insP m (x))))], And.intro (AV.le_refl _) (trivial), rfl, ?_⟩
  rfl

theorem c_ixIns (m : Mac) (hl : m.code.length ≤ 12) : ECalls cx 65 [(AV.sl 4 (gcells cI (m.code))), (AV.clo 43 [(AV.ip [(AV.lit (.int .i64 (m.regs))), (AV.sl 4 (gcells cI (m.code)))])])] (.lit (.int .i64 (ixP (fun x => ¬ insP m x) m.code))) := by
  refine ecalls_of_awp Tryz.func65 (c := _) rfl (Nat.le_of_ble_eq_true rfl) ?_
  show awp cx 19 _ (postF cx Tryz.f65 _) ⟨[(0, (AV.sl 4 (gcells cI (m.code)))), (1, (AV.clo 43 [(AV.ip [(AV.lit (.int .i64 (m.regs))), (AV.sl 4 (gcells cI (m.code)))])]))], []⟩
  refine awp_seq fun K0 hK0 => ?_
  refine awp_region rfl ?_
  refine o_as (nm .i64 (0)) rfl ?_
  refine aops_end ?_
  refine hK0 _ ?_
  refine awp_seq fun K1 hK1 => ?_
  refine awp_seq fun K2 hK2 => ?_
  refine awp_region rfl ?_
  refine o_mv (AV.sl 4 (gcells cI (m.code))) rfl ?_
  refine g_len cI (m.code) cI_len Gd.none Ya_tU22 rfl ?_
  refine o_mv (nm .i64 (0)) rfl ?_
  refine aops_end ?_
  refine hK2 _ ?_
  refine awp_block ?_
  refine awp_loopR (fun κ σ => ∃ (i : Nat), (i ≤ m.code.length) ∧ (∀ k, k < i → ¬ ((fun x => ¬ insP m x) ((m.code).getD k default))) ∧ (m.code.length - i) = κ ∧ σ = ⟨[(0, (AV.sl 4 (gcells cI (m.code)))), (1, (AV.clo 43 [(AV.ip [(AV.lit (.int .i64 (m.regs))), (AV.sl 4 (gcells cI (m.code)))])])), (7, (nm .i64 (m.code.length))), (8, (nm .i64 (i)))], []⟩) ⟨_, _, ⟨0, (by omega), (fun k hk => by omega), rfl, rfl⟩, ?wk0⟩ ?rd0
  case wk0 =>
    exact Wk.sub (And.intro rfl (And.intro rfl (And.intro (by first | rfl | exact congrArg (nm _) (by omega) | exact nm_int (by omega) | exact nm_int (by simp [IntKind.wrap, IntKind.bits, IntKind.signed]; omega)) (And.intro (by first | rfl | exact congrArg (nm _) (by omega) | exact nm_int (by omega) | exact nm_int (by simp [IntKind.wrap, IntKind.bits, IntKind.signed]; omega)) (trivial))))) (trivial)
  rintro κ _ ⟨i, hi, hb, rfl, rfl⟩
  refine awp_seq fun K3 hK3 => ?_
  refine awp_region rfl ?_
  refine n_lss (i) (m.code.length) Gd.none rfl rfl ?_
  refine aops_end ?_
  refine hK3 _ ?_
  refine awp_seq fun K4 hK4 => ?_
  refine awp_condQ (q := (i) < (m.code.length)) rfl (fun h1 => ?_) (fun h1 => ?_)
  · refine awp_skip ?_
    refine hK4 _ ?_
    refine awp_seq fun K5 hK5 => ?_
    refine awp_block ?_
    refine awp_seq fun K6 hK6 => ?_
    refine awp_region rfl ?_
    refine o_mv (nm .i64 (i)) rfl ?_
    refine o_as (nm .i64 (i)) rfl ?_
    refine aops_end ?_
    refine hK6 _ ?_
    refine awp_seq fun K7 hK7 => ?_
    refine awp_region rfl ?_
    refine o_mv (AV.clo 43 [(AV.ip [(AV.lit (.int .i64 (m.regs))), (AV.sl 4 (gcells cI (m.code)))])]) rfl ?_
    refine o_mv (AV.sl 4 (gcells cI (m.code))) rfl ?_
    refine o_mv (nm .i64 (i)) rfl ?_
    refine g_index cI (m.code) (i) cI_len rfl Gd.none Ya_tE22 rfl rfl (by omega) ?_
    refine g_loadA cI (m.code) (i) default cI_len Gd.none Ya_tA57 rfl (by omega) ?_
    refine o_callG [] [(AV.agg [(AV.lit (.int .i64 ((((m.code).getD (i) default)).kind))), (AV.lit (.int .i64 ((((m.code).getD (i) default)).reg))), (AV.lit (.int .i64 ((((m.code).getD (i) default)).next))), (AV.lit (.int .i64 ((((m.code).getD (i) default)).els)))]), (AV.ip [(AV.lit (.int .i64 (m.regs))), (AV.sl 4 (gcells cI (m.code)))])] _ (bp (¬ (insP m (((m.code).getD (i) default))))) [] Gd.none Ya_tC43 rfl (trivial) rfl rfl (LeL.cons (AV.le_refl _) (LeL.cons (AV.le_refl _) (LeL.nil))) (c_Valid1 m (((m.code).getD (i) default))) rfl ?_
    refine aops_end ?_
    refine hK7 _ ?_
    refine awp_condQ (q := ¬ (insP m (((m.code).getD (i) default)))) rfl (fun h2 => ?_) (fun h2 => ?_)
    · refine awp_seq fun K8 hK8 => ?_
      refine awp_region rfl ?_
      refine o_mv (nm .i64 (i)) rfl ?_
      refine o_as (nm .i64 (i)) rfl ?_
      refine aops_end ?_
      refine hK8 _ ?_
      refine awp_ret ?_
      refine post_ret ⟨[(nm .i64 (i))], And.intro (AV.le_refl _) (trivial), rfl, ?_⟩
      exact congrArg (fun z => AV.lit (.int .i64 z)) (ixP_hit (d := default) (by omega) (by assumption) hb)
    · refine awp_skip ?_
      refine hK5 _ ?_
      refine awp_region rfl ?_
      refine n_add (i) (1) Gd.none rfl rfl (by simp only [topOf]; omega) ?_
      refine o_mv (nm .i64 ((i) + (1))) rfl ?_
      refine aops_end ?_
      refine ⟨_, _, ?lt, ⟨i + 1, (by omega), (fun k hk => by rcases Nat.lt_or_ge k i with e | e; exact hb k e; rw [show k = i by omega]; assumption), rfl, rfl⟩, ?wk⟩
      case lt => omega
      case wk => exact Wk.sub (And.intro rfl (And.intro rfl (And.intro rfl (And.intro (by first | rfl | exact congrArg (nm _) (by omega) | exact nm_int (by omega) | exact nm_int (by simp [IntKind.wrap, IntKind.bits, IntKind.signed]; omega)) (trivial))))) (trivial)
  · refine awp_exit ?_
    refine hK1 _ ?_
    refine awp_seq fun K9 hK9 => ?_
    refine awp_region rfl ?_
    refine o_as (AV.lit (.int .i64 ((-1)))) rfl ?_
    refine aops_end ?_
    refine hK9 _ ?_
    refine awp_ret ?_
    refine post_ret ⟨[(AV.lit (.int .i64 ((-1))))], And.intro (AV.le_refl _) (trivial), rfl, ?_⟩
    exact congrArg (fun z => AV.lit (.int .i64 z)) (ixP_none (d := default) (by omega) hb)

theorem c_hasIns (m : Mac) (hl : m.code.length ≤ 12) : ECalls cx 42 [(AV.sl 4 (gcells cI (m.code))), (AV.clo 43 [(AV.ip [(AV.lit (.int .i64 (m.regs))), (AV.sl 4 (gcells cI (m.code)))])])] (bp (∃ x ∈ m.code, (fun x => ¬ insP m x) x)) := by
  refine ecalls_of_awp Tryz.func42 (c := _) rfl (Nat.le_of_ble_eq_true rfl) ?_
  show awp cx 9 _ (postF cx Tryz.f42 _) ⟨[(0, (AV.sl 4 (gcells cI (m.code)))), (1, (AV.clo 43 [(AV.ip [(AV.lit (.int .i64 (m.regs))), (AV.sl 4 (gcells cI (m.code)))])]))], []⟩
  refine awp_seq fun K0 hK0 => ?_
  refine awp_region rfl ?_
  refine o_as (AV.lit (.bool false)) rfl ?_
  refine aops_end ?_
  refine hK0 _ ?_
  refine awp_seq fun K1 hK1 => ?_
  refine awp_region rfl ?_
  refine o_mv (AV.sl 4 (gcells cI (m.code))) rfl ?_
  refine o_mv (AV.clo 43 [(AV.ip [(AV.lit (.int .i64 (m.regs))), (AV.sl 4 (gcells cI (m.code)))])]) rfl ?_
  refine o_ct (c_ixIns m (by omega)) Gd.none Ya_tC65 rfl ?_
  refine o_geq (a := (ixP (fun x => ¬ insP m x) (m.code))) (c := (((0 : Nat) : Int))) Gd.none rfl rfl ?_
  refine o_as (bp ((((0 : Nat) : Int)) ≤ (ixP (fun x => ¬ insP m x) (m.code)))) rfl ?_
  refine aops_end ?_
  refine hK1 _ ?_
  refine awp_ret ?_
  refine post_ret ⟨[(bp ((((0 : Nat) : Int)) ≤ (ixP (fun x => ¬ insP m x) (m.code))))], And.intro (AV.le_refl _) (trivial), rfl, ?_⟩
  exact bpc (ixP_nn (p := fun x => ¬ insP m x))

theorem c_fValid (m : Mac) : ECalls cx 21 [(macV m)] (bp (okMac m)) := by
  refine ecalls_of_awp Tryz.func21 (c := _) rfl (Nat.le_of_ble_eq_true rfl) ?_
  show awp cx 30 _ (postF cx Tryz.f21 _) ⟨[(0, (macV m))], []⟩
  refine awp_seq fun K0 hK0 => ?_
  refine awp_region rfl ?_
  refine o_box 2 [(AV.lit (.int .i64 (m.regs))), (AV.sl 4 (gcells cI (m.code)))] Gd.none rfl rfl ?_
  refine o_as (AV.lit (.bool false)) rfl ?_
  refine aops_end ?_
  refine hK0 _ ?_
  refine awp_seq fun K1 hK1 => ?_
  refine awp_region rfl ?_
  refine o_fieldRef 0 Gd.none Ya_tF24_0 rfl rfl ?_
  refine o_loadS (AV.lit (.int .i64 (m.regs))) Gd.none Ya_tS3 rfl rfl rfl ?_
  refine o_geq (a := (m.regs)) (c := (((1 : Nat) : Int))) Gd.none rfl rfl ?_
  refine o_mv (bp ((((1 : Nat) : Int)) ≤ (m.regs))) rfl ?_
  refine o_splitP (q := (((1 : Nat) : Int)) ≤ (m.regs)) 6 rfl (fun h1 => ?_) (fun h1 => ?_)
  · refine o_fieldRef 0 (Gd.yes rfl rfl (decide_eq_true h1)) Ya_tF24_0 rfl rfl ?_
    refine o_loadS (AV.lit (.int .i64 (m.regs))) (Gd.yes rfl rfl (decide_eq_true h1)) Ya_tS3 rfl rfl rfl ?_
    refine o_leq (a := (m.regs)) (c := (((4 : Nat) : Int))) (Gd.yes rfl rfl (decide_eq_true h1)) rfl rfl ?_
    refine o_pickT (bp ((m.regs) ≤ (((4 : Nat) : Int)))) Gd.none rfl (decide_eq_true h1) rfl ?_
    refine o_mv (bp ((m.regs) ≤ (((4 : Nat) : Int)))) rfl ?_
    refine o_splitP (q := (m.regs) ≤ (((4 : Nat) : Int))) 11 rfl (fun h2 => ?_) (fun h2 => ?_)
    · refine o_fieldRef 1 (Gd.yes rfl rfl (decide_eq_true h2)) Ya_tF24_1 rfl rfl ?_
      refine o_loadS (AV.sl 4 (gcells cI (m.code))) (Gd.yes rfl rfl (decide_eq_true h2)) Ya_tS22 rfl rfl rfl ?_
      refine g_len cI (m.code) cI_len (Gd.yes rfl rfl (decide_eq_true h2)) Ya_tU22 rfl ?_
      refine n_geq ((m.code).length) (1) (Gd.yes rfl rfl (decide_eq_true h2)) rfl rfl ?_
      refine o_pickT (bp ((1) ≤ ((m.code).length))) Gd.none rfl (decide_eq_true h2) rfl ?_
      refine o_mv (bp ((1) ≤ ((m.code).length))) rfl ?_
      refine o_splitP (q := (1) ≤ ((m.code).length)) 17 rfl (fun h3 => ?_) (fun h3 => ?_)
      · refine o_fieldRef 1 (Gd.yes rfl rfl (decide_eq_true h3)) Ya_tF24_1 rfl rfl ?_
        refine o_loadS (AV.sl 4 (gcells cI (m.code))) (Gd.yes rfl rfl (decide_eq_true h3)) Ya_tS22 rfl rfl rfl ?_
        refine g_len cI (m.code) cI_len (Gd.yes rfl rfl (decide_eq_true h3)) Ya_tU22 rfl ?_
        refine n_leq ((m.code).length) (12) (Gd.yes rfl rfl (decide_eq_true h3)) rfl rfl ?_
        refine o_pickT (bp (((m.code).length) ≤ (12))) Gd.none rfl (decide_eq_true h3) rfl ?_
        refine o_mv (bp (((m.code).length) ≤ (12))) rfl ?_
        refine o_splitP (q := ((m.code).length) ≤ (12)) 23 rfl (fun h4 => ?_) (fun h4 => ?_)
        · refine o_fieldRef 1 (Gd.yes rfl rfl (decide_eq_true h4)) Ya_tF24_1 rfl rfl ?_
          refine o_loadS (AV.sl 4 (gcells cI (m.code))) (Gd.yes rfl rfl (decide_eq_true h4)) Ya_tS22 rfl rfl rfl ?_
          refine o_makeFunc [(AV.ref 2 (0))] (Gd.yes rfl rfl (decide_eq_true h4)) rfl ?_
          refine o_callV [(2, (AO.var 24 [(AV.lit (.int .i64 (m.regs))), (AV.sl 4 (gcells cI (m.code)))]))] [(AV.sl 4 (gcells cI (m.code))), (AV.clo 43 [(AV.ip [(AV.lit (.int .i64 (m.regs))), (AV.sl 4 (gcells cI (m.code)))])])] (.bool (decide (∃ x ∈ (m.code), (fun x => ¬ insP m x) x))) (Gd.yes rfl rfl (decide_eq_true h4)) Ya_tC42 rfl (And.intro rfl (And.intro rfl (trivial))) rfl (by rfl) (c_hasIns m (by omega)) ?_
          refine o_notP (q := ∃ x ∈ (m.code), (fun x => ¬ insP m x) x) (Gd.yes rfl rfl (decide_eq_true h4)) rfl ?_
          refine o_pickT (bp (¬ (∃ x ∈ (m.code), (fun x => ¬ insP m x) x))) Gd.none rfl (decide_eq_true h4) rfl ?_
          refine o_as (bp (¬ (∃ x ∈ (m.code), (fun x => ¬ insP m x) x))) rfl ?_
          refine aops_end ?_
          refine hK1 _ ?_
          refine awp_ret ?_
          refine post_ret ⟨[(bp (¬ (∃ x ∈ (m.code), (fun x => ¬ insP m x) x)))], And.intro (AV.le_refl _) (trivial), rfl, ?_⟩
          first | exact bpn (fun o => by obtain ⟨o1, o2, o3, o4, o5⟩ := o; omega) | exact bpc ⟨fun o => (by rintro ⟨x, hx, hn⟩; exact hn (o.2.2.2.2 x hx)), fun o => ⟨by omega, by omega, by omega, by omega, fun x hx => Decidable.not_not.1 fun hn => o ⟨x, hx, hn⟩⟩⟩
        · refine o_skip rfl rfl (decide_eq_false h4) ?_
          refine o_skip rfl rfl (decide_eq_false h4) ?_
          refine o_skip rfl rfl (decide_eq_false h4) ?_
          refine o_skip rfl rfl (decide_eq_false h4) ?_
          refine o_skip rfl rfl (decide_eq_false h4) ?_
          refine o_pickF (AV.lit (.bool false)) Gd.none rfl (decide_eq_false h4) rfl ?_
          refine o_as (AV.lit (.bool false)) rfl ?_
          refine aops_end ?_
          refine hK1 _ ?_
          refine awp_ret ?_
          refine post_ret ⟨[(AV.lit (.bool false))], And.intro (AV.le_refl _) (trivial), rfl, ?_⟩
          first | exact bpn (fun o => by obtain ⟨o1, o2, o3, o4, o5⟩ := o; omega) | exact bpc ⟨fun o => (by rintro ⟨x, hx, hn⟩; exact hn (o.2.2.2.2 x hx)), fun o => ⟨by omega, by omega, by omega, by omega, fun x hx => Decidable.not_not.1 fun hn => o ⟨x, hx, hn⟩⟩⟩
      · refine o_skip rfl rfl (decide_eq_false h3) ?_
        refine o_skip rfl rfl (decide_eq_false h3) ?_
        refine o_skip rfl rfl (decide_eq_false h3) ?_
        refine o_skip rfl rfl (decide_eq_false h3) ?_
        refine o_pickF (AV.lit (.bool false)) Gd.none rfl (decide_eq_false h3) rfl ?_
        refine o_mv (AV.lit (.bool false)) rfl ?_
        refine o_skip rfl rfl rfl ?_
        refine o_skip rfl rfl rfl ?_
        refine o_skip rfl rfl rfl ?_
        refine o_skip rfl rfl rfl ?_
        refine o_skip rfl rfl rfl ?_
        refine o_pickF (AV.lit (.bool false)) Gd.none rfl rfl rfl ?_
        refine o_as (AV.lit (.bool false)) rfl ?_
        refine aops_end ?_
        refine hK1 _ ?_
        refine awp_ret ?_
        refine post_ret ⟨[(AV.lit (.bool false))], And.intro (AV.le_refl _) (trivial), rfl, ?_⟩
        first | exact bpn (fun o => by obtain ⟨o1, o2, o3, o4, o5⟩ := o; omega) | exact bpc ⟨fun o => (by rintro ⟨x, hx, hn⟩; exact hn (o.2.2.2.2 x hx)), fun o => ⟨by omega, by omega, by omega, by omega, fun x hx => Decidable.not_not.1 fun hn => o ⟨x, hx, hn⟩⟩⟩
    · refine o_skip rfl rfl (decide_eq_false h2) ?_
      refine o_skip rfl rfl (decide_eq_false h2) ?_
      refine o_skip rfl rfl (decide_eq_false h2) ?_
      refine o_skip rfl rfl (decide_eq_false h2) ?_
      refine o_pickF (AV.lit (.bool false)) Gd.none rfl (decide_eq_false h2) rfl ?_
      refine o_mv (AV.lit (.bool false)) rfl ?_
      refine o_skip rfl rfl rfl ?_
      refine o_skip rfl rfl rfl ?_
      refine o_skip rfl rfl rfl ?_
      refine o_skip rfl rfl rfl ?_
      refine o_pickF (AV.lit (.bool false)) Gd.none rfl rfl rfl ?_
      refine o_mv (AV.lit (.bool false)) rfl ?_
      refine o_skip rfl rfl rfl ?_
      refine o_skip rfl rfl rfl ?_
      refine o_skip rfl rfl rfl ?_
      refine o_skip rfl rfl rfl ?_
      refine o_skip rfl rfl rfl ?_
      refine o_pickF (AV.lit (.bool false)) Gd.none rfl rfl rfl ?_
      refine o_as (AV.lit (.bool false)) rfl ?_
      refine aops_end ?_
      refine hK1 _ ?_
      refine awp_ret ?_
      refine post_ret ⟨[(AV.lit (.bool false))], And.intro (AV.le_refl _) (trivial), rfl, ?_⟩
      first | exact bpn (fun o => by obtain ⟨o1, o2, o3, o4, o5⟩ := o; omega) | exact bpc ⟨fun o => (by rintro ⟨x, hx, hn⟩; exact hn (o.2.2.2.2 x hx)), fun o => ⟨by omega, by omega, by omega, by omega, fun x hx => Decidable.not_not.1 fun hn => o ⟨x, hx, hn⟩⟩⟩
  · refine o_skip rfl rfl (decide_eq_false h1) ?_
    refine o_skip rfl rfl (decide_eq_false h1) ?_
    refine o_skip rfl rfl (decide_eq_false h1) ?_
    refine o_pickF (AV.lit (.bool false)) Gd.none rfl (decide_eq_false h1) rfl ?_
    refine o_mv (AV.lit (.bool false)) rfl ?_
    refine o_skip rfl rfl rfl ?_
    refine o_skip rfl rfl rfl ?_
    refine o_skip rfl rfl rfl ?_
    refine o_skip rfl rfl rfl ?_
    refine o_pickF (AV.lit (.bool false)) Gd.none rfl rfl rfl ?_
    refine o_mv (AV.lit (.bool false)) rfl ?_
    refine o_skip rfl rfl rfl ?_
    refine o_skip rfl rfl rfl ?_
    refine o_skip rfl rfl rfl ?_
    refine o_skip rfl rfl rfl ?_
    refine o_pickF (AV.lit (.bool false)) Gd.none rfl rfl rfl ?_
    refine o_mv (AV.lit (.bool false)) rfl ?_
    refine o_skip rfl rfl rfl ?_
    refine o_skip rfl rfl rfl ?_
    refine o_skip rfl rfl rfl ?_
    refine o_skip rfl rfl rfl ?_
    refine o_skip rfl rfl rfl ?_
    refine o_pickF (AV.lit (.bool false)) Gd.none rfl rfl rfl ?_
    refine o_as (AV.lit (.bool false)) rfl ?_
    refine aops_end ?_
    refine hK1 _ ?_
    refine awp_ret ?_
    refine post_ret ⟨[(AV.lit (.bool false))], And.intro (AV.le_refl _) (trivial), rfl, ?_⟩
    first | exact bpn (fun o => by obtain ⟨o1, o2, o3, o4, o5⟩ := o; omega) | exact bpc ⟨fun o => (by rintro ⟨x, hx, hn⟩; exact hn (o.2.2.2.2 x hx)), fun o => ⟨by omega, by omega, by omega, by omega, fun x hx => Decidable.not_not.1 fun hn => o ⟨x, hx, hn⟩⟩⟩

theorem c_Fits1 (n : Int) : ECalls cx 48 [(AV.lit (.int .i64 (n)))] (bp (¬ regP n)) := by
  refine ecalls_of_awp Tryz.func48 (c := _) rfl (Nat.le_of_ble_eq_true rfl) ?_
  show awp cx 9 _ (postF cx Tryz.f48 _) ⟨[(0, (AV.lit (.int .i64 (n))))], []⟩
  refine awp_seq fun K0 hK0 => ?_
  refine awp_region rfl ?_
  refine o_as (AV.lit (.bool false)) rfl ?_
  refine aops_end ?_
  refine hK0 _ ?_
  refine awp_seq fun K1 hK1 => ?_
  refine awp_region rfl ?_
  refine o_mv (AV.lit (.int .i64 (n))) rfl ?_
  refine o_lss (a := (n)) (c := (((0 : Nat) : Int))) Gd.none rfl rfl ?_
  refine o_mv (bp ((n) < (((0 : Nat) : Int)))) rfl ?_
  refine o_splitP (q := (n) < (((0 : Nat) : Int))) 5 rfl (fun h1 => ?_) (fun h1 => ?_)
  · refine o_skip rfl rfl (decide_eq_true h1) ?_
    refine o_skip rfl rfl (decide_eq_true h1) ?_
    refine o_pickT (AV.lit (.bool true)) Gd.none rfl (decide_eq_true h1) rfl ?_
    refine o_as (AV.lit (.bool true)) rfl ?_
    refine aops_end ?_
    refine hK1 _ ?_
    refine awp_ret ?_
    refine post_ret ⟨[(AV.lit (.bool true))], And.intro (AV.le_refl _) (trivial), rfl, ?_⟩
    first | rfl | exact bpc (by simp only [insP, plc, regP] at *; omega) | exact bpn (by simp only [insP, plc, regP] at *; omega) | exact bpy (by simp only [insP, plc, regP] at *; omega)
  · refine o_move (AV.lit (.int .i64 (n))) (Gd.yes rfl rfl (decide_eq_false h1)) rfl ?_
    refine o_gtr (a := (n)) (c := (((1000 : Nat) : Int))) (Gd.yes rfl rfl (decide_eq_false h1)) rfl rfl ?_
    refine o_pickF (bp ((((1000 : Nat) : Int)) < (n))) Gd.none rfl (decide_eq_false h1) rfl ?_
    refine o_as (bp ((((1000 : Nat) : Int)) < (n))) rfl ?_
    refine aops_end ?_
    refine hK1 _ ?_
    refine awp_ret ?_
    refine post_ret ⟨[(bp ((((1000 : Nat) : Int)) < (n)))], And.intro (AV.le_refl _) (trivial), rfl, ?_⟩
    first | rfl | exact bpc (by simp only [insP, plc, regP] at *; omega) | exact bpn (by simp only [insP, plc, regP] at *; omega) | exact bpy (by simp only [insP, plc, regP] at *; omega)

theorem c_ixReg (l : List Int) (hl : l.length ≤ 4) : ECalls cx 66 [(AV.sl 1 (is .i64 (l))), (AV.clo 48 [])] (.lit (.int .i64 (ixP (fun n => ¬ regP n) l))) := by
  refine ecalls_of_awp Tryz.func66 (c := _) rfl (Nat.le_of_ble_eq_true rfl) ?_
  show awp cx 19 _ (postF cx Tryz.f66 _) ⟨[(0, (AV.sl 1 (is .i64 (l)))), (1, (AV.clo 48 []))], []⟩
  refine awp_seq fun K0 hK0 => ?_
  refine awp_region rfl ?_
  refine o_as (nm .i64 (0)) rfl ?_
  refine aops_end ?_
  refine hK0 _ ?_
  refine awp_seq fun K1 hK1 => ?_
  refine awp_seq fun K2 hK2 => ?_
  refine awp_region rfl ?_
  refine o_mv (AV.sl 1 (is .i64 (l))) rfl ?_
  refine i_len (l) Gd.none Ya_tU25 rfl ?_
  refine o_mv (nm .i64 (0)) rfl ?_
  refine aops_end ?_
  refine hK2 _ ?_
  refine awp_block ?_
  refine awp_loopR (fun κ σ => ∃ (i : Nat), (i ≤ l.length) ∧ (∀ k, k < i → ¬ ((fun n => ¬ regP n) ((l).getD k 0))) ∧ (l.length - i) = κ ∧ σ = ⟨[(0, (AV.sl 1 (is .i64 (l)))), (1, (AV.clo 48 [])), (7, (nm .i64 (l.length))), (8, (nm .i64 (i)))], []⟩) ⟨_, _, ⟨0, (by omega), (fun k hk => by omega), rfl, rfl⟩, ?wk0⟩ ?rd0
  case wk0 =>
    exact Wk.sub (And.intro rfl (And.intro rfl (And.intro (by first | rfl | exact congrArg (nm _) (by omega) | exact nm_int (by omega) | exact nm_int (by simp [IntKind.wrap, IntKind.bits, IntKind.signed]; omega)) (And.intro (by first | rfl | exact congrArg (nm _) (by omega) | exact nm_int (by omega) | exact nm_int (by simp [IntKind.wrap, IntKind.bits, IntKind.signed]; omega)) (trivial))))) (trivial)
  rintro κ _ ⟨i, hi, hb, rfl, rfl⟩
  refine awp_seq fun K3 hK3 => ?_
  refine awp_region rfl ?_
  refine n_lss (i) (l.length) Gd.none rfl rfl ?_
  refine aops_end ?_
  refine hK3 _ ?_
  refine awp_seq fun K4 hK4 => ?_
  refine awp_condQ (q := (i) < (l.length)) rfl (fun h1 => ?_) (fun h1 => ?_)
  · refine awp_skip ?_
    refine hK4 _ ?_
    refine awp_seq fun K5 hK5 => ?_
    refine awp_block ?_
    refine awp_seq fun K6 hK6 => ?_
    refine awp_region rfl ?_
    refine o_mv (nm .i64 (i)) rfl ?_
    refine o_as (nm .i64 (i)) rfl ?_
    refine aops_end ?_
    refine hK6 _ ?_
    refine awp_seq fun K7 hK7 => ?_
    refine awp_region rfl ?_
    refine o_mv (AV.clo 48 []) rfl ?_
    refine o_mv (AV.sl 1 (is .i64 (l))) rfl ?_
    refine o_mv (nm .i64 (i)) rfl ?_
    refine i_index (l) (i) Gd.none Ya_tE25 rfl rfl (by omega) ?_
    refine i_loadI (l) (i) Gd.none Ya_tS3 rfl (by omega) ?_
    refine o_callG [] [(AV.lit (.int .i64 ((l).getD (i) 0)))] _ (bp (¬ (regP ((l).getD (i) 0)))) [] Gd.none Ya_tC48 rfl (trivial) rfl rfl (LeL.cons (AV.le_refl _) (LeL.nil)) (c_Fits1 ((l).getD (i) 0)) rfl ?_
    refine aops_end ?_
    refine hK7 _ ?_
    refine awp_condQ (q := ¬ (regP ((l).getD (i) 0))) rfl (fun h2 => ?_) (fun h2 => ?_)
    · refine awp_seq fun K8 hK8 => ?_
      refine awp_region rfl ?_
      refine o_mv (nm .i64 (i)) rfl ?_
      refine o_as (nm .i64 (i)) rfl ?_
      refine aops_end ?_
      refine hK8 _ ?_
      refine awp_ret ?_
      refine post_ret ⟨[(nm .i64 (i))], And.intro (AV.le_refl _) (trivial), rfl, ?_⟩
      exact congrArg (fun z => AV.lit (.int .i64 z)) (ixP_hit (d := 0) (by omega) (by assumption) hb)
    · refine awp_skip ?_
      refine hK5 _ ?_
      refine awp_region rfl ?_
      refine n_add (i) (1) Gd.none rfl rfl (by simp only [topOf]; omega) ?_
      refine o_mv (nm .i64 ((i) + (1))) rfl ?_
      refine aops_end ?_
      refine ⟨_, _, ?lt, ⟨i + 1, (by omega), (fun k hk => by rcases Nat.lt_or_ge k i with e | e; exact hb k e; rw [show k = i by omega]; assumption), rfl, rfl⟩, ?wk⟩
      case lt => omega
      case wk => exact Wk.sub (And.intro rfl (And.intro rfl (And.intro rfl (And.intro (by first | rfl | exact congrArg (nm _) (by omega) | exact nm_int (by omega) | exact nm_int (by simp [IntKind.wrap, IntKind.bits, IntKind.signed]; omega)) (trivial))))) (trivial)
  · refine awp_exit ?_
    refine hK1 _ ?_
    refine awp_seq fun K9 hK9 => ?_
    refine awp_region rfl ?_
    refine o_as (AV.lit (.int .i64 ((-1)))) rfl ?_
    refine aops_end ?_
    refine hK9 _ ?_
    refine awp_ret ?_
    refine post_ret ⟨[(AV.lit (.int .i64 ((-1))))], And.intro (AV.le_refl _) (trivial), rfl, ?_⟩
    exact congrArg (fun z => AV.lit (.int .i64 z)) (ixP_none (d := 0) (by omega) hb)

theorem c_hasReg (l : List Int) (hl : l.length ≤ 4) : ECalls cx 45 [(AV.sl 1 (is .i64 (l))), (AV.clo 48 [])] (bp (∃ x ∈ l, (fun n => ¬ regP n) x)) := by
  refine ecalls_of_awp Tryz.func45 (c := _) rfl (Nat.le_of_ble_eq_true rfl) ?_
  show awp cx 9 _ (postF cx Tryz.f45 _) ⟨[(0, (AV.sl 1 (is .i64 (l)))), (1, (AV.clo 48 []))], []⟩
  refine awp_seq fun K0 hK0 => ?_
  refine awp_region rfl ?_
  refine o_as (AV.lit (.bool false)) rfl ?_
  refine aops_end ?_
  refine hK0 _ ?_
  refine awp_seq fun K1 hK1 => ?_
  refine awp_region rfl ?_
  refine o_mv (AV.sl 1 (is .i64 (l))) rfl ?_
  refine o_mv (AV.clo 48 []) rfl ?_
  refine o_ct (c_ixReg (l) (by omega)) Gd.none Ya_tC66 rfl ?_
  refine o_geq (a := (ixP (fun n => ¬ regP n) (l))) (c := (((0 : Nat) : Int))) Gd.none rfl rfl ?_
  refine o_as (bp ((((0 : Nat) : Int)) ≤ (ixP (fun n => ¬ regP n) (l)))) rfl ?_
  refine aops_end ?_
  refine hK1 _ ?_
  refine awp_ret ?_
  refine post_ret ⟨[(bp ((((0 : Nat) : Int)) ≤ (ixP (fun n => ¬ regP n) (l))))], And.intro (AV.le_refl _) (trivial), rfl, ?_⟩
  exact bpc (ixP_nn (p := fun n => ¬ regP n))

theorem c_fFits (m : Mac) (c : Cfg) : ECalls cx 26 [(macV m), (cfgV c)] (bp (okCfg m c)) := by
  refine ecalls_of_awp Tryz.func26 (c := _) rfl (Nat.le_of_ble_eq_true rfl) ?_
  show awp cx 27 _ (postF cx Tryz.f26 _) ⟨[(0, (macV m)), (1, (cfgV c))], []⟩
  refine awp_seq fun K0 hK0 => ?_
  refine awp_region rfl ?_
  refine o_box 2 [(AV.lit (.int .i64 (m.regs))), (AV.sl 4 (gcells cI (m.code)))] Gd.none rfl rfl ?_
  refine o_box 3 [(AV.lit (.int .i64 (c.at'))), (AV.sl 1 (is .i64 (c.regs)))] Gd.none rfl rfl ?_
  refine o_as (AV.lit (.bool false)) rfl ?_
  refine aops_end ?_
  refine hK0 _ ?_
  refine awp_seq fun K1 hK1 => ?_
  refine awp_region rfl ?_
  refine o_loadA [(AV.lit (.int .i64 (m.regs))), (AV.sl 4 (gcells cI (m.code)))] Gd.none Ya_tA24 rfl rfl rfl rfl rfl ?_
  refine o_ct (c_fValid m) Gd.none Ya_tC21 rfl ?_
  refine o_mv (bp (okMac m)) rfl ?_
  refine o_splitP (q := okMac m) 7 rfl (fun h1 => ?_) (fun h1 => ?_)
  · have hoM := h1
    obtain ⟨o1, o2, o3, o4, o5⟩ := hoM
    refine o_loadA [(AV.lit (.int .i64 (m.regs))), (AV.sl 4 (gcells cI (m.code)))] (Gd.yes rfl rfl (decide_eq_true h1)) Ya_tA24 rfl rfl rfl rfl rfl ?_
    refine o_fieldRef 0 (Gd.yes rfl rfl (decide_eq_true h1)) Ya_tF27_0 rfl rfl ?_
    refine o_loadS (AV.lit (.int .i64 (c.at'))) (Gd.yes rfl rfl (decide_eq_true h1)) Ya_tS3 rfl rfl rfl ?_
    refine o_ct (c_place m (c.at')) (Gd.yes rfl rfl (decide_eq_true h1)) Ya_tC47 rfl ?_
    refine o_pickT (bp (plc m (c.at'))) Gd.none rfl (decide_eq_true h1) rfl ?_
    refine o_mv (bp (plc m (c.at'))) rfl ?_
    refine o_splitP (q := plc m (c.at')) 13 rfl (fun h2 => ?_) (fun h2 => ?_)
    · refine o_fieldRef 1 (Gd.yes rfl rfl (decide_eq_true h2)) Ya_tF27_1 rfl rfl ?_
      refine o_loadS (AV.sl 1 (is .i64 (c.regs))) (Gd.yes rfl rfl (decide_eq_true h2)) Ya_tS25 rfl rfl rfl ?_
      refine i_len (c.regs) (Gd.yes rfl rfl (decide_eq_true h2)) Ya_tU25 rfl ?_
      refine o_fieldRef 0 (Gd.yes rfl rfl (decide_eq_true h2)) Ya_tF24_0 rfl rfl ?_
      refine o_loadS (AV.lit (.int .i64 (m.regs))) (Gd.yes rfl rfl (decide_eq_true h2)) Ya_tS3 rfl rfl rfl ?_
      refine o_eql (a := ((((c.regs).length : Nat) : Int))) (c := (m.regs)) (Gd.yes rfl rfl (decide_eq_true h2)) rfl rfl ?_
      refine o_pickT (bp (((((c.regs).length : Nat) : Int)) = (m.regs))) Gd.none rfl (decide_eq_true h2) rfl ?_
      refine o_mv (bp (((((c.regs).length : Nat) : Int)) = (m.regs))) rfl ?_
      refine o_splitP (q := ((((c.regs).length : Nat) : Int)) = (m.regs)) 21 rfl (fun h3 => ?_) (fun h3 => ?_)
      · refine o_fieldRef 1 (Gd.yes rfl rfl (decide_eq_true h3)) Ya_tF27_1 rfl rfl ?_
        refine o_loadS (AV.sl 1 (is .i64 (c.regs))) (Gd.yes rfl rfl (decide_eq_true h3)) Ya_tS25 rfl rfl rfl ?_
        refine o_ct (c_hasReg (c.regs) (by omega)) (Gd.yes rfl rfl (decide_eq_true h3)) Ya_tC45 rfl ?_
        refine o_notP (q := ∃ x ∈ (c.regs), (fun n => ¬ regP n) x) (Gd.yes rfl rfl (decide_eq_true h3)) rfl ?_
        refine o_pickT (bp (¬ (∃ x ∈ (c.regs), (fun n => ¬ regP n) x))) Gd.none rfl (decide_eq_true h3) rfl ?_
        refine o_as (bp (¬ (∃ x ∈ (c.regs), (fun n => ¬ regP n) x))) rfl ?_
        refine aops_end ?_
        refine hK1 _ ?_
        refine awp_ret ?_
        refine post_ret ⟨[(bp (¬ (∃ x ∈ (c.regs), (fun n => ¬ regP n) x)))], And.intro (AV.le_refl _) (trivial), rfl, ?_⟩
        first | exact bpn (fun o => absurd o.1 (by assumption)) | exact bpn (fun o => absurd o.2.1 (by assumption)) | exact bpn (fun o => absurd o.2.2.1 (by assumption)) | exact bpc ⟨fun o => (by rintro ⟨x, hx, hn⟩; exact hn (o.2.2.2 x hx)), fun o => ⟨h1, by assumption, by assumption, fun x hx => Decidable.not_not.1 fun hn => o ⟨x, hx, hn⟩⟩⟩
      · refine o_skip rfl rfl (decide_eq_false h3) ?_
        refine o_skip rfl rfl (decide_eq_false h3) ?_
        refine o_skip rfl rfl (decide_eq_false h3) ?_
        refine o_skip rfl rfl (decide_eq_false h3) ?_
        refine o_pickF (AV.lit (.bool false)) Gd.none rfl (decide_eq_false h3) rfl ?_
        refine o_as (AV.lit (.bool false)) rfl ?_
        refine aops_end ?_
        refine hK1 _ ?_
        refine awp_ret ?_
        refine post_ret ⟨[(AV.lit (.bool false))], And.intro (AV.le_refl _) (trivial), rfl, ?_⟩
        first | exact bpn (fun o => absurd o.1 (by assumption)) | exact bpn (fun o => absurd o.2.1 (by assumption)) | exact bpn (fun o => absurd o.2.2.1 (by assumption)) | exact bpc ⟨fun o => (by rintro ⟨x, hx, hn⟩; exact hn (o.2.2.2 x hx)), fun o => ⟨h1, by assumption, by assumption, fun x hx => Decidable.not_not.1 fun hn => o ⟨x, hx, hn⟩⟩⟩
    · refine o_skip rfl rfl (decide_eq_false h2) ?_
      refine o_skip rfl rfl (decide_eq_false h2) ?_
      refine o_skip rfl rfl (decide_eq_false h2) ?_
      refine o_skip rfl rfl (decide_eq_false h2) ?_
      refine o_skip rfl rfl (decide_eq_false h2) ?_
      refine o_skip rfl rfl (decide_eq_false h2) ?_
      refine o_pickF (AV.lit (.bool false)) Gd.none rfl (decide_eq_false h2) rfl ?_
      refine o_mv (AV.lit (.bool false)) rfl ?_
      refine o_skip rfl rfl rfl ?_
      refine o_skip rfl rfl rfl ?_
      refine o_skip rfl rfl rfl ?_
      refine o_skip rfl rfl rfl ?_
      refine o_pickF (AV.lit (.bool false)) Gd.none rfl rfl rfl ?_
      refine o_as (AV.lit (.bool false)) rfl ?_
      refine aops_end ?_
      refine hK1 _ ?_
      refine awp_ret ?_
      refine post_ret ⟨[(AV.lit (.bool false))], And.intro (AV.le_refl _) (trivial), rfl, ?_⟩
      first | exact bpn (fun o => absurd o.1 (by assumption)) | exact bpn (fun o => absurd o.2.1 (by assumption)) | exact bpn (fun o => absurd o.2.2.1 (by assumption)) | exact bpc ⟨fun o => (by rintro ⟨x, hx, hn⟩; exact hn (o.2.2.2 x hx)), fun o => ⟨h1, by assumption, by assumption, fun x hx => Decidable.not_not.1 fun hn => o ⟨x, hx, hn⟩⟩⟩
  · refine o_skip rfl rfl (decide_eq_false h1) ?_
    refine o_skip rfl rfl (decide_eq_false h1) ?_
    refine o_skip rfl rfl (decide_eq_false h1) ?_
    refine o_skip rfl rfl (decide_eq_false h1) ?_
    refine o_pickF (AV.lit (.bool false)) Gd.none rfl (decide_eq_false h1) rfl ?_
    refine o_mv (AV.lit (.bool false)) rfl ?_
    refine o_skip rfl rfl rfl ?_
    refine o_skip rfl rfl rfl ?_
    refine o_skip rfl rfl rfl ?_
    refine o_skip rfl rfl rfl ?_
    refine o_skip rfl rfl rfl ?_
    refine o_skip rfl rfl rfl ?_
    refine o_pickF (AV.lit (.bool false)) Gd.none rfl rfl rfl ?_
    refine o_mv (AV.lit (.bool false)) rfl ?_
    refine o_skip rfl rfl rfl ?_
    refine o_skip rfl rfl rfl ?_
    refine o_skip rfl rfl rfl ?_
    refine o_skip rfl rfl rfl ?_
    refine o_pickF (AV.lit (.bool false)) Gd.none rfl rfl rfl ?_
    refine o_as (AV.lit (.bool false)) rfl ?_
    refine aops_end ?_
    refine hK1 _ ?_
    refine awp_ret ?_
    refine post_ret ⟨[(AV.lit (.bool false))], And.intro (AV.le_refl _) (trivial), rfl, ?_⟩
    first | exact bpn (fun o => absurd o.1 (by assumption)) | exact bpn (fun o => absurd o.2.1 (by assumption)) | exact bpn (fun o => absurd o.2.2.1 (by assumption)) | exact bpc ⟨fun o => (by rintro ⟨x, hx, hn⟩; exact hn (o.2.2.2 x hx)), fun o => ⟨h1, by assumption, by assumption, fun x hx => Decidable.not_not.1 fun hn => o ⟨x, hx, hn⟩⟩⟩

theorem c_primes1 (n p : Nat) (hp : 0 < p) : ECalls cx 46 [(nm .i64 (p)), (AV.ip [(nm .i64 (n))])] (bp (n % p = 0)) := by
  refine ecalls_of_awp Tryz.func46 (c := _) rfl (Nat.le_of_ble_eq_true rfl) ?_
  show awp cx 8 _ (postF cx Tryz.f46 _) ⟨[(0, (nm .i64 (p))), (1, (AV.ip [(nm .i64 (n))]))], []⟩
  refine awp_seq fun K0 hK0 => ?_
  refine awp_region rfl ?_
  refine o_as (AV.lit (.bool false)) rfl ?_
  refine aops_end ?_
  refine hK0 _ ?_
  refine awp_seq fun K1 hK1 => ?_
  refine awp_region rfl ?_
  refine o_loadIS (nm .i64 (n)) Gd.none Ya_tS3 rfl rfl ?_
  refine o_mv (nm .i64 (p)) rfl ?_
  refine n_rem (n) (p) Gd.none rfl rfl (by omega) ?_
  refine n_eql ((n) % (p)) (0) Gd.none rfl rfl ?_
  refine o_as (bp (((n) % (p)) = (0))) rfl ?_
  refine aops_end ?_
  refine hK1 _ ?_
  refine awp_ret ?_
  refine post_ret ⟨[(bp (((n) % (p)) = (0)))], And.intro (AV.le_refl _) (trivial), rfl, ?_⟩
  rfl

theorem c_ixPrm (n : Nat) (l : List Nat) (hl : l.length ≤ 30) (hp : ∀ p ∈ l, 0 < p) : ECalls cx 66 [(AV.sl 1 (ns .i64 (l))), (AV.clo 46 [(AV.ip [(nm .i64 (n))])])] (.lit (.int .i64 (ixP (fun (p : Nat) => n % p = 0) l))) := by
  refine ecalls_of_awp Tryz.func66 (c := _) rfl (Nat.le_of_ble_eq_true rfl) ?_
  show awp cx 19 _ (postF cx Tryz.f66 _) ⟨[(0, (AV.sl 1 (ns .i64 (l)))), (1, (AV.clo 46 [(AV.ip [(nm .i64 (n))])]))], []⟩
  refine awp_seq fun K0 hK0 => ?_
  refine awp_region rfl ?_
  refine o_as (nm .i64 (0)) rfl ?_
  refine aops_end ?_
  refine hK0 _ ?_
  refine awp_seq fun K1 hK1 => ?_
  refine awp_seq fun K2 hK2 => ?_
  refine awp_region rfl ?_
  refine o_mv (AV.sl 1 (ns .i64 (l))) rfl ?_
  refine n_len (l) Gd.none Ya_tU25 rfl ?_
  refine o_mv (nm .i64 (0)) rfl ?_
  refine aops_end ?_
  refine hK2 _ ?_
  refine awp_block ?_
  refine awp_loopR (fun κ σ => ∃ (i : Nat), (i ≤ l.length) ∧ (∀ k, k < i → ¬ ((fun (p : Nat) => n % p = 0) ((l).getD k 0))) ∧ (l.length - i) = κ ∧ σ = ⟨[(0, (AV.sl 1 (ns .i64 (l)))), (1, (AV.clo 46 [(AV.ip [(nm .i64 (n))])])), (7, (nm .i64 (l.length))), (8, (nm .i64 (i)))], []⟩) ⟨_, _, ⟨0, (by omega), (fun k hk => by omega), rfl, rfl⟩, ?wk0⟩ ?rd0
  case wk0 =>
    exact Wk.sub (And.intro rfl (And.intro rfl (And.intro (by first | rfl | exact congrArg (nm _) (by omega) | exact nm_int (by omega) | exact nm_int (by simp [IntKind.wrap, IntKind.bits, IntKind.signed]; omega)) (And.intro (by first | rfl | exact congrArg (nm _) (by omega) | exact nm_int (by omega) | exact nm_int (by simp [IntKind.wrap, IntKind.bits, IntKind.signed]; omega)) (trivial))))) (trivial)
  rintro κ _ ⟨i, hi, hb, rfl, rfl⟩
  refine awp_seq fun K3 hK3 => ?_
  refine awp_region rfl ?_
  refine n_lss (i) (l.length) Gd.none rfl rfl ?_
  refine aops_end ?_
  refine hK3 _ ?_
  refine awp_seq fun K4 hK4 => ?_
  refine awp_condQ (q := (i) < (l.length)) rfl (fun h1 => ?_) (fun h1 => ?_)
  · refine awp_skip ?_
    refine hK4 _ ?_
    refine awp_seq fun K5 hK5 => ?_
    refine awp_block ?_
    refine awp_seq fun K6 hK6 => ?_
    refine awp_region rfl ?_
    refine o_mv (nm .i64 (i)) rfl ?_
    refine o_as (nm .i64 (i)) rfl ?_
    refine aops_end ?_
    refine hK6 _ ?_
    refine awp_seq fun K7 hK7 => ?_
    refine awp_region rfl ?_
    refine o_mv (AV.clo 46 [(AV.ip [(nm .i64 (n))])]) rfl ?_
    refine o_mv (AV.sl 1 (ns .i64 (l))) rfl ?_
    refine o_mv (nm .i64 (i)) rfl ?_
    refine n_index (l) (i) Gd.none Ya_tE25 rfl rfl (by omega) ?_
    refine n_loadI (l) (i) Gd.none Ya_tS3 rfl (by omega) ?_
    refine o_callG [] [(nm .i64 ((l).getD (i) 0)), (AV.ip [(nm .i64 (n))])] _ (bp ((n) % ((l).getD (i) 0) = 0)) [] Gd.none Ya_tC46 rfl (trivial) rfl rfl (LeL.cons (AV.le_refl _) (LeL.cons (AV.le_refl _) (LeL.nil))) (c_primes1 (n) ((l).getD (i) 0) (hp _ (gdm (by omega)))) rfl ?_
    refine aops_end ?_
    refine hK7 _ ?_
    refine awp_condQ (q := (n) % ((l).getD (i) 0) = 0) rfl (fun h2 => ?_) (fun h2 => ?_)
    · refine awp_seq fun K8 hK8 => ?_
      refine awp_region rfl ?_
      refine o_mv (nm .i64 (i)) rfl ?_
      refine o_as (nm .i64 (i)) rfl ?_
      refine aops_end ?_
      refine hK8 _ ?_
      refine awp_ret ?_
      refine post_ret ⟨[(nm .i64 (i))], And.intro (AV.le_refl _) (trivial), rfl, ?_⟩
      exact congrArg (fun z => AV.lit (.int .i64 z)) (ixP_hit (d := 0) (by omega) (by assumption) hb)
    · refine awp_skip ?_
      refine hK5 _ ?_
      refine awp_region rfl ?_
      refine n_add (i) (1) Gd.none rfl rfl (by simp only [topOf]; omega) ?_
      refine o_mv (nm .i64 ((i) + (1))) rfl ?_
      refine aops_end ?_
      refine ⟨_, _, ?lt, ⟨i + 1, (by omega), (fun k hk => by rcases Nat.lt_or_ge k i with e | e; exact hb k e; rw [show k = i by omega]; assumption), rfl, rfl⟩, ?wk⟩
      case lt => omega
      case wk => exact Wk.sub (And.intro rfl (And.intro rfl (And.intro rfl (And.intro (by first | rfl | exact congrArg (nm _) (by omega) | exact nm_int (by omega) | exact nm_int (by simp [IntKind.wrap, IntKind.bits, IntKind.signed]; omega)) (trivial))))) (trivial)
  · refine awp_exit ?_
    refine hK1 _ ?_
    refine awp_seq fun K9 hK9 => ?_
    refine awp_region rfl ?_
    refine o_as (AV.lit (.int .i64 ((-1)))) rfl ?_
    refine aops_end ?_
    refine hK9 _ ?_
    refine awp_ret ?_
    refine post_ret ⟨[(AV.lit (.int .i64 ((-1))))], And.intro (AV.le_refl _) (trivial), rfl, ?_⟩
    exact congrArg (fun z => AV.lit (.int .i64 z)) (ixP_none (d := 0) (by omega) hb)

theorem c_hasPrm (n : Nat) (l : List Nat) (hl : l.length ≤ 30) (hp : ∀ p ∈ l, 0 < p) : ECalls cx 45 [(AV.sl 1 (ns .i64 (l))), (AV.clo 46 [(AV.ip [(nm .i64 (n))])])] (bp (∃ x ∈ l, (fun (p : Nat) => n % p = 0) x)) := by
  refine ecalls_of_awp Tryz.func45 (c := _) rfl (Nat.le_of_ble_eq_true rfl) ?_
  show awp cx 9 _ (postF cx Tryz.f45 _) ⟨[(0, (AV.sl 1 (ns .i64 (l)))), (1, (AV.clo 46 [(AV.ip [(nm .i64 (n))])]))], []⟩
  refine awp_seq fun K0 hK0 => ?_
  refine awp_region rfl ?_
  refine o_as (AV.lit (.bool false)) rfl ?_
  refine aops_end ?_
  refine hK0 _ ?_
  refine awp_seq fun K1 hK1 => ?_
  refine awp_region rfl ?_
  refine o_mv (AV.sl 1 (ns .i64 (l))) rfl ?_
  refine o_mv (AV.clo 46 [(AV.ip [(nm .i64 (n))])]) rfl ?_
  refine o_ct (c_ixPrm (n) (l) (by first | omega | assumption) (by assumption)) Gd.none Ya_tC66 rfl ?_
  refine o_geq (a := (ixP (fun (p : Nat) => (n) % p = 0) (l))) (c := (((0 : Nat) : Int))) Gd.none rfl rfl ?_
  refine o_as (bp ((((0 : Nat) : Int)) ≤ (ixP (fun (p : Nat) => (n) % p = 0) (l)))) rfl ?_
  refine aops_end ?_
  refine hK1 _ ?_
  refine awp_ret ?_
  refine post_ret ⟨[(bp ((((0 : Nat) : Int)) ≤ (ixP (fun (p : Nat) => (n) % p = 0) (l))))], And.intro (AV.le_refl _) (trivial), rfl, ?_⟩
  exact bpc (ixP_nn (p := fun (p : Nat) => n % p = 0))

end Go.Proofs.YtpamhblonmpniaaGreatDoor

set_option linter.unusedVariables false
set_option linter.unusedSimpArgs false
namespace Go.Mth
open Go.Ab
theorem txt_nil : txt 0 = ⟨#[48]⟩ := by
  simp [txt, txtL]
  rfl
theorem fit_tiny {z : Int} (h : z.natAbs < 100) : Fit z := fit_of_pow (k := 2) h (by decide) (by decide)
theorem ok_of_txt {a : ByteArray} {z : Int} (h : txt z = a) (hz : z.natAbs < 100) : okS a = true ∧ numS a = z := by
  subst h
  exact ⟨okS_iff.2 (okS_txt (fit_tiny hz)), numS_txt z⟩
noncomputable def sumS (a b : ByteArray) : ByteArray := if okS a && okS b then toldS (numS a + numS b) else { data := #[] }
noncomputable def proS (a b : ByteArray) : ByteArray := if okS a && okS b then toldS (numS a * numS b) else { data := #[] }
def alikeS (a b : ByteArray) : Prop := a = { data := #[] } ∨ b = { data := #[] } ∨ a = b
noncomputable instance (a b : ByteArray) : Decidable (alikeS a b) := Classical.propDecidable _
def divsS (d n : ByteArray) : Prop := divE n d = 0 ∧ divR n d = ⟨#[48]⟩
noncomputable instance (d n : ByteArray) : Decidable (divsS d n) := Classical.propDecidable _
theorem told_sz (z : Int) : (toldS z).size ≤ 9223372036854775807 := by
  unfold toldS
  split
  · rename_i h
    rw [txt_len]
    have : (txtL z).length ≤ 2001 := by
      unfold txtL
      have hn := h
      unfold Fit ndig at hn
      split
      · simp
      · rename_i h0
        rw [if_neg (by omega)] at hn
        split <;> simp <;> omega
    omega
  · decide
end Go.Mth

