/- The law 'katabasislaw06.CycleFixes' is true for every map and list: Fixed and Turn return the documented fractions, or the documented errors. Its condition: none but the row's own (the listed tables of the library). -/
import Derived.Test.YtdmkejloknejdaaGreatDoorPkCycleFixese
set_option linter.unusedVariables false
set_option linter.unusedSimpArgs false
namespace Go.Proofs.YtdmkejloknejdaaGreatDoor
open Go Go.Ab Go.Mth
theorem f162_ : cx.P.underlying 36 = some (.slice 9) := by kernel_rfl
theorem f163_ : tySc cx.P 9 = true := by kernel_rfl
theorem f164_ : callable cx.P 44 = true := by kernel_rfl
theorem f165_ : callable cx.P 19 = true := by kernel_rfl
theorem f166_ : callable cx.P 10 = true := by kernel_rfl
theorem f167_ : cx.P.underlying 26 = some (.slice 38) := by kernel_rfl
theorem f168_ : tyField cx.P 38 0 = some (0, 36) := by kernel_rfl
theorem f169_ : tySc cx.P 36 = true := by kernel_rfl
theorem f170_ : callable cx.P 56 = true := by kernel_rfl
theorem f171_ : callable cx.P 12 = true := by kernel_rfl
theorem f172_ : callable cx.P 14 = true := by kernel_rfl
theorem f173_ : callable cx.P 64 = true := by kernel_rfl
theorem c_l6Same (x y : List ByteArray) : ECalls cx 56 [.sl 1 (sbs x), .sl 1 (sbs y)] (bp (x = y)) := by
 refine ecalls_of_awp Tryz.func56 (c := _) rfl (Nat.le_of_ble_eq_true rfl) ?_
 show awp cx 26 _ (postF cx Tryz.f56 _) ⟨[(0, .sl 1 (sbs x)), (1, .sl 1 (sbs y))], []⟩
 refine awp_bound (i := 0) rfl fun hb => ?_
 replace hb := sbs_bnd hb
 refine awp_bound (i := 1) rfl fun hb2 => ?_
 replace hb2 := sbs_bnd hb2
 refine awp_seq fun K0 hK0 => awp_region rfl (o_as Fv rfl (aops_end (hK0 _ (awp_seq fun K1 hK1 => awp_seq fun K2 hK2 => awp_region rfl (o_mv (.sl 1 (sbs x)) rfl ?_)))))
 refine s_len x gn f162_ rfl ?_
 refine o_mv (.sl 1 (sbs y)) rfl ?_
 refine s_len y gn f162_ rfl ?_
 refine n_neq (x.length) (y.length) gn rfl rfl ?_
 refine aops_end (hK2 _ ?_)
 refine awp_condQ (q := (x.length) ≠ (y.length)) rfl (fun h1 => ?_) (fun h1 => ?_)
 ·refine awp_seq fun K3 hK3 => awp_region rfl (o_as Fv rfl (aops_end (hK3 _ ?_)))
  refine awp_ret ?_
  refine post_ret ⟨[Fv], ⟨AV.le_refl _, trivial⟩, rfl, ?_⟩
  exact (bl_bp (b := false) (by constructor <;> intro h <;> first | (exfalso; subst h; exact h1 rfl) | cases h)).symm
 ·refine awp_skip (hK1 _ (awp_seq fun K4 hK4 => awp_seq fun K5 hK5 => awp_region rfl (o_as (Nv 0) rfl (aops_end (hK5 _ ?_)))))
  refine awp_block ?_
  refine awp_loopR (fun κ σ => ∃ (i : Nat), (i ≤ x.length) ∧ (∀ k, k < i → x.getD k { data := #[] } = y.getD k { data := #[] }) ∧ (x.length - i) = κ ∧ σ = ⟨[(0, .sl 1 (sbs x)), (1, .sl 1 (sbs y)), (5, Nv i)], []⟩) ⟨_, _, ⟨0, (by omega), (fun k hk => by omega), rfl, rfl⟩, ?wk0⟩ ?rd0
  case wk0 =>
   exact Wk.sub ⟨rfl, rfl, (by first | rfl | exact nm_int (by omega)), trivial⟩ trivial
  rintro κ _ ⟨i, hi, hv, rfl, rfl⟩
  refine awp_seq fun K6 hK6 => awp_seq fun K7 hK7 => awp_region rfl (o_mv (Nv i) rfl (o_mv (.sl 1 (sbs x)) rfl ?_))
  refine s_len x gn f162_ rfl ?_
  refine n_lss i (x.length) gn rfl rfl ?_
  refine aops_end (hK7 _ ?_)
  refine awp_condQ (q := i < (x.length)) rfl (fun h2 => ?_) (fun h2 => ?_)
  ·refine awp_skip (hK6 _ (awp_seq fun K8 hK8 => ?_))
   refine awp_block ?_
   refine awp_seq fun K9 hK9 => awp_regionD rfl (o_mv (.sl 1 (sbs x)) rfl (o_mv (Nv i) rfl ?_))
   refine s_index x i gn f157_ rfl rfl (by omega) ?_
   refine s_loadI x i gn f163_ rfl (by omega) ?_
   refine o_mv (.sl 1 (sbs y)) rfl (o_mv (Nv i) rfl ?_)
   refine s_index y i gn f157_ rfl rfl (by omega) ?_
   refine s_loadI y i gn f163_ rfl (by omega) ?_
   refine o_neqS (a := (x.getD i { data := #[] })) (c := (y.getD i { data := #[] })) gn rfl rfl ?_
   refine aops_end ⟨by kernel_rfl, ?_⟩
   refine hK9 _ ?_
   refine awp_condQ (q := (x.getD i { data := #[] }).toList ≠ (y.getD i { data := #[] }).toList) rfl (fun h3 => ?_) (fun h3 => ?_)
   ·refine awp_seq fun K10 hK10 => awp_region rfl (o_as Fv rfl (aops_end (hK10 _ ?_)))
    refine awp_ret ?_
    refine post_ret ⟨[Fv], ⟨AV.le_refl _, trivial⟩, rfl, ?_⟩
    exact (bl_bp (b := false) (by constructor <;> intro h <;> first | (exfalso; subst h; exact h3 rfl) | cases h)).symm
   ·refine awp_skip (hK8 _ (awp_region rfl (o_mv (Nv i) rfl ?_)))
    refine n_add i 1 gn rfl rfl (by simp only [topOf]; omega) ?_
    refine o_as (Nv (i + 1)) rfl (aops_end ?_)
    refine ⟨_, _, ?lt, ⟨i + 1, (by omega), (fun k hk => by by_cases e : k = i; subst e; exact str_eq.1 (Decidable.not_not.1 h3); exact hv k (by omega)), rfl, rfl⟩, ?wk⟩
    case lt => omega
    case wk => exact Wk.sub ⟨rfl, rfl, (by first | rfl | exact nm_int (by omega)), trivial⟩ trivial
  ·refine awp_exit ?_
   refine hK4 _ (awp_seq fun K11 hK11 => awp_region rfl (o_as Tv rfl (aops_end (hK11 _ ?_))))
   refine awp_ret ?_
   refine post_ret ⟨[Tv], ⟨AV.le_refl _, trivial⟩, rfl, ?_⟩
   exact (bl_bp (b := true) ⟨fun _ => list_extS (by omega) (fun k hk => hv k (by omega)), fun _ => rfl⟩).symm

theorem c_awake6  : ECalls cx 13 [] (.lit (.bool true)) := by
 refine ecalls_of_awp Tryz.func13 (c := _) rfl (Nat.le_of_ble_eq_true rfl) ?_
 show awp cx 100 _ (postF cx Tryz.f13 _) ⟨[], []⟩
 refine awp_seq fun K0 hK0 => awp_region rfl (o_as Fv rfl (aops_end (hK0 _ (awp_seq fun K1 hK1 => awp_region rfl ?_))))
 refine o_ct c_gCollatz gn f164_ rfl ?_
 refine o_alloc 2 [Nv 0, Zv, Zv] gn f65_ rfl rfl rfl ?_
 refine o_store [(2, oM 24 (kinM 3 1))] gn f67_ rfl rfl rfl rfl rfl rfl ?_
 refine aops_end (hK1 _ (awp_seq fun K2 hK2 => awp_region rfl ?_))
 refine o_loadA [Iv ((kinM 3 1).mod), Lv ((kinM 3 1).mul), Lv ((kinM 3 1).add)] gn f63_ rfl rfl rfl rfl rfl ?_
 refine o_buildSlice 3 (ns .i64 ([1, 1, 0])) [(0, [Nv 1]), (1, [Nv 1]), (2, [Nv 0])] gn f10_ rfl f26_ rfl rfl rfl rfl rfl rfl rfl ?_
 refine o_callG [(3, 1, ns .i64 ([1, 1, 0]))] [mapV (kinM 3 1), .sl 1 (ns .i64 ([1, 1, 0]))] _ (.tup [(.agg [(Sv ({data := #[45, 53]} : ByteArray)), (Sv ({data := #[49]} : ByteArray))]), Nv 0]) [(2, oM 24 (kinM 3 1))] gn f165_ rfl ⟨⟨_, rfl⟩, trivial⟩ rfl rfl (LeL.cons (AV.le_refl _) (LeL.cons (AV.le_refl _) LeL.nil)) (by have h := c_yFixed (kinM 3 1) [1, 1, 0] (by decide); rw [ex6_f1.1, ex6_f1.2] at h; exact h) rfl ?_
 refine o_mv (.tup [(.agg [(Sv ({data := #[45, 53]} : ByteArray)), (Sv ({data := #[49]} : ByteArray))]), Nv 0]) rfl (o_extract (.agg [(Sv ({data := #[45, 53]} : ByteArray)), (Sv ({data := #[49]} : ByteArray))]) gn rfl rfl (o_extract (Nv 0) gn rfl rfl ?_))
 refine o_alloc 4 [Sv Ev, Sv Ev] gn f89_ rfl rfl rfl ?_
 refine o_store [(4, (.var 45 [(Sv ({data := #[45, 53]} : ByteArray)), (Sv ({data := #[49]} : ByteArray))])), (2, oM 24 (kinM 3 1))] gn f94_ rfl rfl rfl rfl rfl rfl ?_
 refine o_as (Nv 0) rfl (aops_end (hK2 _ (awp_seq fun K3 hK3 => awp_region rfl ?_)))
 refine o_loadA [Iv ((kinM 3 1).mod), Lv ((kinM 3 1).mul), Lv ((kinM 3 1).add)] gn f63_ rfl rfl rfl rfl rfl ?_
 refine o_buildSlice 5 (ns .i64 ([1, 0, 0])) [(0, [Nv 1]), (1, [Nv 0]), (2, [Nv 0])] gn f10_ rfl f26_ rfl rfl rfl rfl rfl rfl rfl ?_
 refine o_callG [(5, 1, ns .i64 ([1, 0, 0]))] [mapV (kinM 3 1), .sl 1 (ns .i64 ([1, 0, 0]))] _ (.tup [(.agg [(Sv ({data := #[49]} : ByteArray)), (Sv ({data := #[53]} : ByteArray))]), Nv 0]) [(4, (.var 45 [(Sv ({data := #[45, 53]} : ByteArray)), (Sv ({data := #[49]} : ByteArray))])), (2, oM 24 (kinM 3 1))] gn f165_ rfl ⟨⟨_, rfl⟩, trivial⟩ rfl rfl (LeL.cons (AV.le_refl _) (LeL.cons (AV.le_refl _) LeL.nil)) (by have h := c_yFixed (kinM 3 1) [1, 0, 0] (by decide); rw [ex6_f2.1, ex6_f2.2] at h; exact h) rfl ?_
 refine o_mv (.tup [(.agg [(Sv ({data := #[49]} : ByteArray)), (Sv ({data := #[53]} : ByteArray))]), Nv 0]) rfl (o_extract (.agg [(Sv ({data := #[49]} : ByteArray)), (Sv ({data := #[53]} : ByteArray))]) gn rfl rfl (o_extract (Nv 0) gn rfl rfl ?_))
 refine o_alloc 6 [Sv Ev, Sv Ev] gn f89_ rfl rfl rfl ?_
 refine o_store [(6, (.var 45 [(Sv ({data := #[49]} : ByteArray)), (Sv ({data := #[53]} : ByteArray))])), (4, (.var 45 [(Sv ({data := #[45, 53]} : ByteArray)), (Sv ({data := #[49]} : ByteArray))])), (2, oM 24 (kinM 3 1))] gn f94_ rfl rfl rfl rfl rfl rfl ?_
 refine o_as (Nv 0) rfl (aops_end (hK3 _ (awp_seq fun K4 hK4 => awp_region rfl ?_)))
 refine o_loadA [Iv ((kinM 3 1).mod), Lv ((kinM 3 1).mul), Lv ((kinM 3 1).add)] gn f63_ rfl rfl rfl rfl rfl ?_
 refine o_call [mapV (kinM 3 1), Nv 11] (.tup [.sl 1 (gcells cP colL), Nv 0]) gn f166_ rfl (by have h := c_Loops (kinM 3 1) 11 (by decide); rw [show lpL (kinM 3 1) 11 = colL from col_lp, show chkE (kinM 3 1) 11 = 0 from col_chk] at h; exact h) ?_
 refine o_mv (.tup [.sl 1 (gcells cP colL), Nv 0]) rfl (o_extract (.sl 1 (gcells cP colL)) gn rfl rfl (o_extract (Nv 0) gn rfl rfl (o_as (.sl 1 (gcells cP colL)) rfl (o_as (Nv 0) rfl (aops_end (hK4 _ (awp_seq fun K5 hK5 => awp_region rfl (o_mv (Nv 0) rfl ?_))))))))
 refine n_eql 0 0 gn rfl rfl ?_
 refine o_mv (bp (0 = 0)) rfl ?_
 refine n_as (v' := Tv) (by exact bpy (by first | rfl | decide | exact ex6_s1 | exact ex6_s2 | exact ex6_s3 | exact ex6_s4 | exact ex6_s5)) ?_
 refine o_loadA [(Sv ({data := #[45, 53]} : ByteArray)), (Sv ({data := #[49]} : ByteArray))] (Gd.yes rfl rfl rfl) f95_ rfl rfl rfl rfl rfl ?_
 refine o_build [(Sv ({data := #[45, 53]} : ByteArray)), (Sv ({data := #[49]} : ByteArray))] [(0, [(Sv ({data := #[45, 53]} : ByteArray))]), (1, [(Sv ({data := #[49]} : ByteArray))])] (Gd.yes rfl rfl rfl) f93_ f89_ rfl rfl rfl ?_
 refine o_eqlA [.string ({data := #[45, 53]} : ByteArray), .string ({data := #[49]} : ByteArray)] [.string ({data := #[45, 53]} : ByteArray), .string ({data := #[49]} : ByteArray)] (({data := #[45, 53]} : ByteArray) = ({data := #[45, 53]} : ByteArray) ∧ ({data := #[49]} : ByteArray) = ({data := #[49]} : ByteArray)) (Gd.yes rfl rfl rfl) rfl rfl (eq_api_Frac _ _ _ _) ?_
 refine o_pickT (bp (({data := #[45, 53]} : ByteArray) = ({data := #[45, 53]} : ByteArray) ∧ ({data := #[49]} : ByteArray) = ({data := #[49]} : ByteArray))) gn rfl rfl rfl ?_
 refine o_mv (bp (({data := #[45, 53]} : ByteArray) = ({data := #[45, 53]} : ByteArray) ∧ ({data := #[49]} : ByteArray) = ({data := #[49]} : ByteArray))) rfl ?_
 refine n_as (v' := Tv) (by exact bpy (by first | rfl | decide | exact ex6_s1 | exact ex6_s2 | exact ex6_s3 | exact ex6_s4 | exact ex6_s5)) ?_
 refine o_move (Nv 0) (Gd.yes rfl rfl rfl) rfl ?_
 refine n_eql 0 0 (Gd.yes rfl rfl rfl) rfl rfl ?_
 refine o_pickT (bp (0 = 0)) gn rfl rfl rfl ?_
 refine o_mv (bp (0 = 0)) rfl ?_
 refine n_as (v' := Tv) (by exact bpy (by first | rfl | decide | exact ex6_s1 | exact ex6_s2 | exact ex6_s3 | exact ex6_s4 | exact ex6_s5)) ?_
 refine o_loadA [(Sv ({data := #[49]} : ByteArray)), (Sv ({data := #[53]} : ByteArray))] (Gd.yes rfl rfl rfl) f95_ rfl rfl rfl rfl rfl ?_
 refine o_build [(Sv ({data := #[49]} : ByteArray)), (Sv ({data := #[53]} : ByteArray))] [(0, [(Sv ({data := #[49]} : ByteArray))]), (1, [(Sv ({data := #[53]} : ByteArray))])] (Gd.yes rfl rfl rfl) f93_ f89_ rfl rfl rfl ?_
 refine o_eqlA [.string ({data := #[49]} : ByteArray), .string ({data := #[53]} : ByteArray)] [.string ({data := #[49]} : ByteArray), .string ({data := #[53]} : ByteArray)] (({data := #[49]} : ByteArray) = ({data := #[49]} : ByteArray) ∧ ({data := #[53]} : ByteArray) = ({data := #[53]} : ByteArray)) (Gd.yes rfl rfl rfl) rfl rfl (eq_api_Frac _ _ _ _) ?_
 refine o_pickT (bp (({data := #[49]} : ByteArray) = ({data := #[49]} : ByteArray) ∧ ({data := #[53]} : ByteArray) = ({data := #[53]} : ByteArray))) gn rfl rfl rfl ?_
 refine o_mv (bp (({data := #[49]} : ByteArray) = ({data := #[49]} : ByteArray) ∧ ({data := #[53]} : ByteArray) = ({data := #[53]} : ByteArray))) rfl ?_
 refine n_as (v' := Tv) (by exact bpy (by first | rfl | decide | exact ex6_s1 | exact ex6_s2 | exact ex6_s3 | exact ex6_s4 | exact ex6_s5)) ?_
 refine o_move (Nv 0) (Gd.yes rfl rfl rfl) rfl ?_
 refine n_eql 0 0 (Gd.yes rfl rfl rfl) rfl rfl ?_
 refine o_pickT (bp (0 = 0)) gn rfl rfl rfl ?_
 refine o_mv (bp (0 = 0)) rfl ?_
 refine n_as (v' := Tv) (by exact bpy (by first | rfl | decide | exact ex6_s1 | exact ex6_s2 | exact ex6_s3 | exact ex6_s4 | exact ex6_s5)) ?_
 refine o_move (.sl 1 (gcells cP colL)) (Gd.yes rfl rfl rfl) rfl ?_
 refine g_len cP colL cP_len (Gd.yes rfl rfl rfl) f167_ rfl ?_
 refine n_eql (colL.length) 5 (Gd.yes rfl rfl rfl) rfl rfl ?_
 refine o_pickT (bp ((colL.length) = 5)) gn rfl rfl rfl ?_
 refine o_mv (bp ((colL.length) = 5)) rfl ?_
 refine n_as (v' := Tv) (by exact bpy (by first | rfl | decide | exact ex6_s1 | exact ex6_s2 | exact ex6_s3 | exact ex6_s4 | exact ex6_s5)) ?_
 refine o_move (.sl 1 (gcells cP colL)) (Gd.yes rfl rfl rfl) rfl ?_
 refine g_index cP colL 0 cP_len rfl (Gd.yes rfl rfl rfl) f161_ rfl rfl (by decide) ?_
 refine g_field cP colL 0 cP_len (Gd.yes rfl rfl rfl) f168_ rfl (by decide) rfl ?_
 refine g_loadS cP colL 0 default (.sl 1 (sbs ((colL.getD 0 default).map txt))) cP_len (Gd.yes rfl rfl rfl) f169_ rfl (by decide) rfl ?_
 refine o_buildSlice 7 (sbs ([({data := #[45, 49]} : ByteArray)])) [(0, [(Sv ({data := #[45, 49]} : ByteArray))])] (Gd.yes rfl rfl rfl) f157_ rfl f158_ rfl rfl rfl rfl rfl rfl rfl ?_
 refine o_callG [(7, 1, (sbs ([({data := #[45, 49]} : ByteArray)])))] [.sl 1 (sbs ((colL.getD 0 default).map txt)), (.sl 1 (sbs ([({data := #[45, 49]} : ByteArray)])))] _ (bp ((colL.getD 0 default).map txt = [({data := #[45, 49]} : ByteArray)])) [(6, (.var 45 [(Sv ({data := #[49]} : ByteArray)), (Sv ({data := #[53]} : ByteArray))])), (4, (.var 45 [(Sv ({data := #[45, 53]} : ByteArray)), (Sv ({data := #[49]} : ByteArray))])), (2, oM 24 (kinM 3 1))] (Gd.yes rfl rfl rfl) f170_ rfl ⟨⟨_, rfl⟩, trivial⟩ rfl rfl (LeL.cons (AV.le_refl _) (LeL.cons (AV.le_refl _) LeL.nil)) (c_l6Same ((colL.getD 0 default).map txt) ([({data := #[45, 49]} : ByteArray)])) rfl ?_
 refine o_pickT (bp ((colL.getD 0 default).map txt = [({data := #[45, 49]} : ByteArray)])) gn rfl rfl rfl ?_
 refine o_mv (bp ((colL.getD 0 default).map txt = [({data := #[45, 49]} : ByteArray)])) rfl ?_
 refine n_as (v' := Tv) (by exact bpy (by first | rfl | decide | exact ex6_s1 | exact ex6_s2 | exact ex6_s3 | exact ex6_s4 | exact ex6_s5)) ?_
 refine o_move (.sl 1 (gcells cP colL)) (Gd.yes rfl rfl rfl) rfl ?_
 refine g_index cP colL 1 cP_len rfl (Gd.yes rfl rfl rfl) f161_ rfl rfl (by decide) ?_
 refine g_field cP colL 1 cP_len (Gd.yes rfl rfl rfl) f168_ rfl (by decide) rfl ?_
 refine g_loadS cP colL 1 default (.sl 1 (sbs ((colL.getD 1 default).map txt))) cP_len (Gd.yes rfl rfl rfl) f169_ rfl (by decide) rfl ?_
 refine o_buildSlice 8 (sbs ([({data := #[48]} : ByteArray)])) [(0, [(Sv ({data := #[48]} : ByteArray))])] (Gd.yes rfl rfl rfl) f157_ rfl f158_ rfl rfl rfl rfl rfl rfl rfl ?_
 refine o_callG [(8, 1, (sbs ([({data := #[48]} : ByteArray)])))] [.sl 1 (sbs ((colL.getD 1 default).map txt)), (.sl 1 (sbs ([({data := #[48]} : ByteArray)])))] _ (bp ((colL.getD 1 default).map txt = [({data := #[48]} : ByteArray)])) [(6, (.var 45 [(Sv ({data := #[49]} : ByteArray)), (Sv ({data := #[53]} : ByteArray))])), (4, (.var 45 [(Sv ({data := #[45, 53]} : ByteArray)), (Sv ({data := #[49]} : ByteArray))])), (2, oM 24 (kinM 3 1))] (Gd.yes rfl rfl rfl) f170_ rfl ⟨⟨_, rfl⟩, trivial⟩ rfl rfl (LeL.cons (AV.le_refl _) (LeL.cons (AV.le_refl _) LeL.nil)) (c_l6Same ((colL.getD 1 default).map txt) ([({data := #[48]} : ByteArray)])) rfl ?_
 refine o_pickT (bp ((colL.getD 1 default).map txt = [({data := #[48]} : ByteArray)])) gn rfl rfl rfl ?_
 refine o_mv (bp ((colL.getD 1 default).map txt = [({data := #[48]} : ByteArray)])) rfl ?_
 refine n_as (v' := Tv) (by exact bpy (by first | rfl | decide | exact ex6_s1 | exact ex6_s2 | exact ex6_s3 | exact ex6_s4 | exact ex6_s5)) ?_
 refine o_move (.sl 1 (gcells cP colL)) (Gd.yes rfl rfl rfl) rfl ?_
 refine g_index cP colL 2 cP_len rfl (Gd.yes rfl rfl rfl) f161_ rfl rfl (by decide) ?_
 refine g_field cP colL 2 cP_len (Gd.yes rfl rfl rfl) f168_ rfl (by decide) rfl ?_
 refine g_loadS cP colL 2 default (.sl 1 (sbs ((colL.getD 2 default).map txt))) cP_len (Gd.yes rfl rfl rfl) f169_ rfl (by decide) rfl ?_
 refine o_buildSlice 9 (sbs ([({data := #[49]} : ByteArray), ({data := #[50]} : ByteArray)])) [(0, [(Sv ({data := #[49]} : ByteArray))]), (1, [(Sv ({data := #[50]} : ByteArray))])] (Gd.yes rfl rfl rfl) f157_ rfl f158_ rfl rfl rfl rfl rfl rfl rfl ?_
 refine o_callG [(9, 1, (sbs ([({data := #[49]} : ByteArray), ({data := #[50]} : ByteArray)])))] [.sl 1 (sbs ((colL.getD 2 default).map txt)), (.sl 1 (sbs ([({data := #[49]} : ByteArray), ({data := #[50]} : ByteArray)])))] _ (bp ((colL.getD 2 default).map txt = [({data := #[49]} : ByteArray), ({data := #[50]} : ByteArray)])) [(6, (.var 45 [(Sv ({data := #[49]} : ByteArray)), (Sv ({data := #[53]} : ByteArray))])), (4, (.var 45 [(Sv ({data := #[45, 53]} : ByteArray)), (Sv ({data := #[49]} : ByteArray))])), (2, oM 24 (kinM 3 1))] (Gd.yes rfl rfl rfl) f170_ rfl ⟨⟨_, rfl⟩, trivial⟩ rfl rfl (LeL.cons (AV.le_refl _) (LeL.cons (AV.le_refl _) LeL.nil)) (c_l6Same ((colL.getD 2 default).map txt) ([({data := #[49]} : ByteArray), ({data := #[50]} : ByteArray)])) rfl ?_
 refine o_pickT (bp ((colL.getD 2 default).map txt = [({data := #[49]} : ByteArray), ({data := #[50]} : ByteArray)])) gn rfl rfl rfl ?_
 refine o_mv (bp ((colL.getD 2 default).map txt = [({data := #[49]} : ByteArray), ({data := #[50]} : ByteArray)])) rfl ?_
 refine n_as (v' := Tv) (by exact bpy (by first | rfl | decide | exact ex6_s1 | exact ex6_s2 | exact ex6_s3 | exact ex6_s4 | exact ex6_s5)) ?_
 refine o_move (.sl 1 (gcells cP colL)) (Gd.yes rfl rfl rfl) rfl ?_
 refine g_index cP colL 3 cP_len rfl (Gd.yes rfl rfl rfl) f161_ rfl rfl (by decide) ?_
 refine g_field cP colL 3 cP_len (Gd.yes rfl rfl rfl) f168_ rfl (by decide) rfl ?_
 refine g_loadS cP colL 3 default (.sl 1 (sbs ((colL.getD 3 default).map txt))) cP_len (Gd.yes rfl rfl rfl) f169_ rfl (by decide) rfl ?_
 refine o_buildSlice 10 (sbs ([({data := #[45, 49, 48]} : ByteArray), ({data := #[45, 53]} : ByteArray), ({data := #[45, 55]} : ByteArray)])) [(0, [(Sv ({data := #[45, 49, 48]} : ByteArray))]), (1, [(Sv ({data := #[45, 53]} : ByteArray))]), (2, [(Sv ({data := #[45, 55]} : ByteArray))])] (Gd.yes rfl rfl rfl) f157_ rfl f158_ rfl rfl rfl rfl rfl rfl rfl ?_
 refine o_callG [(10, 1, (sbs ([({data := #[45, 49, 48]} : ByteArray), ({data := #[45, 53]} : ByteArray), ({data := #[45, 55]} : ByteArray)])))] [.sl 1 (sbs ((colL.getD 3 default).map txt)), (.sl 1 (sbs ([({data := #[45, 49, 48]} : ByteArray), ({data := #[45, 53]} : ByteArray), ({data := #[45, 55]} : ByteArray)])))] _ (bp ((colL.getD 3 default).map txt = [({data := #[45, 49, 48]} : ByteArray), ({data := #[45, 53]} : ByteArray), ({data := #[45, 55]} : ByteArray)])) [(6, (.var 45 [(Sv ({data := #[49]} : ByteArray)), (Sv ({data := #[53]} : ByteArray))])), (4, (.var 45 [(Sv ({data := #[45, 53]} : ByteArray)), (Sv ({data := #[49]} : ByteArray))])), (2, oM 24 (kinM 3 1))] (Gd.yes rfl rfl rfl) f170_ rfl ⟨⟨_, rfl⟩, trivial⟩ rfl rfl (LeL.cons (AV.le_refl _) (LeL.cons (AV.le_refl _) LeL.nil)) (c_l6Same ((colL.getD 3 default).map txt) ([({data := #[45, 49, 48]} : ByteArray), ({data := #[45, 53]} : ByteArray), ({data := #[45, 55]} : ByteArray)])) rfl ?_
 refine o_pickT (bp ((colL.getD 3 default).map txt = [({data := #[45, 49, 48]} : ByteArray), ({data := #[45, 53]} : ByteArray), ({data := #[45, 55]} : ByteArray)])) gn rfl rfl rfl ?_
 refine o_mv (bp ((colL.getD 3 default).map txt = [({data := #[45, 49, 48]} : ByteArray), ({data := #[45, 53]} : ByteArray), ({data := #[45, 55]} : ByteArray)])) rfl ?_
 refine n_as (v' := Tv) (by exact bpy (by first | rfl | decide | exact ex6_s1 | exact ex6_s2 | exact ex6_s3 | exact ex6_s4 | exact ex6_s5)) ?_
 refine o_move (.sl 1 (gcells cP colL)) (Gd.yes rfl rfl rfl) rfl ?_
 refine g_index cP colL 4 cP_len rfl (Gd.yes rfl rfl rfl) f161_ rfl rfl (by decide) ?_
 refine g_field cP colL 4 cP_len (Gd.yes rfl rfl rfl) f168_ rfl (by decide) rfl ?_
 refine g_loadS cP colL 4 default (.sl 1 (sbs ((colL.getD 4 default).map txt))) cP_len (Gd.yes rfl rfl rfl) f169_ rfl (by decide) rfl ?_
 refine s_len ((colL.getD 4 default).map txt) (Gd.yes rfl rfl rfl) f162_ rfl ?_
 refine n_eql (((colL.getD 4 default).map txt).length) 11 (Gd.yes rfl rfl rfl) rfl rfl ?_
 refine o_pickT (bp ((((colL.getD 4 default).map txt).length) = 11)) gn rfl rfl rfl ?_
 refine o_mv (bp ((((colL.getD 4 default).map txt).length) = 11)) rfl ?_
 refine n_as (v' := Tv) (by exact bpy (by first | rfl | decide | exact ex6_s1 | exact ex6_s2 | exact ex6_s3 | exact ex6_s4 | exact ex6_s5)) ?_
 refine o_move (.sl 1 (gcells cP colL)) (Gd.yes rfl rfl rfl) rfl ?_
 refine g_index cP colL 4 cP_len rfl (Gd.yes rfl rfl rfl) f161_ rfl rfl (by decide) ?_
 refine g_field cP colL 4 cP_len (Gd.yes rfl rfl rfl) f168_ rfl (by decide) rfl ?_
 refine g_loadS cP colL 4 default (.sl 1 (sbs ((colL.getD 4 default).map txt))) cP_len (Gd.yes rfl rfl rfl) f169_ rfl (by decide) rfl ?_
 refine s_index ((colL.getD 4 default).map txt) 0 (Gd.yes rfl rfl rfl) f157_ rfl rfl (by decide) ?_
 refine s_loadI ((colL.getD 4 default).map txt) 0 (Gd.yes rfl rfl rfl) f163_ rfl (by decide) ?_
 refine o_eqlS (a := (((colL.getD 4 default).map txt).getD 0 { data := #[] })) (c := ({data := #[45, 49, 51, 54]} : ByteArray)) (Gd.yes rfl rfl rfl) rfl rfl ?_
 refine o_pickT (bp ((((colL.getD 4 default).map txt).getD 0 { data := #[] }).toList = ({data := #[45, 49, 51, 54]} : ByteArray).toList)) gn rfl rfl rfl ?_
 refine o_as (bp ((((colL.getD 4 default).map txt).getD 0 { data := #[] }).toList = ({data := #[45, 49, 51, 54]} : ByteArray).toList)) rfl (aops_end (hK5 _ ?_))
 refine awp_ret ?_
 refine post_ret ⟨[(bp ((((colL.getD 4 default).map txt).getD 0 { data := #[] }).toList = ({data := #[45, 49, 51, 54]} : ByteArray).toList))], ⟨AV.le_refl _, trivial⟩, rfl, ?_⟩
 exact (bpy (by rw [ex6_s5])).symm

theorem c_l6Proper (m : MapM) (w : List Int) (hl : w.length ≤ 17592186044416) : ECalls cx 18 [mapV m, Lv w] (bp (cycE m w = 0)) := by
 refine ecalls_of_awp Tryz.func18 (c := _) rfl (Nat.le_of_ble_eq_true rfl) ?_
 show awp cx 21 _ (postF cx Tryz.f18 _) ⟨[(0, mapV m), (1, Lv w)], []⟩
 refine awp_seq fun K0 hK0 => awp_region rfl ?_
 refine o_box 2 [Iv m.mod, Lv m.mul, Lv m.add] gn rfl rfl ?_
 refine o_as Fv rfl (aops_end (hK0 _ (awp_seq fun K1 hK1 => awp_region rfl ?_)))
 refine o_loadA [Iv m.mod, Lv m.mul, Lv m.add] gn f63_ rfl rfl rfl rfl rfl ?_
 refine o_ct (c_gValid m) gn f171_ rfl ?_
 refine o_mv (.lit (.bool (okM m))) rfl ?_
 refine o_split (b := okM m) 7 rfl (fun h1 => ?_) (fun h1 => ?_)
 ·have hm' : okM m = true := by simpa using h1
  have hM := okM_iff.1 hm'
  refine o_loadA [Iv m.mod, Lv m.mul, Lv m.add] (Gd.yes rfl rfl h1) f63_ rfl rfl rfl rfl rfl ?_
  refine o_ct (c_gRegular m (by first | assumption | exact okM_iff.1 (by assumption))) (Gd.yes rfl rfl h1) f172_ rfl ?_
  refine o_pickT (bp (freeM m)) gn rfl h1 rfl ?_
  refine o_mv (bp (freeM m)) rfl ?_
  refine o_splitP (q := freeM m) 11 rfl (fun h2 => ?_) (fun h2 => ?_)
  ·refine o_loadA [Iv m.mod, Lv m.mul, Lv m.add] (Gd.yes rfl rfl (decide_eq_true h2)) f63_ rfl rfl rfl rfl rfl ?_
   refine o_move (Lv w) (Gd.yes rfl rfl (decide_eq_true h2)) rfl ?_
   refine o_ct (c_vIs m w (by omega)) (Gd.yes rfl rfl (decide_eq_true h2)) f173_ rfl ?_
   refine o_pickT (bp (OkW m w)) gn rfl (decide_eq_true h2) rfl ?_
   refine o_mv (bp (OkW m w)) rfl ?_
   refine o_splitP (q := OkW m w) 16 rfl (fun h3 => ?_) (fun h3 => ?_)
   ·refine o_move (Lv w) (Gd.yes rfl rfl (decide_eq_true h3)) rfl ?_
    refine i_len w (Gd.yes rfl rfl (decide_eq_true h3)) f2_ rfl ?_
    refine n_gtr (w.length) 0 (Gd.yes rfl rfl (decide_eq_true h3)) rfl rfl ?_
    refine o_pickT (bp (0 < (w.length))) gn rfl (decide_eq_true h3) rfl ?_
    refine o_as (bp (0 < (w.length))) rfl (aops_end (hK1 _ ?_))
    refine awp_ret ?_
    refine post_ret ⟨[bp (0 < (w.length))], ⟨AV.le_refl _, trivial⟩, rfl, ?_⟩
    exact bpc ⟨fun e => List.length_pos_iff.2 (cyc_0' e).2.2.2, fun e => cyc_0 hm' ⟨h2, h3, List.length_pos_iff.1 e⟩⟩
   ·refine o_skip rfl rfl (decide_eq_false h3) (o_skip rfl rfl (decide_eq_false h3) (o_skip rfl rfl (decide_eq_false h3) ?_))
    refine o_pickF Fv gn rfl (decide_eq_false h3) rfl ?_
    refine o_as Fv rfl (aops_end (hK1 _ ?_))
    refine awp_ret ?_
    refine post_ret ⟨[Fv], ⟨AV.le_refl _, trivial⟩, rfl, ?_⟩
    exact bpn (fun e => absurd (cyc_0' e).2.2.1 h3)
  ·refine o_skip rfl rfl (decide_eq_false h2) (o_skip rfl rfl (decide_eq_false h2) (o_skip rfl rfl (decide_eq_false h2) ?_))
   refine o_pickF Fv gn rfl (decide_eq_false h2) rfl ?_
   refine o_mv Fv rfl (o_skip rfl rfl rfl (o_skip rfl rfl rfl (o_skip rfl rfl rfl ?_)))
   refine o_pickF Fv gn rfl rfl rfl ?_
   refine o_as Fv rfl (aops_end (hK1 _ ?_))
   refine awp_ret ?_
   refine post_ret ⟨[Fv], ⟨AV.le_refl _, trivial⟩, rfl, ?_⟩
   exact bpn (fun e => absurd (cyc_0' e).2.1 h2)
 ·have hm' : ¬ okM m = true := by simpa using h1
  refine o_skip rfl rfl h1 (o_skip rfl rfl h1 ?_)
  refine o_pickF Fv gn rfl h1 rfl ?_
  refine o_mv Fv rfl (o_skip rfl rfl rfl (o_skip rfl rfl rfl (o_skip rfl rfl rfl ?_)))
  refine o_pickF Fv gn rfl rfl rfl ?_
  refine o_mv Fv rfl (o_skip rfl rfl rfl (o_skip rfl rfl rfl (o_skip rfl rfl rfl ?_)))
  refine o_pickF Fv gn rfl rfl rfl ?_
  refine o_as Fv rfl (aops_end (hK1 _ ?_))
  refine awp_ret ?_
  refine post_ret ⟨[Fv], ⟨AV.le_refl _, trivial⟩, rfl, ?_⟩
  exact bpn (fun e => absurd (okM_iff.2 (cyc_0' e).1) hm')

end Go.Proofs.YtdmkejloknejdaaGreatDoor

namespace Go.Proofs.YtdmkejloknejdaaGreatDoor
open Go Go.Ab Go.Mth
theorem f174_ : callable cx.P 9 = true := by kernel_rfl
theorem f175_ : callable cx.P 29 = true := by kernel_rfl
theorem f176_ : callable cx.P 11 = true := by kernel_rfl
theorem f177_ : cx.P.underlying 63 = some (.slice 45) := by kernel_rfl
theorem f178_ : callable cx.P 13 = true := by kernel_rfl
theorem f179_ : callable cx.P 18 = true := by kernel_rfl
theorem f180_ : callable cx.P 31 = true := by kernel_rfl
theorem f181_ : callable cx.P 32 = true := by kernel_rfl
theorem f182_ : cx.P.underlying 67 = some (.slice 50) := by kernel_rfl
theorem c_CycleFixes (m : MapM) (w : List Int) (h1m : m.mul.length ≤ 17592186044416) (h2m : m.add.length ≤ 17592186044416) (hwl : w.length ≤ 17592186044416) : ECalls cx 6 [mapV m, Lv w] (.lit (.bool true)) := by
 refine ecalls_of_awp Tryz.func6 (c := _) rfl (Nat.le_of_ble_eq_true rfl) ?_
 show awp cx 129 _ (postF cx Tryz.f6 _) ⟨[(0, mapV m), (1, Lv w)], []⟩
 refine awp_seq fun K0 hK0 => awp_region rfl ?_
 refine o_box 2 [Iv m.mod, Lv m.mul, Lv m.add] gn rfl rfl ?_
 refine o_as Fv rfl (aops_end (hK0 _ (awp_seq fun K1 hK1 => awp_region rfl ?_)))
 refine o_loadA [Iv m.mod, Lv m.mul, Lv m.add] gn f63_ rfl rfl rfl rfl rfl ?_
 refine o_ct (c_gTwin m (by omega) (by omega)) gn f174_ rfl ?_
 refine o_buildSlice 3 (ns .i64 ([])) [] gn f10_ rfl f26_ rfl rfl rfl rfl rfl rfl rfl ?_
 refine o_mv (Lv w) rfl ?_
 refine o_append 4 (is .i64 w) (is .i64 w) _ [(2, oM 24 m)] gn f10_ rfl f26_ rfl rfl rfl (.inl ⟨rfl, rfl⟩) (by simp [is, ns]; omega) (by simp [is, ns]; omega) rfl rfl rfl ?_
 refine o_alloc 5 [Nv 0, Zv, Zv] gn f65_ rfl rfl rfl ?_
 refine o_store [(5, oM 24 m), (4, .row 3 1 (is .i64 w)), (2, oM 24 m)] gn f67_ rfl rfl rfl rfl rfl rfl ?_
 refine o_as (.row 4) rfl (aops_end (hK1 _ (awp_seq fun K2 hK2 => awp_region rfl ?_)))
 refine o_loadA [Iv m.mod, Lv m.mul, Lv m.add] gn f63_ rfl rfl rfl rfl rfl ?_
 refine o_mv (Lv w) rfl ?_
 refine o_ct (c_yFixed m w (by first | assumption | omega | decide)) gn f165_ rfl ?_
 refine o_mv (.tup [.agg [Sv ((fxF m w).num), Sv ((fxF m w).den)], Nv (cycE m w)]) rfl (o_extract (.agg [Sv ((fxF m w).num), Sv ((fxF m w).den)]) gn rfl rfl (o_extract (Nv (cycE m w)) gn rfl rfl ?_))
 refine o_alloc 6 [Sv Ev, Sv Ev] gn f89_ rfl rfl rfl ?_
 refine o_store [(6, .var 45 [Sv ((fxF m w).num), Sv ((fxF m w).den)]), (5, oM 24 m), (4, .row 3 1 (is .i64 w)), (2, oM 24 m)] gn f94_ rfl rfl rfl rfl rfl rfl ?_
 refine o_as (Nv (cycE m w)) rfl (aops_end (hK2 _ (awp_seq fun K3 hK3 => awp_region rfl ?_)))
 refine o_loadA [Iv m.mod, Lv m.mul, Lv m.add] gn f63_ rfl rfl rfl rfl rfl ?_
 refine o_mv (Lv w) rfl ?_
 refine o_ct (c_yTurn m w (by first | assumption | omega | decide)) gn f175_ rfl ?_
 refine o_mv (.tup [.sl 2 (gcells cF (tnL m w)), Nv (cycE m w)]) rfl (o_extract (.sl 2 (gcells cF (tnL m w))) gn rfl rfl (o_extract (Nv (cycE m w)) gn rfl rfl (o_as (.sl 2 (gcells cF (tnL m w))) rfl (o_as (Nv (cycE m w)) rfl (aops_end (hK3 _ (awp_seq fun K4 hK4 => ?_)))))))
 refine awp_block ?_
 refine awp_seq fun K5 hK5 => awp_region rfl ?_
 refine o_loadA [Iv m.mod, Lv m.mul, Lv m.add] gn f63_ rfl rfl rfl rfl rfl ?_
 refine o_loadA [Iv m.mod, Lv m.mul, Lv m.add] gn f63_ rfl rfl rfl rfl rfl ?_
 refine o_ct (c_gSame m m) gn f176_ rfl ?_
 refine o_notP (q := m = m) gn rfl ?_
 refine o_mv (bp (¬ (m = m))) rfl (o_move (Lv w) (Gd.yes rfl rfl (decide_eq_false (fun h => h rfl))) rfl (o_move (.row 4) (Gd.yes rfl rfl (decide_eq_false (fun h => h rfl))) rfl ?_))
 refine o_callG [(4, 1, is .i64 w)] [Lv w, Lv w] _ (bp (w = w)) [(6, .var 45 [Sv ((fxF m w).num), Sv ((fxF m w).den)]), (5, oM 24 m), (2, oM 24 m)] (Gd.yes rfl rfl (decide_eq_false (fun h => h rfl))) f64_ rfl ⟨⟨_, rfl⟩, trivial⟩ rfl rfl (LeL.cons (AV.le_refl _) (LeL.cons (AV.le_refl _) LeL.nil)) (c_gAlike w w) rfl ?_
 refine o_notP (q := w = w) (Gd.yes rfl rfl (decide_eq_false (fun h => h rfl))) rfl ?_
 refine o_pickF (bp (¬ (w = w))) gn rfl (decide_eq_false (fun h => h rfl)) rfl ?_
 refine o_as (bp (¬ (w = w))) rfl (aops_end (hK5 _ ?_))
 refine awp_condB (b := decide (¬ (w = w))) rfl (fun hh => absurd (hh.symm.trans (decide_eq_false (fun h => h rfl))) (by decide)) (fun _ => ?_)
 refine awp_seq fun K6 hK6 => awp_region rfl ?_
 refine o_loadA [Iv m.mod, Lv m.mul, Lv m.add] gn f63_ rfl rfl rfl rfl rfl ?_
 refine o_ct (c_gValid m) gn f171_ rfl ?_
 refine o_not (b := okM m) gn rfl ?_
 refine o_as (.lit (.bool (!(okM m)))) rfl (aops_end (hK6 _ ?_))
 refine awp_condB (b := !(okM m)) rfl (fun h1 => ?_) (fun h1 => ?_)
 ·have hm' : ¬ okM m = true := by simpa using h1
  have hc := cyc_1 (w := w) hm'
  have hx := fxF_no (m := m) (w := w) (by omega)
  refine awp_seq fun K7 hK7 => awp_region rfl ?_
  refine o_loadA [Sv ((fxF m w).num), Sv ((fxF m w).den)] gn f95_ rfl rfl rfl rfl rfl ?_
  refine n_as (v' := (.agg [Sv Ev, Sv Ev])) (by rw [hx.1]; try rfl) ?_
  refine o_build [Sv Ev, Sv Ev] [] gn f93_ f89_ rfl rfl rfl ?_
  refine o_eqlA [.string Ev, .string Ev] [.string Ev, .string Ev] (Ev = Ev ∧ Ev = Ev) gn rfl rfl (eq_api_Frac _ _ _ _) ?_
  refine o_mv (bp (Ev = Ev ∧ Ev = Ev)) rfl (o_move (.sl 2 (gcells cF (tnL m w))) (Gd.yes rfl rfl (decide_eq_true ⟨rfl, rfl⟩)) rfl ?_)
  refine n_as (v' := (.sl 2 (gcells cF ([])))) (by rw [hx.2]) ?_
  refine g_len cF ([]) cF_len (Gd.yes rfl rfl (decide_eq_true ⟨rfl, rfl⟩)) f177_ rfl ?_
  refine n_eql (([]).length) 0 (Gd.yes rfl rfl (decide_eq_true ⟨rfl, rfl⟩)) rfl rfl ?_
  refine n_as (v' := Tv) (by exact bpy rfl) ?_
  refine o_pickT Tv gn rfl (decide_eq_true ⟨rfl, rfl⟩) rfl ?_
  refine o_mv Tv rfl (o_move (Nv (cycE m w)) (Gd.yes rfl rfl rfl) rfl ?_)
  refine n_as (v' := (Nv 1)) (by rw [hc]) ?_
  refine n_eql 1 1 (Gd.yes rfl rfl rfl) rfl rfl ?_
  refine o_pickT (bp (1 = 1)) gn rfl rfl rfl ?_
  refine o_mv (bp (1 = 1)) rfl ?_
  refine o_move (Nv (cycE m w)) (Gd.yes rfl rfl (decide_eq_true (by decide))) rfl ?_
  refine n_as (v' := (Nv 1)) (by rw [hc]) ?_
  refine n_eql 1 1 (Gd.yes rfl rfl (decide_eq_true (by decide))) rfl rfl ?_
  refine o_pickT (bp (1 = 1)) gn rfl (decide_eq_true (by decide)) rfl ?_
  refine o_mv (bp (1 = 1)) rfl ?_
  refine o_ct c_awake6 (Gd.yes rfl rfl (decide_eq_true (by decide))) f178_ rfl ?_
  refine o_pickT Tv gn rfl (decide_eq_true (by decide)) rfl ?_
  refine o_as Tv rfl (aops_end (hK7 _ ?_))
  refine awp_ret ?_
  refine post_ret ⟨[Tv], ⟨AV.le_refl _, trivial⟩, rfl, ?_⟩
  first | rfl | simp [bp]
 ·have hm' : okM m = true := by simpa using h1
  have hM := okM_iff.1 hm'
  refine awp_seq fun K8 hK8 => awp_region rfl ?_
  refine o_loadA [Iv m.mod, Lv m.mul, Lv m.add] gn f63_ rfl rfl rfl rfl rfl ?_
  refine o_mv (Lv w) rfl ?_
  refine o_ct (c_l6Proper m w (by assumption)) gn f179_ rfl ?_
  refine o_notP (q := cycE m w = 0) gn rfl ?_
  refine o_as (bp (¬ (cycE m w = 0))) rfl (aops_end (hK8 _ ?_))
  refine awp_condQ (q := ¬ (cycE m w = 0)) rfl (fun h2 => ?_) (fun h2 => ?_)
  ·have hc := cyc_2 (w := w) hm' (fun e => h2 (cyc_0 hm' e))
   have hx := fxF_no (m := m) (w := w) (by omega)
   refine awp_seq fun K9 hK9 => awp_region rfl ?_
   refine o_loadA [Sv ((fxF m w).num), Sv ((fxF m w).den)] gn f95_ rfl rfl rfl rfl rfl ?_
   refine n_as (v' := (.agg [Sv Ev, Sv Ev])) (by rw [hx.1]; try rfl) ?_
   refine o_build [Sv Ev, Sv Ev] [] gn f93_ f89_ rfl rfl rfl ?_
   refine o_eqlA [.string Ev, .string Ev] [.string Ev, .string Ev] (Ev = Ev ∧ Ev = Ev) gn rfl rfl (eq_api_Frac _ _ _ _) ?_
   refine o_mv (bp (Ev = Ev ∧ Ev = Ev)) rfl (o_move (.sl 2 (gcells cF (tnL m w))) (Gd.yes rfl rfl (decide_eq_true ⟨rfl, rfl⟩)) rfl ?_)
   refine n_as (v' := (.sl 2 (gcells cF ([])))) (by rw [hx.2]) ?_
   refine g_len cF ([]) cF_len (Gd.yes rfl rfl (decide_eq_true ⟨rfl, rfl⟩)) f177_ rfl ?_
   refine n_eql (([]).length) 0 (Gd.yes rfl rfl (decide_eq_true ⟨rfl, rfl⟩)) rfl rfl ?_
   refine n_as (v' := Tv) (by exact bpy rfl) ?_
   refine o_pickT Tv gn rfl (decide_eq_true ⟨rfl, rfl⟩) rfl ?_
   refine o_mv Tv rfl (o_move (Nv (cycE m w)) (Gd.yes rfl rfl rfl) rfl ?_)
   refine n_as (v' := (Nv 2)) (by rw [hc]) ?_
   refine n_eql 2 2 (Gd.yes rfl rfl rfl) rfl rfl ?_
   refine o_pickT (bp (2 = 2)) gn rfl rfl rfl ?_
   refine o_mv (bp (2 = 2)) rfl ?_
   refine o_move (Nv (cycE m w)) (Gd.yes rfl rfl (decide_eq_true (by decide))) rfl ?_
   refine n_as (v' := (Nv 2)) (by rw [hc]) ?_
   refine n_eql 2 2 (Gd.yes rfl rfl (decide_eq_true (by decide))) rfl rfl ?_
   refine o_pickT (bp (2 = 2)) gn rfl (decide_eq_true (by decide)) rfl ?_
   refine o_mv (bp (2 = 2)) rfl ?_
   refine o_ct c_awake6 (Gd.yes rfl rfl (decide_eq_true (by decide))) f178_ rfl ?_
   refine o_pickT Tv gn rfl (decide_eq_true (by decide)) rfl ?_
   refine o_as Tv rfl (aops_end (hK9 _ ?_))
   refine awp_ret ?_
   refine post_ret ⟨[Tv], ⟨AV.le_refl _, trivial⟩, rfl, ?_⟩
   first | rfl | simp [bp]
  ·have hc0 : cycE m w = 0 := Decidable.not_not.1 h2
   obtain ⟨hM, hf, hW, hne⟩ := cyc_0' hc0
   have hx := fxF_ok hc0
   have hwp : 0 < w.length := List.length_pos_iff.2 hne
   obtain ⟨k1, k2⟩ := fix_fit hM hf hW hne
   have k3 := fit_len k1
   have k4 := fit_len k2
   have hz1 := tzL_len m w w.length
   have hz2 := trL_len m w w.length
   refine awp_skip (hK4 _ (awp_seq fun K10 hK10 => awp_region rfl ?_))
   refine o_loadA [Iv m.mod, Lv m.mul, Lv m.add] gn f63_ rfl rfl rfl rfl rfl ?_
   refine o_mv (Lv w) rfl ?_
   refine o_ct (c_zTurn m w hM hf hW hne) gn f180_ rfl ?_
   refine o_as (.sl 4 (gcells cR (tzL m w w.length))) rfl (aops_end (hK10 _ (awp_seq fun K11 hK11 => awp_seq fun K12 hK12 => awp_regionD rfl (o_mv (Nv (cycE m w)) rfl ?_))))
   refine n_as (v' := (Nv 0)) (by rw [hc0]) ?_
   refine n_neq 0 0 gn rfl rfl ?_
   refine o_mv (bp (0 ≠ 0)) rfl ?_
   refine o_move (Nv (cycE m w)) (Gd.yes rfl rfl (decide_eq_false (by decide))) rfl ?_
   refine n_as (v' := (Nv 0)) (by rw [hc0]) ?_
   refine n_neq 0 0 (Gd.yes rfl rfl (decide_eq_false (by decide))) rfl rfl ?_
   refine o_pickF (bp (0 ≠ 0)) gn rfl (decide_eq_false (by decide)) rfl ?_
   refine o_mv (bp (0 ≠ 0)) rfl ?_
   refine o_loadA [Sv ((fxF m w).num), Sv ((fxF m w).den)] (Gd.yes rfl rfl (decide_eq_false (by decide))) f95_ rfl rfl rfl rfl rfl ?_
   refine n_as (v' := (.agg [Sv ((frT (fixZ m w)).num), Sv ((frT (fixZ m w)).den)])) (by rw [hx.1]; try rfl) ?_
   refine o_move (.sl 4 (gcells cR (tzL m w w.length))) (Gd.yes rfl rfl (decide_eq_false (by decide))) rfl ?_
   refine g_index cR (tzL m w w.length) 0 cR_len rfl (Gd.yes rfl rfl (decide_eq_false (by decide))) f133_ rfl rfl (by omega) ?_
   refine g_loadA cR (tzL m w w.length) 0 default cR_len (Gd.yes rfl rfl (decide_eq_false (by decide))) f124_ rfl (by omega) ?_
   refine n_as (v' := (frR (fixZ m w))) (by rw [tzL_get hwp]; try rfl) ?_
   refine o_ct (c_zText (fixZ m w) (by omega) (by omega)) (Gd.yes rfl rfl (decide_eq_false (by decide))) f181_ rfl ?_
   refine o_neqA [.string ((frT (fixZ m w)).num), .string ((frT (fixZ m w)).den)] [.string ((frT (fixZ m w)).num), .string ((frT (fixZ m w)).den)] (((frT (fixZ m w)).num) = ((frT (fixZ m w)).num) ∧ ((frT (fixZ m w)).den) = ((frT (fixZ m w)).den)) (Gd.yes rfl rfl (decide_eq_false (by decide))) rfl rfl (eq_api_Frac _ _ _ _) ?_
   refine n_as (v' := Fv) (by exact bp_no (fun e => e ⟨rfl, rfl⟩)) ?_
   refine o_pickF Fv gn rfl (decide_eq_false (by decide)) rfl ?_
   refine o_mv Fv rfl (o_move (.sl 2 (gcells cF (tnL m w))) (Gd.yes rfl rfl rfl) rfl ?_)
   refine n_as (v' := (.sl 2 (gcells cF (trL m w w.length)))) (by rw [hx.2]) ?_
   refine g_len cF (trL m w w.length) cF_len (Gd.yes rfl rfl rfl) f177_ rfl ?_
   refine o_move (.sl 4 (gcells cR (tzL m w w.length))) (Gd.yes rfl rfl rfl) rfl ?_
   refine g_len cR (tzL m w w.length) cR_len (Gd.yes rfl rfl rfl) f182_ rfl ?_
   refine n_neq ((trL m w w.length).length) ((tzL m w w.length).length) (Gd.yes rfl rfl rfl) rfl rfl ?_
   refine o_pickF (bp (((trL m w w.length).length) ≠ ((tzL m w w.length).length))) gn rfl rfl rfl ?_
   refine aops_end ⟨by kernel_rfl, ?_⟩
   refine hK12 _ ?_
   refine awp_condQ (q := ((trL m w w.length).length) ≠ ((tzL m w w.length).length)) rfl (fun h3 => ?_) (fun h3 => ?_)
   ·exact absurd (hz2.trans hz1.symm) h3
   ·refine awp_skip (hK11 _ (awp_seq fun K13 hK13 => awp_seq fun K14 hK14 => awp_region rfl (o_as (Nv 0) rfl (aops_end (hK14 _ ?_)))))
    refine awp_block ?_
    refine awp_loopR (fun κ σ => ∃ (i : Nat), (i ≤ w.length) ∧ (w.length - i) = κ ∧ σ = ⟨[(9, .sl 2 (gcells cF (trL m w w.length))), (11, .sl 4 (gcells cR (tzL m w w.length))), (12, Nv i)], []⟩) ⟨_, _, ⟨0, (by omega), rfl, rfl⟩, ?wk0⟩ ?rd0
    case wk0 =>
     exact Wk.sub ⟨(by first | rfl | (exact congrArg (fun l => AV.sl 2 (gcells cF l)) hx.2)), rfl, (by first | rfl | exact nm_int (by omega)), trivial⟩ trivial
    rintro κ _ ⟨i, hi, rfl, rfl⟩
    refine awp_seq fun K15 hK15 => awp_seq fun K16 hK16 => awp_region rfl (o_mv (Nv i) rfl (o_mv (.sl 2 (gcells cF (trL m w w.length))) rfl ?_))
    refine g_len cF (trL m w w.length) cF_len gn f177_ rfl ?_
    refine n_lss i ((trL m w w.length).length) gn rfl rfl ?_
    refine aops_end (hK16 _ ?_)
    refine awp_condQ (q := i < ((trL m w w.length).length)) rfl (fun h4 => ?_) (fun h4 => ?_)
    ·have tg := tzL_get (m := m) (w := w) (n := w.length) (i := i) (by omega)
     have rg := trL_get (m := m) (w := w) (n := w.length) (i := i) (by omega)
     have tl := trn_fit hM hf hW hne (i := i) (by omega)
     have tl2 := fit_len tl.1
     have tl3 := fit_len tl.2
     refine awp_skip (hK15 _ (awp_seq fun K17 hK17 => ?_))
     refine awp_block ?_
     refine awp_seq fun K18 hK18 => awp_regionD rfl (o_mv (.sl 2 (gcells cF (trL m w w.length))) rfl (o_mv (Nv i) rfl ?_))
     refine g_index cF (trL m w w.length) i cF_len rfl gn f104_ rfl rfl (by omega) ?_
     refine g_loadA cF (trL m w w.length) i default cF_len gn f95_ rfl (by omega) ?_
     refine n_as (v' := (.agg [Sv ((frT (trnZ m w (fixZ m w) i)).num), Sv ((frT (trnZ m w (fixZ m w) i)).den)])) (by rw [rg]; try rfl) ?_
     refine o_mv (.sl 4 (gcells cR (tzL m w w.length))) rfl (o_mv (Nv i) rfl ?_)
     refine g_index cR (tzL m w w.length) i cR_len rfl gn f133_ rfl rfl (by omega) ?_
     refine g_loadA cR (tzL m w w.length) i default cR_len gn f124_ rfl (by omega) ?_
     refine n_as (v' := (frR (trnZ m w (fixZ m w) i))) (by rw [tg]; try rfl) ?_
     refine o_ct (c_zText (trnZ m w (fixZ m w) i) (by omega) (by omega)) gn f181_ rfl ?_
     refine o_neqA [.string ((frT (trnZ m w (fixZ m w) i)).num), .string ((frT (trnZ m w (fixZ m w) i)).den)] [.string ((frT (trnZ m w (fixZ m w) i)).num), .string ((frT (trnZ m w (fixZ m w) i)).den)] (((frT (trnZ m w (fixZ m w) i)).num) = ((frT (trnZ m w (fixZ m w) i)).num) ∧ ((frT (trnZ m w (fixZ m w) i)).den) = ((frT (trnZ m w (fixZ m w) i)).den)) gn rfl rfl (eq_api_Frac _ _ _ _) ?_
     refine n_as (v' := Fv) (by exact bp_no (fun e => e ⟨rfl, rfl⟩)) ?_
     refine aops_end ⟨by kernel_rfl, ?_⟩
     refine hK18 _ ?_
     refine awp_condB (b := false) rfl (fun hh => absurd (hh.symm.trans rfl) (by decide)) (fun _ => ?_)
     refine awp_skip (hK17 _ (awp_region rfl (o_mv (Nv i) rfl ?_)))
     refine n_add i 1 gn rfl rfl (by simp only [topOf]; omega) ?_
     refine o_as (Nv (i + 1)) rfl (aops_end ?_)
     refine ⟨_, _, ?lt, ⟨i + 1, (by omega), rfl, rfl⟩, ?wk⟩
     case lt => omega
     case wk => exact Wk.sub ⟨rfl, rfl, (by first | rfl | exact nm_int (by omega)), trivial⟩ trivial
    ·refine awp_exit ?_
     refine hK13 _ (awp_seq fun K19 hK19 => awp_region rfl ?_)
     refine o_ct c_awake6 gn f178_ rfl ?_
     refine o_as Tv rfl (aops_end (hK19 _ ?_))
     refine awp_ret ?_
     refine post_ret ⟨[Tv], ⟨AV.le_refl _, trivial⟩, rfl, ?_⟩
     first | rfl | simp [bp]

end Go.Proofs.YtdmkejloknejdaaGreatDoor

namespace Go.Proofs.YtdmkejloknejdaaGreatDoor.cycleFixes
open Go Go.Ab Go.Mth Go.ChangeShapes Go.WideShapes Go.ChangeAt Go.RowKit
noncomputable def laid5 : List (String × DataW Unit) := [("math/bits.deBruijn32tab", Rows.laid_math_bits_deBruijn32tab), ("math/bits.deBruijn64tab", Rows.laid_math_bits_deBruijn64tab), ("internal/strconv.uint64pow10", Rows.laid_internal_strconv_uint64pow10)]
theorem laid5_met {W : World} (h : laidMetH Tryz.prog laid5 W) : laidMet Tryz.prog laid5 W := (MakeChecks.laidMetH_plain _ _ _ (by kernel_rfl)).mp h
theorem laid5_tab {W : World} (h : laidMet Tryz.prog laid5 W) : laidMet Tryz.prog (("internal/strconv.uint64pow10", Lib.tabData .u64 Lib.pow10Tab) :: []) W := h.tail.tail
set_option maxRecDepth 100000 in
theorem tabG_of {W : World} (h : laidMetH Tryz.prog laid5 W) : TabG (memOf W) :=
 var_mem gTab (Lib.tabIs_of_head gTab gTabType uTab uElTab cElTab cTab (laid5_tab (laid5_met h)))
theorem reads (os : Os) {H : Type} (enc : TypeId × Value → H) : ∃ places, DataW.whole enc Tryz.prog ((World.laidAll Tryz.prog os laid5).forCall (fun _ _ => 0) ⟨#[], #[.agg #[.int .i64 0, .slice none 0 0, .slice none 0 0], .slice none 0 0], []⟩).memory Tryz.f6.params.toList Rows.cycleFixesSpec.vars false (#[.agg #[.int .i64 0, .slice none 0 0, .slice none 0 0], .slice none 0 0] : Array Value).toList 8 = some ([.agg [.lit (.int .i64 0), .nil, .nil], .nil], [], places) := ⟨[], by kernel_rfl⟩
theorem met (os : Os) : laidMetH Tryz.prog laid5 ((World.laidAll Tryz.prog os laid5).forCall (fun _ _ => 0) ⟨#[], #[.agg #[.int .i64 0, .slice none 0 0, .slice none 0 0], .slice none 0 0], []⟩).memory := (MakeChecks.laidMetH_plain _ _ _ (by kernel_rfl)).mpr (laidMet_laidAll _ (by kernel_rfl) (by kernel_rfl))
theorem specs {H : Type} (ds : List (DataW H)) (h : ds.length = 2) : (Rows.cycleFixesSpec.fn H ds).results = [.lit (.bool true)] ∧ (Rows.cycleFixesSpec.fn H ds).args = ds ∧ (Rows.cycleFixesSpec.fn H ds).vars = [] := by
 rcases ds with _ | ⟨d0, _ | ⟨d1, _ | ⟨e, t⟩⟩⟩ <;> simp at h <;> exact ⟨rfl, rfl, rfl⟩
set_option maxRecDepth 100000 in
theorem opened {H : Type} (enc : TypeId × Value → H) (W : World) (base : Nat) (args : Array Value) (ds : List (DataW H)) (ps : List MemPlace) (hval : ∀ (j : Nat) t v, (#[24, 22] : Array TypeId)[j]? = some t → args[j]? = some v → Value.okWide Tryz.prog W .any base t v)
  (hA : DataW.TrodAll enc Tryz.prog W 0 (fun _ => true) true [24, 22] args.toList ds ps) (hsz : (DataW.weightsEach Tryz.prog [24, 22] ds).all (· ≤ reachBytes) = true) : ∃ xs, RepL (memOf W) xs noLoc args.toList ∧ ECalls cx 6 xs (.lit (.bool true)) := by
 obtain ⟨v0, vs0, d0, ds0, p0, q0, hargs, rfl, rfl, h0, r0⟩ := trodAll_cons hA
 obtain ⟨v1, vs1, d1, ds1, p1, q1, rfl, rfl, rfl, h1, r1⟩ := trodAll_cons r0
 obtain ⟨rfl, rfl, rfl⟩ := trodAll_nil r1
 obtain rfl : args = #[v0, v1] := by cases args; simp_all
 obtain ⟨m0, e0, b0, c0⟩ := rep_map (hval 0 24 v0 rfl rfl) h0 (fun n hn => by simpa using List.all_eq_true.1 hsz n (DataW.weights_mem_each (j := 0) rfl rfl n hn))
 obtain ⟨l1, e1, b1⟩ := rep_list (hval 1 22 v1 rfl rfl) h1 (fun n hn => by simpa using List.all_eq_true.1 hsz n (DataW.weights_mem_each (j := 1) rfl rfl n hn))
 exact ⟨[mapV m0, .sl 1 (is .i64 l1)], RepL.cons e0 (RepL.cons e1 (by simp only [RepL])), c_CycleFixes m0 l1 b0 c0 b1⟩
set_option maxRecDepth 100000 in
theorem lifted (os : Os) (started : os.Started) (H : Type) (enc : TypeId × Value → H) (F : Stop.Interp) :
  ReturnsInHanded {} Tryz.checked os 6 .any ((OpenSpec.ofChange Rows.cycleFixesSpec).preRow enc Tryz.prog Tryz.f6 Rows.cycleFixesRow.domain false Rows.cycleFixesRow.laid) (((OpenSpec.ofChange Rows.cycleFixesSpec).at F).post enc Tryz.prog Tryz.f6 false true false false) := by
 obtain ⟨places, hx⟩ := reads os enc
 refine lifted_of (C := Tryz.checked) started cx rfl ownT (by kernel_rfl) Tryz.func6 (witness_laid #[.agg #[.int .i64 0, .slice none 0 0, .slice none 0 0], .slice none 0 0] (by kernel_rfl) (by kernel_rfl) (by kernel_rfl) (OpenSpec.preRow_of_cond 8 hx (by kernel_rfl) (fun k hk => by cases hk) (by kernel_rfl) (met os))) laidOutT (by kernel_rfl) (tb := 4) (by kernel_rfl) u4T rfl (fun ds h => specs ds (h.trans (by kernel_rfl))) (fun W h => tabG_of h) ?_
 intro W base args ds ps hval hA hsz
 exact opened enc W base args ds ps hval hA hsz
theorem said : Rows.CycleFixesSaid :=
 OpenClaim.holds_of_cond 6 Tryz.f6 rfl rfl rfl rfl rfl rfl rfl ⟨rfl, rfl, rfl, rfl, rfl⟩ rfl rfl rfl rfl rfl (by kernel_rfl) Tryz.func6 (by kernel_rfl)
  (of_decide_eq_true (by kernel_rfl)) (by unfold Func.isWrapper; first | (rw [if_pos (by decide +kernel)]; kernel_rfl) | (rw [if_neg (by decide +kernel)]; exact ⟨rfl, rfl⟩))
  (fun os started H enc _ F => by rw [OpenClaim.pre_eq_preRow]; exact lifted os started H enc F)
theorem plain (f : FuncId) (fn : Func) (hf : Tryz.pinned.checked.prog.funcNamed "katabasis/katabasislaw06.CycleFixes" = some f) (hfn : Tryz.pinned.checked.prog.funcs[f]? = some fn) :
  true = Tryz.pinned.checked.prog.looks [] ∧ ∀ (j : Nat) t, fn.params[j]? = some t → Tryz.pinned.checked.prog.wantsStandIn t = false := by
 obtain rfl : f = 6 := Option.some.inj ((show Tryz.prog.funcNamed "katabasis/katabasislaw06.CycleFixes" = some 6 by kernel_rfl).symm.trans hf) |>.symm
 obtain rfl : fn = Tryz.f6 := (Option.some.inj (Tryz.func6.symm.trans hfn)).symm
 refine ⟨by kernel_rfl, fun j t ht => ?_⟩
 rw [Tryz.params6] at ht
 have : t = 24 ∨ t = 22 := by have h := Array.mem_of_getElem? ht; simp at h; first | exact h | (rcases h with h | h | h | h <;> simp [h]) | (rcases h with h | h | h <;> simp [h]) | (rcases h with h | h <;> simp [h])
 rcases this with rfl | rfl
 ·exact (show Tryz.prog.wantsStandIn 24 = false by kernel_rfl)
 ·exact (show Tryz.prog.wantsStandIn 22 = false by kernel_rfl)
end Go.Proofs.YtdmkejloknejdaaGreatDoor.cycleFixes
namespace Go.Proofs.YtdmkejloknejdaaGreatDoor
open Go
theorem cycleFixes_holds : Rows.CycleFixesCardSaid :=
 Claim7.holds_tied_plain_at .later [] _ _ _ _ cycleFixes.said (fun _ h => by cases h) (by kernel_rfl) (fun _ h => by cases h) cycleFixes_row_tie rfl ⟨rfl, rfl⟩ (by kernel_rfl) rfl cycleFixes.plain (by kernel_rfl)
#print axioms cycleFixes_holds
end Go.Proofs.YtdmkejloknejdaaGreatDoor

