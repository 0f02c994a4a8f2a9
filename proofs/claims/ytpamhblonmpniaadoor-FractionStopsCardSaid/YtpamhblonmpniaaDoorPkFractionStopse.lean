/- The law 'katabasislaw10.FractionStops' is true for every machine, configuration and number of steps: the fractions stop after twice the steps of the machine, at the number of the last configuration. Its condition: none but the row's own (the listed tables of the library). -/
import Derived.Test.YtpamhblonmpniaaDoorPkFractionStopsd
set_option linter.unusedVariables false
set_option linter.unusedSimpArgs false
namespace Go.Proofs.YtpamhblonmpniaaDoor
open Go Go.Ab Go.Mth
theorem Yd_tC28 : callable cx.P 28 = true := by kernel_rfl
theorem Yd_tC29 : callable cx.P 29 = true := by kernel_rfl
theorem Yd_tE30 : tyElem cx.P 30 = some (50, 2, 32) := by kernel_rfl
theorem Yd_tF50_0 : tyField cx.P 50 0 = some (0, 9) := by kernel_rfl
theorem Yd_tS9 : tySc cx.P 9 = true := by kernel_rfl
theorem Yd_tC25 : callable cx.P 25 = true := by kernel_rfl
theorem c_Play (l : List Frc) (n : ByteArray) (k : Int) (hS : ∀ f ∈ l, f.num.size ≤ 9223372036854775807 ∧ f.den.size ≤ 9223372036854775807) (hn : n.size ≤ 9223372036854775807) : ECalls cx 10 [(AV.sl 2 (gcells cF (l))), (AV.lit (.string (n))), (AV.lit (.int .i64 (k)))] (.tup [.lit (.string (plyA l n k).1), nm .i64 (plyA l n k).2.1, nm .i64 (plyA l n k).2.2]) := by
  refine ecalls_of_awp Tryd.func10 (c := _) rfl (Nat.le_of_ble_eq_true rfl) ?_
  show awp cx 58 _ (postF cx Tryd.f10 _) ⟨[(0, (AV.sl 2 (gcells cF (l)))), (1, (AV.lit (.string (n)))), (2, (AV.lit (.int .i64 (k))))], []⟩
  refine awp_seq fun K0 hK0 => ?_
  refine awp_region rfl ?_
  refine o_as (AV.lit (.string (({data := #[]} : ByteArray)))) rfl ?_
  refine o_as (nm .i64 (0)) rfl ?_
  refine o_as (nm .i64 (0)) rfl ?_
  refine aops_end ?_
  refine hK0 _ ?_
  refine awp_seq fun K1 hK1 => ?_
  refine awp_seq fun K2 hK2 => ?_
  refine awp_region rfl ?_
  refine o_mv (AV.sl 2 (gcells cF (l))) rfl ?_
  refine o_mv (AV.lit (.string (n))) rfl ?_
  refine o_ct (c_asks (l) (n) (by assumption) (by first | assumption | decide | omega)) Gd.none Yd_tC28 rfl ?_
  refine o_as (nm .i64 (askE (l) (n))) rfl ?_
  refine aops_end ?_
  refine hK2 _ ?_
  refine awp_seq fun K3 hK3 => ?_
  refine awp_region rfl ?_
  refine o_mv (nm .i64 (askE (l) (n))) rfl ?_
  refine n_neq (askE (l) (n)) (0) Gd.none rfl rfl ?_
  refine aops_end ?_
  refine hK3 _ ?_
  refine awp_condQ (q := (askE (l) (n)) ≠ (0)) rfl (fun h1 => ?_) (fun h1 => ?_)
  · refine awp_seq fun K4 hK4 => ?_
    refine awp_region rfl ?_
    refine o_mv (nm .i64 (askE (l) (n))) rfl ?_
    refine o_as (AV.lit (.string (({data := #[]} : ByteArray)))) rfl ?_
    refine o_as (nm .i64 (0)) rfl ?_
    refine o_as (nm .i64 (askE (l) (n))) rfl ?_
    refine aops_end ?_
    refine hK4 _ ?_
    refine awp_ret ?_
    refine post_ret ⟨[(AV.lit (.string (({data := #[]} : ByteArray)))), (nm .i64 (0)), (nm .i64 (askE (l) (n)))], And.intro (AV.le_refl _) (And.intro (AV.le_refl _) (And.intro (AV.le_refl _) (trivial))), rfl, ?_⟩
    first | (rw [plyA_1 h1]; rfl) | (rw [plyA_2 hA0 (by omega)]; rfl) | (rw [hp, ply_stop (by omega) (by omega), txt_numS (okS_iff.1 ho)]; rfl) | (rw [hp, ply_big (by omega) (by omega) (tld_big h6), tld_3 (tld_big h6)]; rfl) | (rw [hp, show k.toNat - i = 0 by omega, show i = k.toNat by omega]; show AV.tup [.lit (.string (txt (numS s))), _, _] = _; rw [txt_numS (okS_iff.1 ho)]; rfl)
  · have hA0 := Decidable.not_not.1 h1
    have hA := askE_0.1 hA0
    have hA1 := hA.1
    have hA2 := hA.2.1
    refine awp_skip ?_
    refine hK1 _ ?_
    refine awp_seq fun K5 hK5 => ?_
    refine awp_seq fun K6 hK6 => ?_
    refine awp_region rfl ?_
    refine o_mv (AV.lit (.int .i64 (k))) rfl ?_
    refine o_lss (a := (k)) (c := (((0 : Nat) : Int))) Gd.none rfl rfl ?_
    refine o_mv (bp ((k) < (((0 : Nat) : Int)))) rfl ?_
    refine o_splitP (q := (k) < (((0 : Nat) : Int))) 23 rfl (fun h2 => ?_) (fun h2 => ?_)
    · refine o_skip rfl rfl (decide_eq_true h2) ?_
      refine o_skip rfl rfl (decide_eq_true h2) ?_
      refine o_pickT (AV.lit (.bool true)) Gd.none rfl (decide_eq_true h2) rfl ?_
      refine aops_end ?_
      refine hK6 _ ?_
      refine awp_condB (b := true) rfl (fun _ => ?_) (fun hh => absurd (hh.symm.trans rfl) (by decide))
      refine awp_seq fun K7 hK7 => ?_
      refine awp_region rfl ?_
      refine o_as (AV.lit (.string (({data := #[]} : ByteArray)))) rfl ?_
      refine o_as (nm .i64 (0)) rfl ?_
      refine o_as (nm .i64 (2)) rfl ?_
      refine aops_end ?_
      refine hK7 _ ?_
      refine awp_ret ?_
      refine post_ret ⟨[(AV.lit (.string (({data := #[]} : ByteArray)))), (nm .i64 (0)), (nm .i64 (2))], And.intro (AV.le_refl _) (And.intro (AV.le_refl _) (And.intro (AV.le_refl _) (trivial))), rfl, ?_⟩
      first | (rw [plyA_1 h1]; rfl) | (rw [plyA_2 hA0 (by omega)]; rfl) | (rw [hp, ply_stop (by omega) (by omega), txt_numS (okS_iff.1 ho)]; rfl) | (rw [hp, ply_big (by omega) (by omega) (tld_big h6), tld_3 (tld_big h6)]; rfl) | (rw [hp, show k.toNat - i = 0 by omega, show i = k.toNat by omega]; show AV.tup [.lit (.string (txt (numS s))), _, _] = _; rw [txt_numS (okS_iff.1 ho)]; rfl)
    · refine o_move (AV.lit (.int .i64 (k))) (Gd.yes rfl rfl (decide_eq_false h2)) rfl ?_
      refine o_gtr (a := (k)) (c := (((20000 : Nat) : Int))) (Gd.yes rfl rfl (decide_eq_false h2)) rfl rfl ?_
      refine o_pickF (bp ((((20000 : Nat) : Int)) < (k))) Gd.none rfl (decide_eq_false h2) rfl ?_
      refine aops_end ?_
      refine hK6 _ ?_
      refine awp_condQ (q := (((20000 : Nat) : Int)) < (k)) rfl (fun h3 => ?_) (fun h3 => ?_)
      · refine awp_seq fun K8 hK8 => ?_
        refine awp_region rfl ?_
        refine o_as (AV.lit (.string (({data := #[]} : ByteArray)))) rfl ?_
        refine o_as (nm .i64 (0)) rfl ?_
        refine o_as (nm .i64 (2)) rfl ?_
        refine aops_end ?_
        refine hK8 _ ?_
        refine awp_ret ?_
        refine post_ret ⟨[(AV.lit (.string (({data := #[]} : ByteArray)))), (nm .i64 (0)), (nm .i64 (2))], And.intro (AV.le_refl _) (And.intro (AV.le_refl _) (And.intro (AV.le_refl _) (trivial))), rfl, ?_⟩
        first | (rw [plyA_1 h1]; rfl) | (rw [plyA_2 hA0 (by omega)]; rfl) | (rw [hp, ply_stop (by omega) (by omega), txt_numS (okS_iff.1 ho)]; rfl) | (rw [hp, ply_big (by omega) (by omega) (tld_big h6), tld_3 (tld_big h6)]; rfl) | (rw [hp, show k.toNat - i = 0 by omega, show i = k.toNat by omega]; show AV.tup [.lit (.string (txt (numS s))), _, _] = _; rw [txt_numS (okS_iff.1 ho)]; rfl)
      · refine awp_skip ?_
        refine hK5 _ ?_
        refine awp_seq fun K9 hK9 => ?_
        refine awp_seq fun K10 hK10 => ?_
        refine awp_region rfl ?_
        refine o_mv (AV.lit (.int .i64 (k))) rfl ?_
        refine n_as (v' := (nm .i64 (k.toNat))) (nm_int (by omega)) ?_
        refine o_mv (nm .i64 (0)) rfl ?_
        refine aops_end ?_
        refine hK10 _ ?_
        refine awp_block ?_
        refine awp_loopR (fun κ σ => ∃ (i : Nat), ∃ (s : ByteArray), (i ≤ k.toNat) ∧ (plyA l n k = ply l (k.toNat - i) (numS s) i) ∧ (okS s = true) ∧ (0 < numS s) ∧ (s.size ≤ 9223372036854775807) ∧ (k.toNat - i) = κ ∧ σ = ⟨[(0, (AV.sl 2 (gcells cF (l)))), (1, (AV.lit (.string (s)))), (2, (AV.lit (.int .i64 (k)))), (27, (nm .i64 (k.toNat))), (28, (nm .i64 (i)))], []⟩) ⟨_, _, ⟨0, n, (by omega), (plyA_0 hA0 (by omega)), hA.2.1, hA.2.2, hn, rfl, rfl⟩, ?wk0⟩ ?rd0
        case wk0 =>
          exact Wk.sub (And.intro rfl (And.intro (by first | rfl | (simp)) (And.intro rfl (And.intro rfl (And.intro (by first | rfl | exact congrArg (nm _) (by omega) | exact nm_int (by omega) | exact nm_int (by simp [IntKind.wrap, IntKind.bits, IntKind.signed]; omega)) (trivial)))))) (trivial)
        rintro κ _ ⟨i, s, hi, hp, ho, hz, hs, rfl, rfl⟩
        refine awp_seq fun K11 hK11 => ?_
        refine awp_region rfl ?_
        refine n_lss (i) (k.toNat) Gd.none rfl rfl ?_
        refine aops_end ?_
        refine hK11 _ ?_
        refine awp_seq fun K12 hK12 => ?_
        refine awp_condQ (q := (i) < (k.toNat)) rfl (fun h4 => ?_) (fun h4 => ?_)
        · refine awp_skip ?_
          refine hK12 _ ?_
          refine awp_seq fun K13 hK13 => ?_
          refine awp_block ?_
          refine awp_seq fun K14 hK14 => ?_
          refine awp_region rfl ?_
          refine o_mv (nm .i64 (i)) rfl ?_
          refine o_as (nm .i64 (i)) rfl ?_
          refine aops_end ?_
          refine hK14 _ ?_
          refine awp_seq fun K15 hK15 => ?_
          refine awp_region rfl ?_
          refine o_mv (AV.sl 2 (gcells cF (l))) rfl ?_
          refine o_mv (AV.lit (.string (s))) rfl ?_
          refine o_ct (c_first (l) (s) (by assumption) (by assumption) (by assumption) (by first | assumption | decide | omega)) Gd.none Yd_tC29 rfl ?_
          refine o_mv (AV.tup [(AV.lit (.int .i64 (fstI (l) (numS (s))))), (AV.lit (.string (fstS (l) (numS (s)))))]) rfl ?_
          refine o_extract (AV.lit (.int .i64 (fstI (l) (numS (s))))) Gd.none rfl rfl ?_
          refine o_extract (AV.lit (.string (fstS (l) (numS (s))))) Gd.none rfl rfl ?_
          refine o_as (AV.lit (.int .i64 (fstI (l) (numS (s))))) rfl ?_
          refine o_as (AV.lit (.string (fstS (l) (numS (s))))) rfl ?_
          refine aops_end ?_
          refine hK15 _ ?_
          refine awp_seq fun K16 hK16 => ?_
          refine awp_seq fun K17 hK17 => ?_
          refine awp_region rfl ?_
          refine o_mv (AV.lit (.int .i64 (fstI (l) (numS (s))))) rfl ?_
          refine o_lss (a := (fstI (l) (numS (s)))) (c := (((0 : Nat) : Int))) Gd.none rfl rfl ?_
          refine aops_end ?_
          refine hK17 _ ?_
          refine awp_condQ (q := (fstI (l) (numS (s))) < (((0 : Nat) : Int))) rfl (fun h5 => ?_) (fun h5 => ?_)
          · refine awp_seq fun K18 hK18 => ?_
            refine awp_region rfl ?_
            refine o_mv (AV.lit (.string (s))) rfl ?_
            refine o_mv (nm .i64 (i)) rfl ?_
            refine o_as (AV.lit (.string (s))) rfl ?_
            refine o_as (nm .i64 (i)) rfl ?_
            refine o_as (nm .i64 (0)) rfl ?_
            refine aops_end ?_
            refine hK18 _ ?_
            refine awp_ret ?_
            refine post_ret ⟨[(AV.lit (.string (s))), (nm .i64 (i)), (nm .i64 (0))], And.intro (AV.le_refl _) (And.intro (AV.le_refl _) (And.intro (AV.le_refl _) (trivial))), rfl, ?_⟩
            first | (rw [plyA_1 h1]; rfl) | (rw [plyA_2 hA0 (by omega)]; rfl) | (rw [hp, ply_stop (by omega) (by omega), txt_numS (okS_iff.1 ho)]; rfl) | (rw [hp, ply_big (by omega) (by omega) (tld_big h6), tld_3 (tld_big h6)]; rfl) | (rw [hp, show k.toNat - i = 0 by omega, show i = k.toNat by omega]; show AV.tup [.lit (.string (txt (numS s))), _, _] = _; rw [txt_numS (okS_iff.1 ho)]; rfl)
          · have hf := fst_str hA1 (show 0 ≤ (fstI l (numS s)) by omega) hz (fit_numS (okS_iff.1 ho))
            have hd := fstI_bd (l := l) (z := numS s) (by omega)
            have hd1 := hd.1
            have hSi := (hS _ (gdm (d := default) hd1)).1
            have hr := (hA1.2 _ (gdm (d := default) hd1)).1
            have qs := txt_sz2 hf.2.1
            have hm := mul_str (a := txt (numS s / numS (l.getD (fstI l (numS s)).toNat default).den)) (b := (l.getD (fstI l (numS s)).toNat default).num) ⟨okS_iff.2 (okS_txt hf.2.1), hr.1⟩
            refine awp_skip ?_
            refine hK16 _ ?_
            refine awp_seq fun K19 hK19 => ?_
            refine awp_region rfl ?_
            refine o_mv (AV.lit (.string (fstS (l) (numS (s))))) rfl ?_
            refine n_as (v' := (AV.lit (.string (txt (numS s / numS (l.getD (fstI l (numS s)).toNat default).den))))) (by exact str_as2 hf.1) ?_
            refine o_mv (AV.sl 2 (gcells cF (l))) rfl ?_
            refine o_mv (AV.lit (.int .i64 (fstI (l) (numS (s))))) rfl ?_
            refine n_as (v' := (nm .i64 ((fstI l (numS s)).toNat))) (nm_int (by omega)) ?_
            refine g_index cF (l) ((fstI l (numS s)).toNat) cF_len rfl Gd.none Yd_tE30 rfl rfl (by omega) ?_
            refine g_field cF (l) ((fstI l (numS s)).toNat) cF_len Gd.none Yd_tF50_0 rfl (by omega) rfl ?_
            refine g_loadS cF (l) ((fstI l (numS s)).toNat) default (AV.lit (.string ((((l).getD ((fstI l (numS s)).toNat) default)).num))) cF_len Gd.none Yd_tS9 rfl (by omega) rfl ?_
            refine o_ct (c_nMul (txt (numS s / numS (l.getD (fstI l (numS s)).toNat default).den)) ((((l).getD ((fstI l (numS s)).toNat) default)).num) (by first | assumption | decide | omega) (by first | assumption | decide | omega)) Gd.none Yd_tC25 rfl ?_
            refine o_mv (AV.tup [(AV.lit (.string ((if okS (txt (numS s / numS (l.getD (fstI l (numS s)).toNat default).den)) && okS ((((l).getD ((fstI l (numS s)).toNat) default)).num) then (toldS (numS (txt (numS s / numS (l.getD (fstI l (numS s)).toNat default).den)) * numS ((((l).getD ((fstI l (numS s)).toNat) default)).num))) else (({ data := #[] } : ByteArray)))))), (nm .i64 ((if okS (txt (numS s / numS (l.getD (fstI l (numS s)).toNat default).den)) && okS ((((l).getD ((fstI l (numS s)).toNat) default)).num) then (toldE (numS (txt (numS s / numS (l.getD (fstI l (numS s)).toNat default).den)) * numS ((((l).getD ((fstI l (numS s)).toNat) default)).num))) else (1))))]) rfl ?_
            refine o_extract (AV.lit (.string ((if okS (txt (numS s / numS (l.getD (fstI l (numS s)).toNat default).den)) && okS ((((l).getD ((fstI l (numS s)).toNat) default)).num) then (toldS (numS (txt (numS s / numS (l.getD (fstI l (numS s)).toNat default).den)) * numS ((((l).getD ((fstI l (numS s)).toNat) default)).num))) else (({ data := #[] } : ByteArray)))))) Gd.none rfl rfl ?_
            refine n_as (v' := (AV.lit (.string (toldS (nxF l (numS s)))))) (by exact str_as2 (hm.1.trans (by rw [numS_txt]; rfl))) ?_
            refine o_extract (nm .i64 ((if okS (txt (numS s / numS (l.getD (fstI l (numS s)).toNat default).den)) && okS ((((l).getD ((fstI l (numS s)).toNat) default)).num) then (toldE (numS (txt (numS s / numS (l.getD (fstI l (numS s)).toNat default).den)) * numS ((((l).getD ((fstI l (numS s)).toNat) default)).num))) else (1)))) Gd.none rfl rfl ?_
            refine n_as (v' := (nm .i64 (toldE (nxF l (numS s))))) (by exact congrArg (nm _) (hm.2.trans (by rw [numS_txt]; rfl))) ?_
            refine o_as (AV.lit (.string (toldS (nxF l (numS s))))) rfl ?_
            refine o_as (nm .i64 (toldE (nxF l (numS s)))) rfl ?_
            refine aops_end ?_
            refine hK19 _ ?_
            refine awp_seq fun K20 hK20 => ?_
            refine awp_seq fun K21 hK21 => ?_
            refine awp_region rfl ?_
            refine o_mv (nm .i64 (toldE (nxF l (numS s)))) rfl ?_
            refine n_neq (toldE (nxF l (numS s))) (0) Gd.none rfl rfl ?_
            refine aops_end ?_
            refine hK21 _ ?_
            refine awp_condQ (q := (toldE (nxF l (numS s))) ≠ (0)) rfl (fun h6 => ?_) (fun h6 => ?_)
            · refine awp_seq fun K22 hK22 => ?_
              refine awp_region rfl ?_
              refine o_mv (nm .i64 (toldE (nxF l (numS s)))) rfl ?_
              refine o_as (AV.lit (.string (({data := #[]} : ByteArray)))) rfl ?_
              refine o_as (nm .i64 (0)) rfl ?_
              refine o_as (nm .i64 (toldE (nxF l (numS s)))) rfl ?_
              refine aops_end ?_
              refine hK22 _ ?_
              refine awp_ret ?_
              refine post_ret ⟨[(AV.lit (.string (({data := #[]} : ByteArray)))), (nm .i64 (0)), (nm .i64 (toldE (nxF l (numS s))))], And.intro (AV.le_refl _) (And.intro (AV.le_refl _) (And.intro (AV.le_refl _) (trivial))), rfl, ?_⟩
              first | (rw [plyA_1 h1]; rfl) | (rw [plyA_2 hA0 (by omega)]; rfl) | (rw [hp, ply_stop (by omega) (by omega), txt_numS (okS_iff.1 ho)]; rfl) | (rw [hp, ply_big (by omega) (by omega) (tld_big h6), tld_3 (tld_big h6)]; rfl) | (rw [hp, show k.toNat - i = 0 by omega, show i = k.toNat by omega]; show AV.tup [.lit (.string (txt (numS s))), _, _] = _; rw [txt_numS (okS_iff.1 ho)]; rfl)
            · have hF := tld_ok h6
              obtain ⟨w1, w2⟩ := told_fit hF
              refine awp_skip ?_
              refine hK20 _ ?_
              refine awp_region rfl ?_
              refine o_mv (AV.lit (.string (toldS (nxF l (numS s))))) rfl ?_
              refine o_as (AV.lit (.string (toldS (nxF l (numS s))))) rfl ?_
              refine aops_end ?_
              refine hK13 _ ?_
              refine awp_region rfl ?_
              refine n_add (i) (1) Gd.none rfl rfl (by simp only [topOf]; omega) ?_
              refine o_mv (nm .i64 ((i) + (1))) rfl ?_
              refine aops_end ?_
              refine ⟨_, _, ?lt, ⟨i + 1, toldS (nxF l (numS s)), (by omega), (by rw [hp, ply_next (by omega) (by omega) hF, w1, numS_txt]), (by rw [w1]; exact okS_iff.2 (okS_txt hF)), (by rw [w1, numS_txt]; exact Int.mul_pos hf.2.2 hr.2), (by rw [w1]; exact txt_sz2 hF), rfl, rfl⟩, ?wk⟩
              case lt => omega
              case wk => exact Wk.sub (And.intro rfl (And.intro (by first | rfl | (simp)) (And.intro rfl (And.intro rfl (And.intro (by first | rfl | exact congrArg (nm _) (by omega) | exact nm_int (by omega) | exact nm_int (by simp [IntKind.wrap, IntKind.bits, IntKind.signed]; omega)) (trivial)))))) (trivial)
        · refine awp_exit ?_
          refine hK9 _ ?_
          refine awp_seq fun K23 hK23 => ?_
          refine awp_region rfl ?_
          refine o_mv (AV.lit (.string (s))) rfl ?_
          refine o_mv (AV.lit (.int .i64 (k))) rfl ?_
          refine n_as (v' := (nm .i64 (k.toNat))) (nm_int (by omega)) ?_
          refine o_as (AV.lit (.string (s))) rfl ?_
          refine o_as (nm .i64 (k.toNat)) rfl ?_
          refine o_as (nm .i64 (0)) rfl ?_
          refine aops_end ?_
          refine hK23 _ ?_
          refine awp_ret ?_
          refine post_ret ⟨[(AV.lit (.string (s))), (nm .i64 (k.toNat)), (nm .i64 (0))], And.intro (AV.le_refl _) (And.intro (AV.le_refl _) (And.intro (AV.le_refl _) (trivial))), rfl, ?_⟩
          first | (rw [plyA_1 h1]; rfl) | (rw [plyA_2 hA0 (by omega)]; rfl) | (rw [hp, ply_stop (by omega) (by omega), txt_numS (okS_iff.1 ho)]; rfl) | (rw [hp, ply_big (by omega) (by omega) (tld_big h6), tld_3 (tld_big h6)]; rfl) | (rw [hp, show k.toNat - i = 0 by omega, show i = k.toNat by omega]; show AV.tup [.lit (.string (txt (numS s))), _, _] = _; rw [txt_numS (okS_iff.1 ho)]; rfl)

end Go.Proofs.YtpamhblonmpniaaDoor

set_option linter.unusedVariables false
set_option linter.unusedSimpArgs false
namespace Go.Proofs.YtpamhblonmpniaaDoor
open Go Go.Ab Go.Mth
theorem Ye_tA24 : tyAgg cx.P 24 = some 2 := by kernel_rfl
theorem Ye_tC17 : callable cx.P 17 = true := by kernel_rfl
theorem Ye_tF24_1 : tyField cx.P 24 1 = some (1, 22) := by kernel_rfl
theorem Ye_tS22 : tySc cx.P 22 = true := by kernel_rfl
theorem Ye_tU22 : cx.P.underlying 22 = some (.slice 52) := by kernel_rfl
theorem Ye_tE22 : tyElem cx.P 22 = some (52, 4, 32) := by kernel_rfl
theorem Ye_tA52 : tyAgg cx.P 52 = some 4 := by kernel_rfl
theorem Ye_tO52 : tyZero cx.P 52 = some [(Go.Value.int IntKind.i64 0), (Go.Value.int IntKind.i64 0), (Go.Value.int IntKind.i64 0), (Go.Value.int IntKind.i64 0)] := by kernel_rfl
theorem Ye_tZ52 : tySize cx.P 52 = some 4 := by kernel_rfl
theorem Ye_tC18 : callable cx.P 18 = true := by kernel_rfl
theorem Ye_tF52_1 : tyField cx.P 52 1 = some (1, 3) := by kernel_rfl
theorem Ye_tS3 : tySc cx.P 3 = true := by kernel_rfl
theorem Ye_tR53 : tyArr cx.P 53 = some (30, 3, 1) := by kernel_rfl
theorem Ye_tF52_0 : tyField cx.P 52 0 = some (0, 3) := by kernel_rfl
theorem Ye_tF52_2 : tyField cx.P 52 2 = some (2, 3) := by kernel_rfl
theorem Ye_tC20 : callable cx.P 20 = true := by kernel_rfl
theorem Ye_tC21 : callable cx.P 21 = true := by kernel_rfl
theorem Ye_tC19 : callable cx.P 19 = true := by kernel_rfl
theorem Ye_tE30 : tyElem cx.P 30 = some (50, 2, 32) := by kernel_rfl
theorem Ye_tO50 : tyZero cx.P 50 = some [(Go.Value.string {data := #[]}), (Go.Value.string {data := #[]})] := by kernel_rfl
theorem Ye_tF52_3 : tyField cx.P 52 3 = some (3, 3) := by kernel_rfl
theorem Ye_tA27 : tyAgg cx.P 27 = some 2 := by kernel_rfl
theorem Ye_tC22 : callable cx.P 22 = true := by kernel_rfl
theorem Ye_tF27_0 : tyField cx.P 27 0 = some (0, 3) := by kernel_rfl
theorem Ye_tC23 : callable cx.P 23 = true := by kernel_rfl
theorem Ye_tF27_1 : tyField cx.P 27 1 = some (1, 25) := by kernel_rfl
theorem Ye_tS25 : tySc cx.P 25 = true := by kernel_rfl
theorem Ye_tU25 : cx.P.underlying 25 = some (.slice 3) := by kernel_rfl
theorem Ye_tE25 : tyElem cx.P 25 = some (3, 1, 8) := by kernel_rfl
theorem Ye_tC24 : callable cx.P 24 = true := by kernel_rfl
theorem Ye_tC25 : callable cx.P 25 = true := by kernel_rfl
theorem c_Compile (m : Mac) : ECalls cx 7 [(macV m)] (.tup [.sl 2 (gcells cF (cmpR m)), nm .i64 (cmpE m)]) := by
  refine ecalls_of_awp Tryd.func7 (c := _) rfl (Nat.le_of_ble_eq_true rfl) ?_
  show awp cx 81 _ (postF cx Tryd.f7 _) ⟨[(0, (macV m))], []⟩
  refine awp_seq fun K0 hK0 => ?_
  refine awp_region rfl ?_
  refine o_box 2 [(AV.lit (.int .i64 (m.regs))), (AV.sl 4 (gcells cI (m.code)))] Gd.none rfl rfl ?_
  refine o_as (AV.lit (.slice none 0 0)) rfl ?_
  refine o_as (nm .i64 (0)) rfl ?_
  refine aops_end ?_
  refine hK0 _ ?_
  refine awp_seq fun K1 hK1 => ?_
  refine awp_seq fun K2 hK2 => ?_
  refine awp_region rfl ?_
  refine o_loadA [(AV.lit (.int .i64 (m.regs))), (AV.sl 4 (gcells cI (m.code)))] Gd.none Ye_tA24 rfl rfl rfl rfl rfl ?_
  refine o_ct (c_fValid m) Gd.none Ye_tC17 rfl ?_
  refine o_notP (q := okMac m) Gd.none rfl ?_
  refine aops_end ?_
  refine hK2 _ ?_
  refine awp_condQ (q := ¬ (okMac m)) rfl (fun h1 => ?_) (fun h1 => ?_)
  · refine awp_seq fun K3 hK3 => ?_
    refine awp_region rfl ?_
    refine o_as (AV.lit (.slice none 0 0)) rfl ?_
    refine o_as (nm .i64 (1)) rfl ?_
    refine aops_end ?_
    refine hK3 _ ?_
    refine awp_ret ?_
    refine post_ret ⟨[(AV.sl 2 (gcells cF ([]))), (nm .i64 (1))], And.intro (AV.le_nil' (by decide) (by first | rfl | simp [digs_zero, ns, is])) (And.intro (AV.le_refl _) (trivial)), rfl, ?_⟩
    rw [cmpR, cmpE, if_neg (by assumption), if_neg (by assumption)]; rfl
  · have hM := Decidable.not_not.1 h1
    have hM2 := hM
    obtain ⟨o1, o2, o3, o4, o5⟩ := hM2
    refine awp_skip ?_
    refine hK1 _ ?_
    refine awp_seq fun K4 hK4 => ?_
    refine awp_region rfl ?_
    refine o_as (AV.lit (.slice none 0 0)) rfl ?_
    refine aops_end ?_
    refine hK4 _ ?_
    refine awp_seq fun K5 hK5 => ?_
    refine awp_seq fun K6 hK6 => ?_
    refine awp_region rfl ?_
    refine o_fieldRef 1 Gd.none Ye_tF24_1 rfl rfl ?_
    refine o_loadS (AV.sl 4 (gcells cI (m.code))) Gd.none Ye_tS22 rfl rfl rfl ?_
    refine g_len cI (m.code) cI_len Gd.none Ye_tU22 rfl ?_
    refine o_mv (nm .i64 (0)) rfl ?_
    refine aops_end ?_
    refine hK6 _ ?_
    refine awp_block ?_
    refine awp_loopR (fun κ σ => ∃ (i : Nat), (i ≤ m.code.length) ∧ (m.code.length - i) = κ ∧ σ = ⟨[(1, (AV.ref 2 (0))), (4, (AV.row 50)), (13, (AV.sl 4 (gcells cI (m.code)))), (14, (nm .i64 (m.code.length))), (15, (nm .i64 (i)))], [(2, (AO.var 24 [(AV.lit (.int .i64 (m.regs))), (AV.sl 4 (gcells cI (m.code)))])), (50, (AO.row 50 2 (gcells cF (cmp1 m i))))]⟩) ⟨_, _, ⟨0, (by omega), rfl, rfl⟩, ?wk0⟩ ?rd0
    case wk0 =>
      exact Wk.trans (Wk.newNil (i := 4) (id := 503) (e := 50) (sz := 2) rfl rfl (by decide)) (Wk.trans (Wk.sub (σ' := ⟨[(1, (AV.ref 2 (0))), (4, (AV.row 503)), (13, (AV.sl 4 (gcells cI (m.code)))), (14, (nm .i64 ((m.code).length))), (15, (nm .i64 (0)))], [(2, (AO.var 24 [(AV.lit (.int .i64 (m.regs))), (AV.sl 4 (gcells cI (m.code)))])), (503, (AO.row 50 2 (gcells cF ([]))))]⟩) (And.intro rfl (And.intro rfl (And.intro rfl (And.intro rfl (And.intro rfl (trivial)))))) (And.intro rfl (And.intro rfl (trivial)))) (Wk.trans (Wk.ren (id := 503) (id' := 50) rfl) (Wk.sub (And.intro rfl (And.intro (by first | rfl | (simp)) (And.intro rfl (And.intro (by first | rfl | exact congrArg (nm _) (by omega) | exact nm_int (by omega) | exact nm_int (by simp [IntKind.wrap, IntKind.bits, IntKind.signed]; omega)) (And.intro (by first | rfl | exact congrArg (nm _) (by omega) | exact nm_int (by omega) | exact nm_int (by simp [IntKind.wrap, IntKind.bits, IntKind.signed]; omega)) (trivial)))))) (And.intro (by first | rfl | (exact row_gs (by first | exact cmp1_a rfl (by omega) | exact cmp1_b rfl (by omega) | rfl | (rw [show i = m.code.length by omega]; rfl)))) (And.intro (by first | rfl | exact row_ns (by simp) | (exact row_gs (by first | exact cmp1_a rfl (by omega) | exact cmp1_b rfl (by omega) | rfl | (rw [show i = m.code.length by omega]; rfl)))) (trivial))))))
    rintro κ _ ⟨i, hi, rfl, rfl⟩
    have hle := cmp1_len m i
    refine awp_seq fun K7 hK7 => ?_
    refine awp_region rfl ?_
    refine n_lss (i) (m.code.length) Gd.none rfl rfl ?_
    refine aops_end ?_
    refine hK7 _ ?_
    refine awp_seq fun K8 hK8 => ?_
    refine awp_condQ (q := (i) < (m.code.length)) rfl (fun h2 => ?_) (fun h2 => ?_)
    · have hx := o5 _ (gdm (d := default) h2)
      obtain ⟨⟨x1, x2, x3⟩, x4⟩ := hx
      unfold plc at x3 x4
      have b1 := p30_bd ((m.code).getD (i) default).reg.toNat
      have b2 := twnP_bd m ((m.code).getD (i) default).next
      have b3 := ownP_bd m ((i : Nat) : Int)
      have b4 := Nat.mul_le_mul b2 b1
      have b5 := Nat.mul_le_mul b3 b1
      have b6 := twnP_bd m ((m.code).getD (i) default).els
      refine awp_skip ?_
      refine hK8 _ ?_
      refine awp_seq fun K9 hK9 => ?_
      refine awp_block ?_
      refine awp_seq fun K10 hK10 => ?_
      refine awp_region rfl ?_
      refine o_mv (nm .i64 (i)) rfl ?_
      refine g_index cI (m.code) (i) cI_len rfl Gd.none Ye_tE22 rfl rfl (by omega) ?_
      refine g_loadA cI (m.code) (i) default cI_len Gd.none Ye_tA52 rfl (by omega) ?_
      refine o_alloc 101 [(nm .i64 (0)), (nm .i64 (0)), (nm .i64 (0)), (nm .i64 (0))] Gd.none Ye_tO52 rfl rfl rfl ?_
      refine o_as (nm .i64 (i)) rfl ?_
      refine o_store [(101, (AO.var 52 [(AV.lit (.int .i64 ((((m.code).getD (i) default)).kind))), (AV.lit (.int .i64 ((((m.code).getD (i) default)).reg))), (AV.lit (.int .i64 ((((m.code).getD (i) default)).next))), (AV.lit (.int .i64 ((((m.code).getD (i) default)).els)))])), (2, (AO.var 24 [(AV.lit (.int .i64 (m.regs))), (AV.sl 4 (gcells cI (m.code)))])), (50, (AO.row 50 2 (gcells cF (cmp1 m i))))] Gd.none Ye_tZ52 rfl rfl rfl rfl rfl rfl ?_
      refine aops_end ?_
      refine hK10 _ ?_
      refine awp_seq fun K11 hK11 => ?_
      refine awp_regionD rfl ?_
      refine o_ct c_primes Gd.none Ye_tC18 rfl ?_
      refine o_fieldRef 1 Gd.none Ye_tF52_1 rfl rfl ?_
      refine o_loadS (AV.lit (.int .i64 ((((m.code).getD (i) default)).reg))) Gd.none Ye_tS3 rfl rfl rfl ?_
      refine n_as (v' := (nm .i64 (((m.code).getD (i) default).reg.toNat))) (nm_int (by omega)) ?_
      refine n_indexAgg (P30) (((m.code).getD (i) default).reg.toNat) Gd.none Ye_tR53 Ye_tS3 rfl rfl (by rfl) (by omega) ?_
      refine o_as (nm .i64 ((P30).getD (((m.code).getD (i) default).reg.toNat) 0)) rfl ?_
      refine aops_end ⟨by kernel_rfl, ?_⟩
      refine hK11 _ ?_
      refine awp_seq fun K12 hK12 => ?_
      refine awp_seq fun K13 hK13 => ?_
      refine awp_region rfl ?_
      refine o_fieldRef 0 Gd.none Ye_tF52_0 rfl rfl ?_
      refine o_loadS (AV.lit (.int .i64 ((((m.code).getD (i) default)).kind))) Gd.none Ye_tS3 rfl rfl rfl ?_
      refine o_eql (a := ((((m.code).getD (i) default)).kind)) (c := (((0 : Nat) : Int))) Gd.none rfl rfl ?_
      refine aops_end ?_
      refine hK13 _ ?_
      refine awp_condQ (q := ((((m.code).getD (i) default)).kind) = (((0 : Nat) : Int))) rfl (fun h3 => ?_) (fun h3 => ?_)
      · refine awp_seq fun K14 hK14 => ?_
        refine awp_regionD rfl ?_
        refine o_mv (AV.row 50) rfl ?_
        refine o_loadA [(AV.lit (.int .i64 (m.regs))), (AV.sl 4 (gcells cI (m.code)))] Gd.none Ye_tA24 rfl rfl rfl rfl rfl ?_
        refine o_fieldRef 2 Gd.none Ye_tF52_2 rfl rfl ?_
        refine o_loadS (AV.lit (.int .i64 ((((m.code).getD (i) default)).next))) Gd.none Ye_tS3 rfl rfl rfl ?_
        refine o_ct (c_twin m ((((m.code).getD (i) default)).next) (by omega) (by omega) (by omega) (by omega)) Gd.none Ye_tC20 rfl ?_
        refine o_mv (nm .i64 ((P30).getD (((m.code).getD (i) default).reg.toNat) 0)) rfl ?_
        refine n_mul (twnP m ((((m.code).getD (i) default)).next)) ((P30).getD (((m.code).getD (i) default).reg.toNat) 0) Gd.none rfl rfl (by simp only [topOf]; omega) ?_
        refine o_loadA [(AV.lit (.int .i64 (m.regs))), (AV.sl 4 (gcells cI (m.code)))] Gd.none Ye_tA24 rfl rfl rfl rfl rfl ?_
        refine o_mv (nm .i64 (i)) rfl ?_
        refine o_ct (c_own m (((i : Nat) : Int)) (by omega) (by omega) (by omega) (by omega)) Gd.none Ye_tC21 rfl ?_
        refine o_ct (c_frac ((twnP m ((((m.code).getD (i) default)).next)) * ((P30).getD (((m.code).getD (i) default).reg.toNat) 0)) (ownP m (((i : Nat) : Int))) (by omega) (by omega)) Gd.none Ye_tC19 rfl ?_
        refine o_buildSlice 102 (gcells cF ([(Frc.mk (txt (((twnP m ((((m.code).getD (i) default)).next)) * ((P30).getD (((m.code).getD (i) default).reg.toNat) 0) : Nat) : Int)) (txt ((ownP m (((i : Nat) : Int)) : Nat) : Int)))])) [(0, [(AV.lit (.string (txt (((twnP m ((((m.code).getD (i) default)).next)) * ((P30).getD (((m.code).getD (i) default).reg.toNat) 0) : Nat) : Int)))), (AV.lit (.string (txt ((ownP m (((i : Nat) : Int)) : Nat) : Int))))])] Gd.none Ye_tE30 rfl Ye_tO50 rfl rfl rfl rfl rfl rfl rfl ?_
        refine g_append cF 103 (cmp1 m i) ([(Frc.mk (txt (((twnP m ((((m.code).getD (i) default)).next)) * ((P30).getD (((m.code).getD (i) default).reg.toNat) 0) : Nat) : Int)) (txt ((ownP m (((i : Nat) : Int)) : Nat) : Int)))]) [(102, (AO.row 50 2 (gcells cF ([(Frc.mk (txt (((twnP m ((((m.code).getD (i) default)).next)) * ((P30).getD (((m.code).getD (i) default).reg.toNat) 0) : Nat) : Int)) (txt ((ownP m (((i : Nat) : Int)) : Nat) : Int)))])))), (101, (AO.var 52 [(AV.lit (.int .i64 ((((m.code).getD (i) default)).kind))), (AV.lit (.int .i64 ((((m.code).getD (i) default)).reg))), (AV.lit (.int .i64 ((((m.code).getD (i) default)).next))), (AV.lit (.int .i64 ((((m.code).getD (i) default)).els)))])), (2, (AO.var 24 [(AV.lit (.int .i64 (m.regs))), (AV.sl 4 (gcells cI (m.code)))]))] cF_len rfl Gd.none Ye_tE30 Ye_tO50 rfl rfl rfl rfl rfl (by simp only [List.length_append, List.length_cons, List.length_nil]; omega) (by simp only [List.length_append, List.length_cons, List.length_nil]; omega) rfl rfl ?_
        refine o_as (AV.row 103) rfl ?_
        refine aops_end ⟨by kernel_rfl, ?_⟩
        refine hK14 _ ?_
        refine awp_exit ?_
        refine hK9 _ ?_
        refine awp_region rfl ?_
        refine n_add (i) (1) Gd.none rfl rfl (by simp only [topOf]; omega) ?_
        refine o_mv (nm .i64 ((i) + (1))) rfl ?_
        refine aops_end ?_
        refine ⟨_, _, ?lt, ⟨i + 1, (by omega), rfl, rfl⟩, ?wk⟩
        case lt => omega
        case wk => exact Wk.trans (Wk.sub (σ' := ⟨[(1, (AV.ref 2 (0))), (4, (AV.row 103)), (13, (AV.sl 4 (gcells cI (m.code)))), (14, (nm .i64 (m.code.length))), (15, (nm .i64 ((i) + (1))))], [(2, (AO.var 24 [(AV.lit (.int .i64 (m.regs))), (AV.sl 4 (gcells cI (m.code)))])), (103, (AO.row 50 2 (gcells cF ((cmp1 m i) ++ ([(Frc.mk (txt (((twnP m ((((m.code).getD (i) default)).next)) * ((P30).getD (((m.code).getD (i) default).reg.toNat) 0) : Nat) : Int)) (txt ((ownP m (((i : Nat) : Int)) : Nat) : Int)))])))))]⟩) (And.intro rfl (And.intro rfl (And.intro rfl (And.intro rfl (And.intro rfl (trivial)))))) (And.intro rfl (And.intro rfl (trivial)))) (Wk.trans (Wk.ren (id := 103) (id' := 50) rfl) (Wk.sub (And.intro rfl (And.intro (by first | rfl | (simp)) (And.intro rfl (And.intro rfl (And.intro (by first | rfl | exact congrArg (nm _) (by omega) | exact nm_int (by omega) | exact nm_int (by simp [IntKind.wrap, IntKind.bits, IntKind.signed]; omega)) (trivial)))))) (And.intro rfl (And.intro (by first | rfl | exact row_ns (by simp) | (exact row_gs (by first | exact cmp1_a rfl (by omega) | exact cmp1_b rfl (by omega) | rfl | (rw [show i = m.code.length by omega]; rfl)))) (trivial)))))
      · refine awp_skip ?_
        refine hK12 _ ?_
        refine awp_regionD rfl ?_
        refine o_mv (AV.row 50) rfl ?_
        refine o_loadA [(AV.lit (.int .i64 (m.regs))), (AV.sl 4 (gcells cI (m.code)))] Gd.none Ye_tA24 rfl rfl rfl rfl rfl ?_
        refine o_fieldRef 2 Gd.none Ye_tF52_2 rfl rfl ?_
        refine o_loadS (AV.lit (.int .i64 ((((m.code).getD (i) default)).next))) Gd.none Ye_tS3 rfl rfl rfl ?_
        refine o_ct (c_twin m ((((m.code).getD (i) default)).next) (by omega) (by omega) (by omega) (by omega)) Gd.none Ye_tC20 rfl ?_
        refine o_loadA [(AV.lit (.int .i64 (m.regs))), (AV.sl 4 (gcells cI (m.code)))] Gd.none Ye_tA24 rfl rfl rfl rfl rfl ?_
        refine o_mv (nm .i64 (i)) rfl ?_
        refine o_ct (c_own m (((i : Nat) : Int)) (by omega) (by omega) (by omega) (by omega)) Gd.none Ye_tC21 rfl ?_
        refine o_mv (nm .i64 ((P30).getD (((m.code).getD (i) default).reg.toNat) 0)) rfl ?_
        refine n_mul (ownP m (((i : Nat) : Int))) ((P30).getD (((m.code).getD (i) default).reg.toNat) 0) Gd.none rfl rfl (by simp only [topOf]; omega) ?_
        refine o_ct (c_frac (twnP m ((((m.code).getD (i) default)).next)) ((ownP m (((i : Nat) : Int))) * ((P30).getD (((m.code).getD (i) default).reg.toNat) 0)) (by omega) (by omega)) Gd.none Ye_tC19 rfl ?_
        refine o_loadA [(AV.lit (.int .i64 (m.regs))), (AV.sl 4 (gcells cI (m.code)))] Gd.none Ye_tA24 rfl rfl rfl rfl rfl ?_
        refine o_fieldRef 3 Gd.none Ye_tF52_3 rfl rfl ?_
        refine o_loadS (AV.lit (.int .i64 ((((m.code).getD (i) default)).els))) Gd.none Ye_tS3 rfl rfl rfl ?_
        refine o_ct (c_twin m ((((m.code).getD (i) default)).els) (by omega) (by omega) (by omega) (by omega)) Gd.none Ye_tC20 rfl ?_
        refine o_loadA [(AV.lit (.int .i64 (m.regs))), (AV.sl 4 (gcells cI (m.code)))] Gd.none Ye_tA24 rfl rfl rfl rfl rfl ?_
        refine o_mv (nm .i64 (i)) rfl ?_
        refine o_ct (c_own m (((i : Nat) : Int)) (by omega) (by omega) (by omega) (by omega)) Gd.none Ye_tC21 rfl ?_
        refine o_ct (c_frac (twnP m ((((m.code).getD (i) default)).els)) (ownP m (((i : Nat) : Int))) (by omega) (by omega)) Gd.none Ye_tC19 rfl ?_
        refine o_buildSlice 102 (gcells cF ([(Frc.mk (txt ((twnP m ((((m.code).getD (i) default)).next) : Nat) : Int)) (txt (((ownP m (((i : Nat) : Int))) * ((P30).getD (((m.code).getD (i) default).reg.toNat) 0) : Nat) : Int))), (Frc.mk (txt ((twnP m ((((m.code).getD (i) default)).els) : Nat) : Int)) (txt ((ownP m (((i : Nat) : Int)) : Nat) : Int)))])) [(0, [(AV.lit (.string (txt ((twnP m ((((m.code).getD (i) default)).next) : Nat) : Int)))), (AV.lit (.string (txt (((ownP m (((i : Nat) : Int))) * ((P30).getD (((m.code).getD (i) default).reg.toNat) 0) : Nat) : Int))))]), (1, [(AV.lit (.string (txt ((twnP m ((((m.code).getD (i) default)).els) : Nat) : Int)))), (AV.lit (.string (txt ((ownP m (((i : Nat) : Int)) : Nat) : Int))))])] Gd.none Ye_tE30 rfl Ye_tO50 rfl rfl rfl rfl rfl rfl rfl ?_
        refine g_append cF 103 (cmp1 m i) ([(Frc.mk (txt ((twnP m ((((m.code).getD (i) default)).next) : Nat) : Int)) (txt (((ownP m (((i : Nat) : Int))) * ((P30).getD (((m.code).getD (i) default).reg.toNat) 0) : Nat) : Int))), (Frc.mk (txt ((twnP m ((((m.code).getD (i) default)).els) : Nat) : Int)) (txt ((ownP m (((i : Nat) : Int)) : Nat) : Int)))]) [(102, (AO.row 50 2 (gcells cF ([(Frc.mk (txt ((twnP m ((((m.code).getD (i) default)).next) : Nat) : Int)) (txt (((ownP m (((i : Nat) : Int))) * ((P30).getD (((m.code).getD (i) default).reg.toNat) 0) : Nat) : Int))), (Frc.mk (txt ((twnP m ((((m.code).getD (i) default)).els) : Nat) : Int)) (txt ((ownP m (((i : Nat) : Int)) : Nat) : Int)))])))), (101, (AO.var 52 [(AV.lit (.int .i64 ((((m.code).getD (i) default)).kind))), (AV.lit (.int .i64 ((((m.code).getD (i) default)).reg))), (AV.lit (.int .i64 ((((m.code).getD (i) default)).next))), (AV.lit (.int .i64 ((((m.code).getD (i) default)).els)))])), (2, (AO.var 24 [(AV.lit (.int .i64 (m.regs))), (AV.sl 4 (gcells cI (m.code)))]))] cF_len rfl Gd.none Ye_tE30 Ye_tO50 rfl rfl rfl rfl rfl (by simp only [List.length_append, List.length_cons, List.length_nil]; omega) (by simp only [List.length_append, List.length_cons, List.length_nil]; omega) rfl rfl ?_
        refine o_as (AV.row 103) rfl ?_
        refine aops_end ⟨by kernel_rfl, ?_⟩
        refine hK9 _ ?_
        refine awp_region rfl ?_
        refine n_add (i) (1) Gd.none rfl rfl (by simp only [topOf]; omega) ?_
        refine o_mv (nm .i64 ((i) + (1))) rfl ?_
        refine aops_end ?_
        refine ⟨_, _, ?lt, ⟨i + 1, (by omega), rfl, rfl⟩, ?wk⟩
        case lt => omega
        case wk => exact Wk.trans (Wk.sub (σ' := ⟨[(1, (AV.ref 2 (0))), (4, (AV.row 103)), (13, (AV.sl 4 (gcells cI (m.code)))), (14, (nm .i64 (m.code.length))), (15, (nm .i64 ((i) + (1))))], [(2, (AO.var 24 [(AV.lit (.int .i64 (m.regs))), (AV.sl 4 (gcells cI (m.code)))])), (103, (AO.row 50 2 (gcells cF ((cmp1 m i) ++ ([(Frc.mk (txt ((twnP m ((((m.code).getD (i) default)).next) : Nat) : Int)) (txt (((ownP m (((i : Nat) : Int))) * ((P30).getD (((m.code).getD (i) default).reg.toNat) 0) : Nat) : Int))), (Frc.mk (txt ((twnP m ((((m.code).getD (i) default)).els) : Nat) : Int)) (txt ((ownP m (((i : Nat) : Int)) : Nat) : Int)))])))))]⟩) (And.intro rfl (And.intro rfl (And.intro rfl (And.intro rfl (And.intro rfl (trivial)))))) (And.intro rfl (And.intro rfl (trivial)))) (Wk.trans (Wk.ren (id := 103) (id' := 50) rfl) (Wk.sub (And.intro rfl (And.intro (by first | rfl | (simp)) (And.intro rfl (And.intro rfl (And.intro (by first | rfl | exact congrArg (nm _) (by omega) | exact nm_int (by omega) | exact nm_int (by simp [IntKind.wrap, IntKind.bits, IntKind.signed]; omega)) (trivial)))))) (And.intro rfl (And.intro (by first | rfl | exact row_ns (by simp) | (exact row_gs (by first | exact cmp1_a rfl (by omega) | exact cmp1_b rfl (by omega) | rfl | (rw [show i = m.code.length by omega]; rfl)))) (trivial)))))
    · refine awp_exit ?_
      refine hK5 _ ?_
      refine awp_seq fun K15 hK15 => ?_
      refine awp_seq fun K16 hK16 => ?_
      refine awp_region rfl ?_
      refine o_fieldRef 1 Gd.none Ye_tF24_1 rfl rfl ?_
      refine o_loadS (AV.sl 4 (gcells cI (m.code))) Gd.none Ye_tS22 rfl rfl rfl ?_
      refine g_len cI (m.code) cI_len Gd.none Ye_tU22 rfl ?_
      refine n_add ((m.code).length) (1) Gd.none rfl rfl (by simp only [topOf]; omega) ?_
      refine o_mv (nm .i64 (0)) rfl ?_
      refine aops_end ?_
      refine hK16 _ ?_
      refine awp_block ?_
      refine awp_loopR (fun κ σ => ∃ (j : Nat), (j ≤ m.code.length + 1) ∧ (m.code.length + 1 - j) = κ ∧ σ = ⟨[(1, (AV.ref 2 (0))), (4, (AV.row 50)), (65, (nm .i64 (m.code.length + 1))), (66, (nm .i64 (j)))], [(2, (AO.var 24 [(AV.lit (.int .i64 (m.regs))), (AV.sl 4 (gcells cI (m.code)))])), (50, (AO.row 50 2 (gcells cF (cmp2 m j))))]⟩) ⟨_, _, ⟨0, (by omega), rfl, rfl⟩, ?wk1⟩ ?rd1
      case wk1 =>
        exact Wk.sub (And.intro rfl (And.intro rfl (And.intro (by first | rfl | exact congrArg (nm _) (by omega) | exact nm_int (by omega) | exact nm_int (by simp [IntKind.wrap, IntKind.bits, IntKind.signed]; omega)) (And.intro (by first | rfl | exact congrArg (nm _) (by omega) | exact nm_int (by omega) | exact nm_int (by simp [IntKind.wrap, IntKind.bits, IntKind.signed]; omega)) (trivial))))) (And.intro rfl (And.intro (by first | rfl | exact row_ns (by simp) | (exact row_gs (by first | exact cmp1_a rfl (by omega) | exact cmp1_b rfl (by omega) | rfl | (rw [show i = m.code.length by omega]; rfl)))) (trivial)))
      rintro κ _ ⟨j, hj, rfl, rfl⟩
      have hle := cmp2_len m j
      refine awp_seq fun K17 hK17 => ?_
      refine awp_region rfl ?_
      refine n_lss (j) (m.code.length + 1) Gd.none rfl rfl ?_
      refine aops_end ?_
      refine hK17 _ ?_
      refine awp_seq fun K18 hK18 => ?_
      refine awp_condQ (q := (j) < (m.code.length + 1)) rfl (fun h4 => ?_) (fun h4 => ?_)
      · have b7 := ownP_bd m ((j : Nat) : Int)
        have b8 := twnP_bd m ((j : Nat) : Int)
        refine awp_skip ?_
        refine hK18 _ ?_
        refine awp_seq fun K19 hK19 => ?_
        refine awp_block ?_
        refine awp_seq fun K20 hK20 => ?_
        refine awp_region rfl ?_
        refine o_mv (nm .i64 (j)) rfl ?_
        refine o_as (nm .i64 (j)) rfl ?_
        refine aops_end ?_
        refine hK20 _ ?_
        refine awp_regionD rfl ?_
        refine o_mv (AV.row 50) rfl ?_
        refine o_loadA [(AV.lit (.int .i64 (m.regs))), (AV.sl 4 (gcells cI (m.code)))] Gd.none Ye_tA24 rfl rfl rfl rfl rfl ?_
        refine o_mv (nm .i64 (j)) rfl ?_
        refine o_ct (c_own m (((j : Nat) : Int)) (by omega) (by omega) (by omega) (by omega)) Gd.none Ye_tC21 rfl ?_
        refine o_loadA [(AV.lit (.int .i64 (m.regs))), (AV.sl 4 (gcells cI (m.code)))] Gd.none Ye_tA24 rfl rfl rfl rfl rfl ?_
        refine o_mv (nm .i64 (j)) rfl ?_
        refine o_ct (c_twin m (((j : Nat) : Int)) (by omega) (by omega) (by omega) (by omega)) Gd.none Ye_tC20 rfl ?_
        refine o_ct (c_frac (ownP m (((j : Nat) : Int))) (twnP m (((j : Nat) : Int))) (by omega) (by omega)) Gd.none Ye_tC19 rfl ?_
        refine o_buildSlice 201 (gcells cF ([(Frc.mk (txt ((ownP m (((j : Nat) : Int)) : Nat) : Int)) (txt ((twnP m (((j : Nat) : Int)) : Nat) : Int)))])) [(0, [(AV.lit (.string (txt ((ownP m (((j : Nat) : Int)) : Nat) : Int)))), (AV.lit (.string (txt ((twnP m (((j : Nat) : Int)) : Nat) : Int))))])] Gd.none Ye_tE30 rfl Ye_tO50 rfl rfl rfl rfl rfl rfl rfl ?_
        refine g_append cF 202 (cmp2 m j) ([(Frc.mk (txt ((ownP m (((j : Nat) : Int)) : Nat) : Int)) (txt ((twnP m (((j : Nat) : Int)) : Nat) : Int)))]) [(201, (AO.row 50 2 (gcells cF ([(Frc.mk (txt ((ownP m (((j : Nat) : Int)) : Nat) : Int)) (txt ((twnP m (((j : Nat) : Int)) : Nat) : Int)))])))), (2, (AO.var 24 [(AV.lit (.int .i64 (m.regs))), (AV.sl 4 (gcells cI (m.code)))]))] cF_len rfl Gd.none Ye_tE30 Ye_tO50 rfl rfl rfl rfl rfl (by simp only [List.length_append, List.length_cons, List.length_nil]; omega) (by simp only [List.length_append, List.length_cons, List.length_nil]; omega) rfl rfl ?_
        refine o_as (AV.row 202) rfl ?_
        refine aops_end ⟨by kernel_rfl, ?_⟩
        refine hK19 _ ?_
        refine awp_region rfl ?_
        refine n_add (j) (1) Gd.none rfl rfl (by simp only [topOf]; omega) ?_
        refine o_mv (nm .i64 ((j) + (1))) rfl ?_
        refine aops_end ?_
        refine ⟨_, _, ?lt, ⟨j + 1, (by omega), rfl, rfl⟩, ?wk⟩
        case lt => omega
        case wk => exact Wk.trans (Wk.sub (σ' := ⟨[(1, (AV.ref 2 (0))), (4, (AV.row 202)), (65, (nm .i64 (m.code.length + 1))), (66, (nm .i64 ((j) + (1))))], [(2, (AO.var 24 [(AV.lit (.int .i64 (m.regs))), (AV.sl 4 (gcells cI (m.code)))])), (202, (AO.row 50 2 (gcells cF ((cmp2 m j) ++ ([(Frc.mk (txt ((ownP m (((j : Nat) : Int)) : Nat) : Int)) (txt ((twnP m (((j : Nat) : Int)) : Nat) : Int)))])))))]⟩) (And.intro rfl (And.intro rfl (And.intro rfl (And.intro rfl (trivial))))) (And.intro rfl (And.intro rfl (trivial)))) (Wk.trans (Wk.ren (id := 202) (id' := 50) rfl) (Wk.sub (And.intro rfl (And.intro (by first | rfl | (simp)) (And.intro rfl (And.intro (by first | rfl | exact congrArg (nm _) (by omega) | exact nm_int (by omega) | exact nm_int (by simp [IntKind.wrap, IntKind.bits, IntKind.signed]; omega)) (trivial))))) (And.intro rfl (And.intro (by first | rfl | exact row_ns (by simp) | (exact row_gs (by first | exact cmp1_a rfl (by omega) | exact cmp1_b rfl (by omega) | rfl | (rw [show i = m.code.length by omega]; rfl)))) (trivial)))))
      · refine awp_exit ?_
        refine hK15 _ ?_
        refine awp_seq fun K21 hK21 => ?_
        refine awp_region rfl ?_
        refine o_mv (AV.row 50) rfl ?_
        refine o_as (AV.row 50) rfl ?_
        refine o_as (nm .i64 (0)) rfl ?_
        refine aops_end ?_
        refine hK21 _ ?_
        refine awp_wk (σ' := ⟨[(2, (AV.row 50)), (3, (nm .i64 (0)))], [(50, (AO.row 50 2 (gcells cF (cmp2 m j))))]⟩) (Wk.sub (And.intro rfl (And.intro rfl (trivial))) (And.intro rfl (trivial))) ?_
        refine awp_wk (σ' := ⟨[(2, (AV.sl 2 (gcells cF (cmp2 m j)))), (3, (nm .i64 (0)))], []⟩) (Wk.freeze (id := 50) (e := 50) (sz := 2) (cs := (gcells cF (cmp2 m j))) rfl) ?_
        refine awp_ret ?_
        refine post_ret ⟨[(AV.sl 2 (gcells cF (cmp2 m j))), (nm .i64 (0))], And.intro (AV.le_refl _) (And.intro (AV.le_refl _) (trivial)), rfl, ?_⟩
        rw [cmpR, cmpE, if_pos hM, if_pos hM, show m.code.length + 1 = j by omega]; rfl

theorem c_Encode (m : Mac) (c : Cfg) : ECalls cx 8 [(macV m), (cfgV c)] (.tup [.lit (.string (encS m c)), nm .i64 (encE m c)]) := by
  refine ecalls_of_awp Tryd.func8 (c := _) rfl (Nat.le_of_ble_eq_true rfl) ?_
  show awp cx 50 _ (postF cx Tryd.f8 _) ⟨[(0, (macV m)), (1, (cfgV c))], []⟩
  refine awp_seq fun K0 hK0 => ?_
  refine awp_region rfl ?_
  refine o_box 2 [(AV.lit (.int .i64 (m.regs))), (AV.sl 4 (gcells cI (m.code)))] Gd.none rfl rfl ?_
  refine o_box 3 [(AV.lit (.int .i64 (c.at'))), (AV.sl 1 (is .i64 (c.regs)))] Gd.none rfl rfl ?_
  refine o_as (AV.lit (.string (({data := #[]} : ByteArray)))) rfl ?_
  refine o_as (nm .i64 (0)) rfl ?_
  refine aops_end ?_
  refine hK0 _ ?_
  refine awp_seq fun K1 hK1 => ?_
  refine awp_seq fun K2 hK2 => ?_
  refine awp_region rfl ?_
  refine o_loadA [(AV.lit (.int .i64 (m.regs))), (AV.sl 4 (gcells cI (m.code)))] Gd.none Ye_tA24 rfl rfl rfl rfl rfl ?_
  refine o_loadA [(AV.lit (.int .i64 (c.at'))), (AV.sl 1 (is .i64 (c.regs)))] Gd.none Ye_tA27 rfl rfl rfl rfl rfl ?_
  refine o_ct (c_fFits m c) Gd.none Ye_tC22 rfl ?_
  refine o_notP (q := okCfg m c) Gd.none rfl ?_
  refine aops_end ?_
  refine hK2 _ ?_
  refine awp_condQ (q := ¬ (okCfg m c)) rfl (fun h1 => ?_) (fun h1 => ?_)
  · refine awp_seq fun K3 hK3 => ?_
    refine awp_region rfl ?_
    refine o_as (AV.lit (.string (({data := #[]} : ByteArray)))) rfl ?_
    refine o_as (nm .i64 (1)) rfl ?_
    refine aops_end ?_
    refine hK3 _ ?_
    refine awp_ret ?_
    refine post_ret ⟨[(AV.lit (.string (({data := #[]} : ByteArray)))), (nm .i64 (1))], And.intro (AV.le_refl _) (And.intro (AV.le_refl _) (trivial)), rfl, ?_⟩
    first | (rw [encS, encE, if_neg (by assumption), if_neg (by assumption)]; rfl) | (have hN : ¬ Fit (numC m c) := (by rw [hp, hdr]; intro hf; first | exact tld_big (by assumption) (fit_mul_le pp pr (fit_mul_le hz (Int.mul_pos pp pr) hf).2).1 | exact tld_big (by assumption) (fit_mul_le (Int.mul_pos hz pp) pr (by rw [Int.mul_assoc]; exact hf)).1); rw [encS, encE, if_pos hC, if_pos hC, tld_3 hN, show toldS (numC m c) = { data := #[] } from if_neg hN]; rw [tld_3 (tld_big (by assumption))]; rfl) | (have hE : numC m c = numS s := (by rw [hp, List.drop_of_length_le (by omega)]; exact Int.mul_one _); have hf := fit_numS (okS_iff.1 ho); rw [encS, encE, if_pos hC, if_pos hC, hE, (told_fit hf).1, (told_fit hf).2, txt_numS (okS_iff.1 ho)]; rfl)
  · have hC := Decidable.not_not.1 h1
    have hC2 := hC
    obtain ⟨⟨o1, o2, o3, o4, o5⟩, q1, q2, q3⟩ := hC2
    unfold plc at q1
    have b0 := ownP_bd m c.at'
    have os := txt_sz2 (fit_113 b0)
    have ow : 2 ≤ ownP m c.at' := p30_ge _ (by omega)
    refine awp_skip ?_
    refine hK1 _ ?_
    refine awp_seq fun K4 hK4 => ?_
    refine awp_region rfl ?_
    refine o_loadA [(AV.lit (.int .i64 (m.regs))), (AV.sl 4 (gcells cI (m.code)))] Gd.none Ye_tA24 rfl rfl rfl rfl rfl ?_
    refine o_fieldRef 0 Gd.none Ye_tF27_0 rfl rfl ?_
    refine o_loadS (AV.lit (.int .i64 (c.at'))) Gd.none Ye_tS3 rfl rfl rfl ?_
    refine o_ct (c_own m (c.at') (by omega) (by omega) (by omega) (by omega)) Gd.none Ye_tC21 rfl ?_
    refine o_ct (c_itoa (ownP m (c.at')) (by omega)) Gd.none Ye_tC23 rfl ?_
    refine o_as (AV.lit (.string (txt ((ownP m (c.at') : Nat) : Int)))) rfl ?_
    refine aops_end ?_
    refine hK4 _ ?_
    refine awp_seq fun K5 hK5 => ?_
    refine awp_seq fun K6 hK6 => ?_
    refine awp_region rfl ?_
    refine o_fieldRef 1 Gd.none Ye_tF27_1 rfl rfl ?_
    refine o_loadS (AV.sl 1 (is .i64 (c.regs))) Gd.none Ye_tS25 rfl rfl rfl ?_
    refine i_len (c.regs) Gd.none Ye_tU25 rfl ?_
    refine o_mv (nm .i64 (0)) rfl ?_
    refine aops_end ?_
    refine hK6 _ ?_
    refine awp_block ?_
    refine awp_loopR (fun κ σ => ∃ (i : Nat), ∃ (s : ByteArray), (i ≤ c.regs.length) ∧ (numC m c = numS s * prdZ i (c.regs.drop i)) ∧ (okS s = true) ∧ (0 < numS s) ∧ (s.size ≤ 9223372036854775807) ∧ (c.regs.length - i) = κ ∧ σ = ⟨[(6, (AV.lit (.string (s)))), (21, (AV.sl 1 (is .i64 (c.regs)))), (22, (nm .i64 (c.regs.length))), (23, (nm .i64 (i)))], []⟩) ⟨_, _, ⟨0, txt ((ownP m c.at' : Nat) : Int), (by omega), (by rw [numS_txt]; rfl), (okS_iff.2 (okS_txt (fit_113 b0))), (by rw [numS_txt]; omega), os, rfl, rfl⟩, ?wk0⟩ ?rd0
    case wk0 =>
      exact Wk.sub (And.intro (by first | rfl | (simp)) (And.intro rfl (And.intro (by first | rfl | exact congrArg (nm _) (by omega) | exact nm_int (by omega) | exact nm_int (by simp [IntKind.wrap, IntKind.bits, IntKind.signed]; omega)) (And.intro (by first | rfl | exact congrArg (nm _) (by omega) | exact nm_int (by omega) | exact nm_int (by simp [IntKind.wrap, IntKind.bits, IntKind.signed]; omega)) (trivial))))) (trivial)
    rintro κ _ ⟨i, s, hi, hp, ho, hz, hs, rfl, rfl⟩
    refine awp_seq fun K7 hK7 => ?_
    refine awp_region rfl ?_
    refine n_lss (i) (c.regs.length) Gd.none rfl rfl ?_
    refine aops_end ?_
    refine hK7 _ ?_
    refine awp_seq fun K8 hK8 => ?_
    refine awp_condQ (q := (i) < (c.regs.length)) rfl (fun h2 => ?_) (fun h2 => ?_)
    · have hr := q3 _ (gdm (d := 0) h2)
      unfold regP at hr
      have b1 := p30_bd i
      have ps := txt_sz2 (fit_113 b1)
      have hw := pow_str b1 hr
      have p2 := p30_ge i (by omega)
      have pp : 0 < (((P30.getD (i) 0 : Nat) : Int) ^ ((c.regs).getD (i) 0).toNat) := Int.pow_pos (by omega)
      have tz := told_sz (((P30.getD (i) 0 : Nat) : Int) ^ ((c.regs).getD (i) 0).toNat)
      have hdr := prd_drop (j := i) h2
      have pr := prd_pos (c.regs.drop (i + 1)) (i + 1) (by rw [List.length_drop]; omega)
      refine awp_skip ?_
      refine hK8 _ ?_
      refine awp_seq fun K9 hK9 => ?_
      refine awp_block ?_
      refine awp_seq fun K10 hK10 => ?_
      refine awp_region rfl ?_
      refine o_mv (nm .i64 (i)) rfl ?_
      refine i_index (c.regs) (i) Gd.none Ye_tE25 rfl rfl (by omega) ?_
      refine i_loadI (c.regs) (i) Gd.none Ye_tS3 rfl (by omega) ?_
      refine o_as (nm .i64 (i)) rfl ?_
      refine o_as (AV.lit (.int .i64 ((c.regs).getD (i) 0))) rfl ?_
      refine aops_end ?_
      refine hK10 _ ?_
      refine awp_seq fun K11 hK11 => ?_
      refine awp_region rfl ?_
      refine o_ct c_primes Gd.none Ye_tC18 rfl ?_
      refine o_mv (nm .i64 (i)) rfl ?_
      refine n_indexAgg (P30) (i) Gd.none Ye_tR53 Ye_tS3 rfl rfl (by rfl) (by omega) ?_
      refine o_ct (c_itoa ((P30).getD (i) 0) (by omega)) Gd.none Ye_tC23 rfl ?_
      refine o_mv (AV.lit (.int .i64 ((c.regs).getD (i) 0))) rfl ?_
      refine o_ct (c_nPower (txt (((P30).getD (i) 0 : Nat) : Int)) ((c.regs).getD (i) 0) (by first | assumption | decide | omega)) Gd.none Ye_tC24 rfl ?_
      refine o_mv (AV.tup [(AV.lit (.string (powS (txt (((P30).getD (i) 0 : Nat) : Int)) ((c.regs).getD (i) 0)))), (nm .i64 (powE (txt (((P30).getD (i) 0 : Nat) : Int)) ((c.regs).getD (i) 0)))]) rfl ?_
      refine o_extract (AV.lit (.string (powS (txt (((P30).getD (i) 0 : Nat) : Int)) ((c.regs).getD (i) 0)))) Gd.none rfl rfl ?_
      refine n_as (v' := (AV.lit (.string (toldS (((P30.getD (i) 0 : Nat) : Int) ^ ((c.regs).getD (i) 0).toNat))))) (by exact str_as2 hw.1) ?_
      refine o_extract (nm .i64 (powE (txt (((P30).getD (i) 0 : Nat) : Int)) ((c.regs).getD (i) 0))) Gd.none rfl rfl ?_
      refine n_as (v' := (nm .i64 (toldE (((P30.getD (i) 0 : Nat) : Int) ^ ((c.regs).getD (i) 0).toNat)))) (by exact congrArg (nm _) hw.2) ?_
      refine o_as (AV.lit (.string (toldS (((P30.getD (i) 0 : Nat) : Int) ^ ((c.regs).getD (i) 0).toNat)))) rfl ?_
      refine o_as (nm .i64 (toldE (((P30.getD (i) 0 : Nat) : Int) ^ ((c.regs).getD (i) 0).toNat))) rfl ?_
      refine aops_end ?_
      refine hK11 _ ?_
      refine awp_seq fun K12 hK12 => ?_
      refine awp_seq fun K13 hK13 => ?_
      refine awp_region rfl ?_
      refine o_mv (nm .i64 (toldE (((P30.getD (i) 0 : Nat) : Int) ^ ((c.regs).getD (i) 0).toNat))) rfl ?_
      refine n_eql (toldE (((P30.getD (i) 0 : Nat) : Int) ^ ((c.regs).getD (i) 0).toNat)) (0) Gd.none rfl rfl ?_
      refine aops_end ?_
      refine hK13 _ ?_
      refine awp_condQ (q := (toldE (((P30.getD (i) 0 : Nat) : Int) ^ ((c.regs).getD (i) 0).toNat)) = (0)) rfl (fun h3 => ?_) (fun h3 => ?_)
      · have hF : Fit (((P30.getD (i) 0 : Nat) : Int) ^ ((c.regs).getD (i) 0).toNat) := tld_ok (fun e => e (by assumption))
        obtain ⟨w1, w2⟩ := told_fit hF
        have hm := mul_str (a := s) (b := toldS (((P30.getD (i) 0 : Nat) : Int) ^ ((c.regs).getD (i) 0).toNat)) ⟨ho, by rw [w1]; exact okS_iff.2 (okS_txt hF)⟩
        have hn1 : numS (toldS (((P30.getD (i) 0 : Nat) : Int) ^ ((c.regs).getD (i) 0).toNat)) = (((P30.getD (i) 0 : Nat) : Int) ^ ((c.regs).getD (i) 0).toNat) := by rw [w1, numS_txt]
        refine awp_region rfl ?_
        refine o_mv (AV.lit (.string (s))) rfl ?_
        refine o_mv (AV.lit (.string (toldS (((P30.getD (i) 0 : Nat) : Int) ^ ((c.regs).getD (i) 0).toNat)))) rfl ?_
        refine o_ct (c_nMul (s) (toldS (((P30.getD (i) 0 : Nat) : Int) ^ ((c.regs).getD (i) 0).toNat)) (by first | assumption | decide | omega) (by first | assumption | decide | omega)) Gd.none Ye_tC25 rfl ?_
        refine o_mv (AV.tup [(AV.lit (.string ((if okS (s) && okS (toldS (((P30.getD (i) 0 : Nat) : Int) ^ ((c.regs).getD (i) 0).toNat)) then (toldS (numS (s) * numS (toldS (((P30.getD (i) 0 : Nat) : Int) ^ ((c.regs).getD (i) 0).toNat)))) else (({ data := #[] } : ByteArray)))))), (nm .i64 ((if okS (s) && okS (toldS (((P30.getD (i) 0 : Nat) : Int) ^ ((c.regs).getD (i) 0).toNat)) then (toldE (numS (s) * numS (toldS (((P30.getD (i) 0 : Nat) : Int) ^ ((c.regs).getD (i) 0).toNat)))) else (1))))]) rfl ?_
        refine o_extract (AV.lit (.string ((if okS (s) && okS (toldS (((P30.getD (i) 0 : Nat) : Int) ^ ((c.regs).getD (i) 0).toNat)) then (toldS (numS (s) * numS (toldS (((P30.getD (i) 0 : Nat) : Int) ^ ((c.regs).getD (i) 0).toNat)))) else (({ data := #[] } : ByteArray)))))) Gd.none rfl rfl ?_
        refine n_as (v' := (AV.lit (.string (toldS (numS s * (((P30.getD (i) 0 : Nat) : Int) ^ ((c.regs).getD (i) 0).toNat)))))) (by exact str_as2 (hm.1.trans (by rw [hn1]))) ?_
        refine o_extract (nm .i64 ((if okS (s) && okS (toldS (((P30.getD (i) 0 : Nat) : Int) ^ ((c.regs).getD (i) 0).toNat)) then (toldE (numS (s) * numS (toldS (((P30.getD (i) 0 : Nat) : Int) ^ ((c.regs).getD (i) 0).toNat)))) else (1)))) Gd.none rfl rfl ?_
        refine n_as (v' := (nm .i64 (toldE (numS s * (((P30.getD (i) 0 : Nat) : Int) ^ ((c.regs).getD (i) 0).toNat))))) (by exact congrArg (nm _) (hm.2.trans (by rw [hn1]))) ?_
        refine o_as (AV.lit (.string (toldS (numS s * (((P30.getD (i) 0 : Nat) : Int) ^ ((c.regs).getD (i) 0).toNat))))) rfl ?_
        refine o_as (nm .i64 (toldE (numS s * (((P30.getD (i) 0 : Nat) : Int) ^ ((c.regs).getD (i) 0).toNat)))) rfl ?_
        refine aops_end ?_
        refine hK12 _ ?_
        refine awp_seq fun K14 hK14 => ?_
        refine awp_region rfl ?_
        refine o_mv (nm .i64 (toldE (numS s * (((P30.getD (i) 0 : Nat) : Int) ^ ((c.regs).getD (i) 0).toNat)))) rfl ?_
        refine n_neq (toldE (numS s * (((P30.getD (i) 0 : Nat) : Int) ^ ((c.regs).getD (i) 0).toNat))) (0) Gd.none rfl rfl ?_
        refine aops_end ?_
        refine hK14 _ ?_
        refine awp_condQ (q := (toldE (numS s * (((P30.getD (i) 0 : Nat) : Int) ^ ((c.regs).getD (i) 0).toNat))) ≠ (0)) rfl (fun h4 => ?_) (fun h4 => ?_)
        · refine awp_seq fun K15 hK15 => ?_
          refine awp_region rfl ?_
          refine o_mv (nm .i64 (toldE (numS s * (((P30.getD (i) 0 : Nat) : Int) ^ ((c.regs).getD (i) 0).toNat)))) rfl ?_
          refine o_as (AV.lit (.string (({data := #[]} : ByteArray)))) rfl ?_
          refine o_as (nm .i64 (toldE (numS s * (((P30.getD (i) 0 : Nat) : Int) ^ ((c.regs).getD (i) 0).toNat)))) rfl ?_
          refine aops_end ?_
          refine hK15 _ ?_
          refine awp_ret ?_
          refine post_ret ⟨[(AV.lit (.string (({data := #[]} : ByteArray)))), (nm .i64 (toldE (numS s * (((P30.getD (i) 0 : Nat) : Int) ^ ((c.regs).getD (i) 0).toNat))))], And.intro (AV.le_refl _) (And.intro (AV.le_refl _) (trivial)), rfl, ?_⟩
          first | (rw [encS, encE, if_neg (by assumption), if_neg (by assumption)]; rfl) | (have hN : ¬ Fit (numC m c) := (by rw [hp, hdr]; intro hf; first | exact tld_big (by assumption) (fit_mul_le pp pr (fit_mul_le hz (Int.mul_pos pp pr) hf).2).1 | exact tld_big (by assumption) (fit_mul_le (Int.mul_pos hz pp) pr (by rw [Int.mul_assoc]; exact hf)).1); rw [encS, encE, if_pos hC, if_pos hC, tld_3 hN, show toldS (numC m c) = { data := #[] } from if_neg hN]; rw [tld_3 (tld_big (by assumption))]; rfl) | (have hE : numC m c = numS s := (by rw [hp, List.drop_of_length_le (by omega)]; exact Int.mul_one _); have hf := fit_numS (okS_iff.1 ho); rw [encS, encE, if_pos hC, if_pos hC, hE, (told_fit hf).1, (told_fit hf).2, txt_numS (okS_iff.1 ho)]; rfl)
        · refine awp_skip ?_
          refine hK9 _ ?_
          refine awp_region rfl ?_
          refine n_add (i) (1) Gd.none rfl rfl (by simp only [topOf]; omega) ?_
          refine o_mv (nm .i64 ((i) + (1))) rfl ?_
          refine aops_end ?_
          have hG := tld_ok (by assumption)
          obtain ⟨v1, v2⟩ := told_fit hG
          refine ⟨_, _, ?lt, ⟨i + 1, toldS (numS s * (((P30.getD (i) 0 : Nat) : Int) ^ ((c.regs).getD (i) 0).toNat)), (by omega), (by rw [hp, hdr, v1, numS_txt, Int.mul_assoc]), (by rw [v1]; exact okS_iff.2 (okS_txt hG)), (by rw [v1, numS_txt]; exact Int.mul_pos hz pp), (told_sz _), rfl, rfl⟩, ?wk⟩
          case lt => omega
          case wk => exact Wk.sub (And.intro (by first | rfl | (simp)) (And.intro rfl (And.intro rfl (And.intro (by first | rfl | exact congrArg (nm _) (by omega) | exact nm_int (by omega) | exact nm_int (by simp [IntKind.wrap, IntKind.bits, IntKind.signed]; omega)) (trivial))))) (trivial)
      · refine awp_skip ?_
        refine hK12 _ ?_
        refine awp_seq fun K16 hK16 => ?_
        refine awp_region rfl ?_
        refine o_mv (nm .i64 (toldE (((P30.getD (i) 0 : Nat) : Int) ^ ((c.regs).getD (i) 0).toNat))) rfl ?_
        refine n_neq (toldE (((P30.getD (i) 0 : Nat) : Int) ^ ((c.regs).getD (i) 0).toNat)) (0) Gd.none rfl rfl ?_
        refine aops_end ?_
        refine hK16 _ ?_
        refine awp_condB (b := decide ((toldE (((P30.getD (i) 0 : Nat) : Int) ^ ((c.regs).getD (i) 0).toNat)) ≠ (0))) rfl (fun _ => ?_) (fun hh => absurd (hh.symm.trans (decide_eq_true h3)) (by decide))
        refine awp_seq fun K17 hK17 => ?_
        refine awp_region rfl ?_
        refine o_mv (nm .i64 (toldE (((P30.getD (i) 0 : Nat) : Int) ^ ((c.regs).getD (i) 0).toNat))) rfl ?_
        refine o_as (AV.lit (.string (({data := #[]} : ByteArray)))) rfl ?_
        refine o_as (nm .i64 (toldE (((P30.getD (i) 0 : Nat) : Int) ^ ((c.regs).getD (i) 0).toNat))) rfl ?_
        refine aops_end ?_
        refine hK17 _ ?_
        refine awp_ret ?_
        refine post_ret ⟨[(AV.lit (.string (({data := #[]} : ByteArray)))), (nm .i64 (toldE (((P30.getD (i) 0 : Nat) : Int) ^ ((c.regs).getD (i) 0).toNat)))], And.intro (AV.le_refl _) (And.intro (AV.le_refl _) (trivial)), rfl, ?_⟩
        first | (rw [encS, encE, if_neg (by assumption), if_neg (by assumption)]; rfl) | (have hN : ¬ Fit (numC m c) := (by rw [hp, hdr]; intro hf; first | exact tld_big (by assumption) (fit_mul_le pp pr (fit_mul_le hz (Int.mul_pos pp pr) hf).2).1 | exact tld_big (by assumption) (fit_mul_le (Int.mul_pos hz pp) pr (by rw [Int.mul_assoc]; exact hf)).1); rw [encS, encE, if_pos hC, if_pos hC, tld_3 hN, show toldS (numC m c) = { data := #[] } from if_neg hN]; rw [tld_3 (tld_big (by assumption))]; rfl) | (have hE : numC m c = numS s := (by rw [hp, List.drop_of_length_le (by omega)]; exact Int.mul_one _); have hf := fit_numS (okS_iff.1 ho); rw [encS, encE, if_pos hC, if_pos hC, hE, (told_fit hf).1, (told_fit hf).2, txt_numS (okS_iff.1 ho)]; rfl)
    · refine awp_exit ?_
      refine hK5 _ ?_
      refine awp_seq fun K18 hK18 => ?_
      refine awp_region rfl ?_
      refine o_mv (AV.lit (.string (s))) rfl ?_
      refine o_as (AV.lit (.string (s))) rfl ?_
      refine o_as (nm .i64 (0)) rfl ?_
      refine aops_end ?_
      refine hK18 _ ?_
      refine awp_ret ?_
      refine post_ret ⟨[(AV.lit (.string (s))), (nm .i64 (0))], And.intro (AV.le_refl _) (And.intro (AV.le_refl _) (trivial)), rfl, ?_⟩
      first | (rw [encS, encE, if_neg (by assumption), if_neg (by assumption)]; rfl) | (have hN : ¬ Fit (numC m c) := (by rw [hp, hdr]; intro hf; first | exact tld_big (by assumption) (fit_mul_le pp pr (fit_mul_le hz (Int.mul_pos pp pr) hf).2).1 | exact tld_big (by assumption) (fit_mul_le (Int.mul_pos hz pp) pr (by rw [Int.mul_assoc]; exact hf)).1); rw [encS, encE, if_pos hC, if_pos hC, tld_3 hN, show toldS (numC m c) = { data := #[] } from if_neg hN]; rw [tld_3 (tld_big (by assumption))]; rfl) | (have hE : numC m c = numS s := (by rw [hp, List.drop_of_length_le (by omega)]; exact Int.mul_one _); have hf := fit_numS (okS_iff.1 ho); rw [encS, encE, if_pos hC, if_pos hC, hE, (told_fit hf).1, (told_fit hf).2, txt_numS (okS_iff.1 ho)]; rfl)

end Go.Proofs.YtpamhblonmpniaaDoor

set_option linter.unusedVariables false
set_option linter.unusedSimpArgs false
namespace Go.Proofs.YtpamhblonmpniaaDoor
open Go Go.Ab Go.Mth
theorem fieldsFrac : Tryd.prog.fieldsOf 50 = #[{ name := "Num", type := 9, offset := 0, embedded := false, tag := "", pkgPath := "", byteOffset := 0 }, { name := "Den", type := 9, offset := 1, embedded := false, tag := "", pkgPath := "", byteOffset := 16 }] := by kernel_rfl
theorem eq_api_Frac (a1 a2 b1 b2 : ByteArray) : AggEq cx.P 50 [.string a1, .string a2] [.string b1, .string b2] (decide (a1 = b1 ∧ a2 = b2)) := by
  refine ⟨by kernel_rfl, fun w => ?_⟩
  have hS : Tryd.prog.underlying 50 = some (.struct (Tryd.prog.fieldsOf 50)) := by kernel_rfl
  show (Op.equalIn 10000 50 _ _).run Tryd.prog w = _
  rw [show (10000 : Nat) = 9998 + 1 + 1 from rfl, run_equalIn_agg w (9998 + 1) _ _ _ hS (by kernel_rfl), fieldsFrac]
  have uS : Tryd.prog.underlying 9 = some .string := by kernel_rfl
  simp only [Op.eqFields, part_str uS, Sem.run_bind, Sem.run_ite, run_equalIn_string _ _ _ _ _ uS]
  by_cases h1 : a1 = b1 <;> by_cases h2 : a2 = b2 <;> simp [ba_eq, run_equalIn_string _ _ _ _ _ uS, h1, h2]
end Go.Proofs.YtpamhblonmpniaaDoor

set_option linter.unusedVariables false
set_option linter.unusedSimpArgs false
namespace Go.Proofs.YtpamhblonmpniaaDoor
open Go Go.Ab Go.Mth
theorem Yf_tO24 : tyZero cx.P 24 = some [(Go.Value.int IntKind.i64 0), (Go.Value.slice none 0 0)] := by kernel_rfl
theorem Yf_tP52 : tyPlaces cx.P 52 = some (fun i => (#[(0, 1), (1, 1), (2, 1), (3, 1)] : Array (Nat × Nat))[i]?) := by kernel_rfl
theorem Yf_tO52 : tyZero cx.P 52 = some [(Go.Value.int IntKind.i64 0), (Go.Value.int IntKind.i64 0), (Go.Value.int IntKind.i64 0), (Go.Value.int IntKind.i64 0)] := by kernel_rfl
theorem Yf_tE22 : tyElem cx.P 22 = some (52, 4, 32) := by kernel_rfl
theorem Yf_tP24 : tyPlaces cx.P 24 = some (fun i => (#[(0, 1), (1, 1)] : Array (Nat × Nat))[i]?) := by kernel_rfl
theorem Yf_tZ24 : tySize cx.P 24 = some 2 := by kernel_rfl
theorem Yf_tA24 : tyAgg cx.P 24 = some 2 := by kernel_rfl
theorem Yf_tU30 : cx.P.underlying 30 = some (.slice 50) := by kernel_rfl
theorem Yf_tE30 : tyElem cx.P 30 = some (50, 2, 32) := by kernel_rfl
theorem Yf_tA50 : tyAgg cx.P 50 = some 2 := by kernel_rfl
theorem Yf_tC15 : callable cx.P 15 = true := by kernel_rfl
theorem Yf_tC7 : callable cx.P 7 = true := by kernel_rfl
theorem Yf_tE25 : tyElem cx.P 25 = some (3, 1, 8) := by kernel_rfl
theorem Yf_tO3 : tyZero cx.P 3 = some [(Go.Value.int IntKind.i64 0)] := by kernel_rfl
theorem Yf_tP27 : tyPlaces cx.P 27 = some (fun i => (#[(0, 1), (1, 1)] : Array (Nat × Nat))[i]?) := by kernel_rfl
theorem Yf_tO27 : tyZero cx.P 27 = some [(Go.Value.int IntKind.i64 0), (Go.Value.slice none 0 0)] := by kernel_rfl
theorem Yf_tC8 : callable cx.P 8 = true := by kernel_rfl
theorem Yf_tC10 : callable cx.P 10 = true := by kernel_rfl
theorem Yf_tP50 : tyPlaces cx.P 50 = some (fun i => (#[(0, 1), (1, 1)] : Array (Nat × Nat))[i]?) := by kernel_rfl
theorem Yf_tO50 : tyZero cx.P 50 = some [(Go.Value.string {data := #[]}), (Go.Value.string {data := #[]})] := by kernel_rfl
theorem Yf_tC16 : callable cx.P 16 = true := by kernel_rfl
theorem c_adder  : ECalls cx 15 [] (macV adM) := by
  refine ecalls_of_awp Tryd.func15 (c := _) rfl (Nat.le_of_ble_eq_true rfl) ?_
  show awp cx 5 _ (postF cx Tryd.f15 _) ⟨[], []⟩
  refine awp_seq fun K0 hK0 => ?_
  refine awp_region rfl ?_
  refine o_alloc 2 [(nm .i64 (0)), (AV.lit (.slice none 0 0))] Gd.none Yf_tO24 rfl rfl rfl ?_
  refine aops_end ?_
  refine hK0 _ ?_
  refine awp_seq fun K1 hK1 => ?_
  refine awp_region rfl ?_
  refine o_build [(nm .i64 (1)), (nm .i64 (0)), (nm .i64 (1)), (nm .i64 (2))] [(0, [(nm .i64 (1))]), (2, [(nm .i64 (1))]), (3, [(nm .i64 (2))])] Gd.none Yf_tP52 Yf_tO52 rfl rfl rfl ?_
  refine o_build [(nm .i64 (0)), (nm .i64 (1)), (nm .i64 (0)), (nm .i64 (0))] [(0, [(nm .i64 (0))]), (1, [(nm .i64 (1))])] Gd.none Yf_tP52 Yf_tO52 rfl rfl rfl ?_
  refine o_buildSlice 3 (gcells cI ([(Ins.mk (((1 : Nat) : Int)) (((0 : Nat) : Int)) (((1 : Nat) : Int)) (((2 : Nat) : Int))), (Ins.mk (((0 : Nat) : Int)) (((1 : Nat) : Int)) (((0 : Nat) : Int)) (((0 : Nat) : Int)))])) [(0, [(nm .i64 (1)), (nm .i64 (0)), (nm .i64 (1)), (nm .i64 (2))]), (1, [(nm .i64 (0)), (nm .i64 (1)), (nm .i64 (0)), (nm .i64 (0))])] Gd.none Yf_tE22 rfl Yf_tO52 rfl rfl rfl rfl rfl rfl rfl ?_
  refine o_build [(nm .i64 (2)), (AV.row 3)] [(0, [(nm .i64 (2))]), (1, [(AV.row 3)])] Gd.none Yf_tP24 Yf_tO24 rfl rfl rfl ?_
  refine o_store [(3, (AO.row 52 4 (gcells cI ([(Ins.mk (((1 : Nat) : Int)) (((0 : Nat) : Int)) (((1 : Nat) : Int)) (((2 : Nat) : Int))), (Ins.mk (((0 : Nat) : Int)) (((1 : Nat) : Int)) (((0 : Nat) : Int)) (((0 : Nat) : Int)))])))), (2, (AO.var 24 [(nm .i64 (2)), (AV.row 3)]))] Gd.none Yf_tZ24 rfl rfl rfl rfl rfl rfl ?_
  refine aops_end ?_
  refine hK1 _ ?_
  refine awp_wk (σ' := ⟨[(0, (AV.ref 2 (0)))], [(2, (AO.var 24 [(nm .i64 (2)), (AV.row 3)])), (3, (AO.row 52 4 (gcells cI ([(Ins.mk (((1 : Nat) : Int)) (((0 : Nat) : Int)) (((1 : Nat) : Int)) (((2 : Nat) : Int))), (Ins.mk (((0 : Nat) : Int)) (((1 : Nat) : Int)) (((0 : Nat) : Int)) (((0 : Nat) : Int)))]))))]⟩) (Wk.sub (And.intro rfl (trivial)) (And.intro rfl (And.intro rfl (trivial)))) ?_
  refine awp_wk (σ' := ⟨[(0, (AV.ref 2 (0)))], [(2, (AO.var 24 [(nm .i64 (2)), (AV.sl 4 (gcells cI ([(Ins.mk (((1 : Nat) : Int)) (((0 : Nat) : Int)) (((1 : Nat) : Int)) (((2 : Nat) : Int))), (Ins.mk (((0 : Nat) : Int)) (((1 : Nat) : Int)) (((0 : Nat) : Int)) (((0 : Nat) : Int)))])))]))]⟩) (Wk.freeze (id := 3) (e := 52) (sz := 4) (cs := (gcells cI ([(Ins.mk (((1 : Nat) : Int)) (((0 : Nat) : Int)) (((1 : Nat) : Int)) (((2 : Nat) : Int))), (Ins.mk (((0 : Nat) : Int)) (((1 : Nat) : Int)) (((0 : Nat) : Int)) (((0 : Nat) : Int)))]))) rfl) ?_
  refine awp_ret ?_
  refine post_ret ⟨[(AV.agg [(nm .i64 (2)), (AV.sl 4 (gcells cI ([(Ins.mk (((1 : Nat) : Int)) (((0 : Nat) : Int)) (((1 : Nat) : Int)) (((2 : Nat) : Int))), (Ins.mk (((0 : Nat) : Int)) (((1 : Nat) : Int)) (((0 : Nat) : Int)) (((0 : Nat) : Int)))])))])], And.intro ⟨2, (AO.var 24 [(nm .i64 (2)), (AV.sl 4 (gcells cI ([(Ins.mk (((1 : Nat) : Int)) (((0 : Nat) : Int)) (((1 : Nat) : Int)) (((2 : Nat) : Int))), (Ins.mk (((0 : Nat) : Int)) (((1 : Nat) : Int)) (((0 : Nat) : Int)) (((0 : Nat) : Int)))])))]), rfl, rfl, rfl, Or.inl ⟨Yf_tA24, AV.le_refl _⟩⟩ (trivial), rfl, ?_⟩
  rfl

theorem c_vSameList (l : List Frc) (hb : l.length ≤ 4398046511104) : ECalls cx 16 [(AV.sl 2 (gcells cF (l))), (AV.sl 2 (gcells cF (l)))] (.lit (.bool true)) := by
  refine ecalls_of_awp Tryd.func16 (c := _) rfl (Nat.le_of_ble_eq_true rfl) ?_
  show awp cx 26 _ (postF cx Tryd.f16 _) ⟨[(0, (AV.sl 2 (gcells cF (l)))), (1, (AV.sl 2 (gcells cF (l))))], []⟩
  refine awp_seq fun K0 hK0 => ?_
  refine awp_region rfl ?_
  refine o_as (AV.lit (.bool false)) rfl ?_
  refine aops_end ?_
  refine hK0 _ ?_
  refine awp_seq fun K1 hK1 => ?_
  refine awp_seq fun K2 hK2 => ?_
  refine awp_region rfl ?_
  refine o_mv (AV.sl 2 (gcells cF (l))) rfl ?_
  refine g_len cF (l) cF_len Gd.none Yf_tU30 rfl ?_
  refine o_mv (AV.sl 2 (gcells cF (l))) rfl ?_
  refine g_len cF (l) cF_len Gd.none Yf_tU30 rfl ?_
  refine n_neq ((l).length) ((l).length) Gd.none rfl rfl ?_
  refine aops_end ?_
  refine hK2 _ ?_
  refine awp_condB (b := decide (((l).length) ≠ ((l).length))) rfl (fun hh => absurd (hh.symm.trans (decide_eq_false (fun h => h rfl))) (by decide)) (fun _ => ?_)
  refine awp_skip ?_
  refine hK1 _ ?_
  refine awp_seq fun K3 hK3 => ?_
  refine awp_seq fun K4 hK4 => ?_
  refine awp_region rfl ?_
  refine o_as (nm .i64 (0)) rfl ?_
  refine aops_end ?_
  refine hK4 _ ?_
  refine awp_block ?_
  refine awp_loopR (fun κ σ => ∃ (i : Nat), (i ≤ l.length) ∧ (l.length - i) = κ ∧ σ = ⟨[(0, (AV.sl 2 (gcells cF (l)))), (1, (AV.sl 2 (gcells cF (l)))), (5, (nm .i64 (i)))], []⟩) ⟨_, _, ⟨0, (by omega), rfl, rfl⟩, ?wk0⟩ ?rd0
  case wk0 =>
    exact Wk.sub (And.intro rfl (And.intro rfl (And.intro (by first | rfl | exact congrArg (nm _) (by omega) | exact nm_int (by omega) | exact nm_int (by simp [IntKind.wrap, IntKind.bits, IntKind.signed]; omega)) (trivial)))) (trivial)
  rintro κ _ ⟨i, hi, rfl, rfl⟩
  refine awp_seq fun K5 hK5 => ?_
  refine awp_seq fun K6 hK6 => ?_
  refine awp_region rfl ?_
  refine o_mv (nm .i64 (i)) rfl ?_
  refine o_mv (AV.sl 2 (gcells cF (l))) rfl ?_
  refine g_len cF (l) cF_len Gd.none Yf_tU30 rfl ?_
  refine n_lss (i) ((l).length) Gd.none rfl rfl ?_
  refine aops_end ?_
  refine hK6 _ ?_
  refine awp_condQ (q := (i) < ((l).length)) rfl (fun h1 => ?_) (fun h1 => ?_)
  · refine awp_skip ?_
    refine hK5 _ ?_
    refine awp_seq fun K7 hK7 => ?_
    refine awp_block ?_
    refine awp_seq fun K8 hK8 => ?_
    refine awp_regionD rfl ?_
    refine o_mv (AV.sl 2 (gcells cF (l))) rfl ?_
    refine o_mv (nm .i64 (i)) rfl ?_
    refine g_index cF (l) (i) cF_len rfl Gd.none Yf_tE30 rfl rfl (by omega) ?_
    refine g_loadA cF (l) (i) default cF_len Gd.none Yf_tA50 rfl (by omega) ?_
    refine o_mv (AV.sl 2 (gcells cF (l))) rfl ?_
    refine o_mv (nm .i64 (i)) rfl ?_
    refine g_index cF (l) (i) cF_len rfl Gd.none Yf_tE30 rfl rfl (by omega) ?_
    refine g_loadA cF (l) (i) default cF_len Gd.none Yf_tA50 rfl (by omega) ?_
    refine o_neqA [.string ((((l).getD (i) default)).num), .string ((((l).getD (i) default)).den)] [.string ((((l).getD (i) default)).num), .string ((((l).getD (i) default)).den)] (((((l).getD (i) default)).num) = ((((l).getD (i) default)).num) ∧ ((((l).getD (i) default)).den) = ((((l).getD (i) default)).den)) Gd.none rfl rfl (eq_api_Frac _ _ _ _) ?_
    refine aops_end ⟨by kernel_rfl, ?_⟩
    refine hK8 _ ?_
    refine awp_condB (b := decide (¬ (((((l).getD (i) default)).num) = ((((l).getD (i) default)).num) ∧ ((((l).getD (i) default)).den) = ((((l).getD (i) default)).den)))) rfl (fun hh => absurd (hh.symm.trans (decide_eq_false (fun h => h ⟨rfl, rfl⟩))) (by decide)) (fun _ => ?_)
    refine awp_skip ?_
    refine hK7 _ ?_
    refine awp_region rfl ?_
    refine o_mv (nm .i64 (i)) rfl ?_
    refine n_add (i) (1) Gd.none rfl rfl (by simp only [topOf]; omega) ?_
    refine o_as (nm .i64 ((i) + (1))) rfl ?_
    refine aops_end ?_
    refine ⟨_, _, ?lt, ⟨i + 1, (by omega), rfl, rfl⟩, ?wk⟩
    case lt => omega
    case wk => exact Wk.sub (And.intro rfl (And.intro rfl (And.intro (by first | rfl | exact congrArg (nm _) (by omega) | exact nm_int (by omega) | exact nm_int (by simp [IntKind.wrap, IntKind.bits, IntKind.signed]; omega)) (trivial)))) (trivial)
  · refine awp_exit ?_
    refine hK3 _ ?_
    refine awp_seq fun K9 hK9 => ?_
    refine awp_region rfl ?_
    refine o_as (AV.lit (.bool true)) rfl ?_
    refine aops_end ?_
    refine hK9 _ ?_
    refine awp_ret ?_
    refine post_ret ⟨[(AV.lit (.bool true))], And.intro (AV.le_refl _) (trivial), rfl, ?_⟩
    rfl

theorem c_awake10  : ECalls cx 6 [] (.lit (.bool true)) := by
  refine ecalls_of_awp Tryd.func6 (c := _) rfl (Nat.le_of_ble_eq_true rfl) ?_
  show awp cx 59 _ (postF cx Tryd.f6 _) ⟨[], []⟩
  refine awp_seq fun K0 hK0 => ?_
  refine awp_region rfl ?_
  refine o_as (AV.lit (.bool false)) rfl ?_
  refine aops_end ?_
  refine hK0 _ ?_
  refine awp_seq fun K1 hK1 => ?_
  refine awp_region rfl ?_
  refine o_ct c_adder Gd.none Yf_tC15 rfl ?_
  refine o_ct (c_Compile adM) Gd.none Yf_tC7 rfl ?_
  refine o_mv (AV.tup [(AV.sl 2 (gcells cF (cmpR adM))), (nm .i64 (cmpE adM))]) rfl ?_
  refine o_extract (AV.sl 2 (gcells cF (cmpR adM))) Gd.none rfl rfl ?_
  refine n_as (v' := (AV.sl 2 (gcells cF ([(Frc.mk (({data := #[49, 51]} : ByteArray)) (({data := #[49, 48]} : ByteArray))), (Frc.mk (({data := #[49, 57]} : ByteArray)) (({data := #[53]} : ByteArray))), (Frc.mk (({data := #[50, 49]} : ByteArray)) (({data := #[49, 49]} : ByteArray))), (Frc.mk (({data := #[53]} : ByteArray)) (({data := #[55]} : ByteArray))), (Frc.mk (({data := #[49, 49]} : ByteArray)) (({data := #[49, 51]} : ByteArray))), (Frc.mk (({data := #[49, 55]} : ByteArray)) (({data := #[49, 57]} : ByteArray)))])))) (by exact congrArg (fun l => AV.sl 2 (gcells cF l)) ex_cmp.1) ?_
  refine o_extract (nm .i64 (cmpE adM)) Gd.none rfl rfl ?_
  refine n_as (v' := (nm .i64 (0))) (by exact congrArg (nm _) ex_cmp.2) ?_
  refine o_as (AV.sl 2 (gcells cF ([(Frc.mk (({data := #[49, 51]} : ByteArray)) (({data := #[49, 48]} : ByteArray))), (Frc.mk (({data := #[49, 57]} : ByteArray)) (({data := #[53]} : ByteArray))), (Frc.mk (({data := #[50, 49]} : ByteArray)) (({data := #[49, 49]} : ByteArray))), (Frc.mk (({data := #[53]} : ByteArray)) (({data := #[55]} : ByteArray))), (Frc.mk (({data := #[49, 49]} : ByteArray)) (({data := #[49, 51]} : ByteArray))), (Frc.mk (({data := #[49, 55]} : ByteArray)) (({data := #[49, 57]} : ByteArray)))]))) rfl ?_
  refine o_as (nm .i64 (0)) rfl ?_
  refine aops_end ?_
  refine hK1 _ ?_
  refine awp_seq fun K2 hK2 => ?_
  refine awp_region rfl ?_
  refine o_ct c_adder Gd.none Yf_tC15 rfl ?_
  refine o_buildSlice 2 (is .i64 ([((2 : Nat) : Int), ((1 : Nat) : Int)])) [(0, [(nm .i64 (2))]), (1, [(nm .i64 (1))])] Gd.none Yf_tE25 rfl Yf_tO3 rfl rfl rfl rfl rfl rfl rfl ?_
  refine o_build [(nm .i64 (0)), (AV.row 2)] [(1, [(AV.row 2)])] Gd.none Yf_tP27 Yf_tO27 rfl rfl rfl ?_
  refine o_callG [(2, 1, (is .i64 ([((2 : Nat) : Int), ((1 : Nat) : Int)])))] [(macV adM), (AV.agg [(nm .i64 (0)), (AV.sl 1 (is .i64 ([((2 : Nat) : Int), ((1 : Nat) : Int)])))])] _ (AV.tup [(AV.lit (.string (encS adM exC))), (nm .i64 (encE adM exC))]) [] Gd.none Yf_tC8 rfl (And.intro ⟨_, rfl⟩ (trivial)) rfl rfl (LeL.cons (AV.le_refl _) (LeL.cons (AV.le_refl _) (LeL.nil))) (c_Encode adM exC) rfl ?_
  refine o_mv (AV.tup [(AV.lit (.string (encS adM exC))), (nm .i64 (encE adM exC))]) rfl ?_
  refine o_extract (AV.lit (.string (encS adM exC))) Gd.none rfl rfl ?_
  refine n_as (v' := (AV.lit (.string (({data := #[54, 48]} : ByteArray))))) (by exact str_as2 ex_enc.1) ?_
  refine o_extract (nm .i64 (encE adM exC)) Gd.none rfl rfl ?_
  refine n_as (v' := (nm .i64 (0))) (by exact congrArg (nm _) ex_enc.2) ?_
  refine o_as (AV.lit (.string (({data := #[54, 48]} : ByteArray)))) rfl ?_
  refine o_as (nm .i64 (0)) rfl ?_
  refine aops_end ?_
  refine hK2 _ ?_
  refine awp_seq fun K3 hK3 => ?_
  refine awp_region rfl ?_
  refine o_mv (AV.sl 2 (gcells cF ([(Frc.mk (({data := #[49, 51]} : ByteArray)) (({data := #[49, 48]} : ByteArray))), (Frc.mk (({data := #[49, 57]} : ByteArray)) (({data := #[53]} : ByteArray))), (Frc.mk (({data := #[50, 49]} : ByteArray)) (({data := #[49, 49]} : ByteArray))), (Frc.mk (({data := #[53]} : ByteArray)) (({data := #[55]} : ByteArray))), (Frc.mk (({data := #[49, 49]} : ByteArray)) (({data := #[49, 51]} : ByteArray))), (Frc.mk (({data := #[49, 55]} : ByteArray)) (({data := #[49, 57]} : ByteArray)))]))) rfl ?_
  refine o_ct (c_Play ([(Frc.mk (({data := #[49, 51]} : ByteArray)) (({data := #[49, 48]} : ByteArray))), (Frc.mk (({data := #[49, 57]} : ByteArray)) (({data := #[53]} : ByteArray))), (Frc.mk (({data := #[50, 49]} : ByteArray)) (({data := #[49, 49]} : ByteArray))), (Frc.mk (({data := #[53]} : ByteArray)) (({data := #[55]} : ByteArray))), (Frc.mk (({data := #[49, 49]} : ByteArray)) (({data := #[49, 51]} : ByteArray))), (Frc.mk (({data := #[49, 55]} : ByteArray)) (({data := #[49, 57]} : ByteArray)))]) (({data := #[54, 48]} : ByteArray)) ((4 : Int)) (by first | assumption | exact ex_sz) (by first | assumption | decide | omega)) Gd.none Yf_tC10 rfl ?_
  refine o_mv (AV.tup [(AV.lit (.string ((plyA ([(Frc.mk (({data := #[49, 51]} : ByteArray)) (({data := #[49, 48]} : ByteArray))), (Frc.mk (({data := #[49, 57]} : ByteArray)) (({data := #[53]} : ByteArray))), (Frc.mk (({data := #[50, 49]} : ByteArray)) (({data := #[49, 49]} : ByteArray))), (Frc.mk (({data := #[53]} : ByteArray)) (({data := #[55]} : ByteArray))), (Frc.mk (({data := #[49, 49]} : ByteArray)) (({data := #[49, 51]} : ByteArray))), (Frc.mk (({data := #[49, 55]} : ByteArray)) (({data := #[49, 57]} : ByteArray)))]) (({data := #[54, 48]} : ByteArray)) ((4 : Int))).1))), (nm .i64 ((plyA ([(Frc.mk (({data := #[49, 51]} : ByteArray)) (({data := #[49, 48]} : ByteArray))), (Frc.mk (({data := #[49, 57]} : ByteArray)) (({data := #[53]} : ByteArray))), (Frc.mk (({data := #[50, 49]} : ByteArray)) (({data := #[49, 49]} : ByteArray))), (Frc.mk (({data := #[53]} : ByteArray)) (({data := #[55]} : ByteArray))), (Frc.mk (({data := #[49, 49]} : ByteArray)) (({data := #[49, 51]} : ByteArray))), (Frc.mk (({data := #[49, 55]} : ByteArray)) (({data := #[49, 57]} : ByteArray)))]) (({data := #[54, 48]} : ByteArray)) ((4 : Int))).2.1)), (nm .i64 ((plyA ([(Frc.mk (({data := #[49, 51]} : ByteArray)) (({data := #[49, 48]} : ByteArray))), (Frc.mk (({data := #[49, 57]} : ByteArray)) (({data := #[53]} : ByteArray))), (Frc.mk (({data := #[50, 49]} : ByteArray)) (({data := #[49, 49]} : ByteArray))), (Frc.mk (({data := #[53]} : ByteArray)) (({data := #[55]} : ByteArray))), (Frc.mk (({data := #[49, 49]} : ByteArray)) (({data := #[49, 51]} : ByteArray))), (Frc.mk (({data := #[49, 55]} : ByteArray)) (({data := #[49, 57]} : ByteArray)))]) (({data := #[54, 48]} : ByteArray)) ((4 : Int))).2.2))]) rfl ?_
  refine o_extract (AV.lit (.string ((plyA ([(Frc.mk (({data := #[49, 51]} : ByteArray)) (({data := #[49, 48]} : ByteArray))), (Frc.mk (({data := #[49, 57]} : ByteArray)) (({data := #[53]} : ByteArray))), (Frc.mk (({data := #[50, 49]} : ByteArray)) (({data := #[49, 49]} : ByteArray))), (Frc.mk (({data := #[53]} : ByteArray)) (({data := #[55]} : ByteArray))), (Frc.mk (({data := #[49, 49]} : ByteArray)) (({data := #[49, 51]} : ByteArray))), (Frc.mk (({data := #[49, 55]} : ByteArray)) (({data := #[49, 57]} : ByteArray)))]) (({data := #[54, 48]} : ByteArray)) ((4 : Int))).1))) Gd.none rfl rfl ?_
  refine n_as (v' := (AV.lit (.string (({data := #[57, 48]} : ByteArray))))) (by exact str_as2 (congrArg Prod.fst ex_play)) ?_
  refine o_extract (nm .i64 ((plyA ([(Frc.mk (({data := #[49, 51]} : ByteArray)) (({data := #[49, 48]} : ByteArray))), (Frc.mk (({data := #[49, 57]} : ByteArray)) (({data := #[53]} : ByteArray))), (Frc.mk (({data := #[50, 49]} : ByteArray)) (({data := #[49, 49]} : ByteArray))), (Frc.mk (({data := #[53]} : ByteArray)) (({data := #[55]} : ByteArray))), (Frc.mk (({data := #[49, 49]} : ByteArray)) (({data := #[49, 51]} : ByteArray))), (Frc.mk (({data := #[49, 55]} : ByteArray)) (({data := #[49, 57]} : ByteArray)))]) (({data := #[54, 48]} : ByteArray)) ((4 : Int))).2.1)) Gd.none rfl rfl ?_
  refine n_as (v' := (nm .i64 (4))) (by exact congrArg (nm _) (congrArg (fun x => x.2.1) ex_play)) ?_
  refine o_extract (nm .i64 ((plyA ([(Frc.mk (({data := #[49, 51]} : ByteArray)) (({data := #[49, 48]} : ByteArray))), (Frc.mk (({data := #[49, 57]} : ByteArray)) (({data := #[53]} : ByteArray))), (Frc.mk (({data := #[50, 49]} : ByteArray)) (({data := #[49, 49]} : ByteArray))), (Frc.mk (({data := #[53]} : ByteArray)) (({data := #[55]} : ByteArray))), (Frc.mk (({data := #[49, 49]} : ByteArray)) (({data := #[49, 51]} : ByteArray))), (Frc.mk (({data := #[49, 55]} : ByteArray)) (({data := #[49, 57]} : ByteArray)))]) (({data := #[54, 48]} : ByteArray)) ((4 : Int))).2.2)) Gd.none rfl rfl ?_
  refine n_as (v' := (nm .i64 (0))) (by exact congrArg (nm _) (congrArg (fun x => x.2.2) ex_play)) ?_
  refine o_as (AV.lit (.string (({data := #[57, 48]} : ByteArray)))) rfl ?_
  refine o_as (nm .i64 (4)) rfl ?_
  refine o_as (nm .i64 (0)) rfl ?_
  refine aops_end ?_
  refine hK3 _ ?_
  refine awp_seq fun K4 hK4 => ?_
  refine awp_region rfl ?_
  refine o_mv (nm .i64 (0)) rfl ?_
  refine n_eql (0) (0) Gd.none rfl rfl ?_
  refine o_mv (bp ((0) = (0))) rfl ?_
  refine o_move (nm .i64 (0)) (Gd.yes rfl rfl (decide_eq_true (by decide))) rfl ?_
  refine n_eql (0) (0) (Gd.yes rfl rfl (decide_eq_true (by decide))) rfl rfl ?_
  refine o_pickT (bp ((0) = (0))) Gd.none rfl (decide_eq_true (by decide)) rfl ?_
  refine o_mv (bp ((0) = (0))) rfl ?_
  refine o_move (nm .i64 (0)) (Gd.yes rfl rfl (decide_eq_true (by decide))) rfl ?_
  refine n_eql (0) (0) (Gd.yes rfl rfl (decide_eq_true (by decide))) rfl rfl ?_
  refine o_pickT (bp ((0) = (0))) Gd.none rfl (decide_eq_true (by decide)) rfl ?_
  refine o_mv (bp ((0) = (0))) rfl ?_
  refine o_move (AV.lit (.string (({data := #[54, 48]} : ByteArray)))) (Gd.yes rfl rfl (decide_eq_true (by decide))) rfl ?_
  refine o_eqlS (a := (({data := #[54, 48]} : ByteArray))) (c := (({data := #[54, 48]} : ByteArray))) (Gd.yes rfl rfl (decide_eq_true (by decide))) rfl rfl ?_
  refine o_pickT (bp ((({data := #[54, 48]} : ByteArray)).toList = (({data := #[54, 48]} : ByteArray)).toList)) Gd.none rfl (decide_eq_true (by decide)) rfl ?_
  refine o_mv (bp ((({data := #[54, 48]} : ByteArray)).toList = (({data := #[54, 48]} : ByteArray)).toList)) rfl ?_
  refine o_move (AV.lit (.string (({data := #[57, 48]} : ByteArray)))) (Gd.yes rfl rfl (decide_eq_true rfl)) rfl ?_
  refine o_eqlS (a := (({data := #[57, 48]} : ByteArray))) (c := (({data := #[57, 48]} : ByteArray))) (Gd.yes rfl rfl (decide_eq_true rfl)) rfl rfl ?_
  refine o_pickT (bp ((({data := #[57, 48]} : ByteArray)).toList = (({data := #[57, 48]} : ByteArray)).toList)) Gd.none rfl (decide_eq_true rfl) rfl ?_
  refine o_mv (bp ((({data := #[57, 48]} : ByteArray)).toList = (({data := #[57, 48]} : ByteArray)).toList)) rfl ?_
  refine o_move (nm .i64 (4)) (Gd.yes rfl rfl (decide_eq_true rfl)) rfl ?_
  refine n_eql (4) (4) (Gd.yes rfl rfl (decide_eq_true rfl)) rfl rfl ?_
  refine o_pickT (bp ((4) = (4))) Gd.none rfl (decide_eq_true rfl) rfl ?_
  refine o_mv (bp ((4) = (4))) rfl ?_
  refine o_move (AV.sl 2 (gcells cF ([(Frc.mk (({data := #[49, 51]} : ByteArray)) (({data := #[49, 48]} : ByteArray))), (Frc.mk (({data := #[49, 57]} : ByteArray)) (({data := #[53]} : ByteArray))), (Frc.mk (({data := #[50, 49]} : ByteArray)) (({data := #[49, 49]} : ByteArray))), (Frc.mk (({data := #[53]} : ByteArray)) (({data := #[55]} : ByteArray))), (Frc.mk (({data := #[49, 49]} : ByteArray)) (({data := #[49, 51]} : ByteArray))), (Frc.mk (({data := #[49, 55]} : ByteArray)) (({data := #[49, 57]} : ByteArray)))]))) (Gd.yes rfl rfl (decide_eq_true (by decide))) rfl ?_
  refine o_build [(AV.lit (.string (({data := #[49, 51]} : ByteArray)))), (AV.lit (.string (({data := #[49, 48]} : ByteArray))))] [(0, [(AV.lit (.string (({data := #[49, 51]} : ByteArray))))]), (1, [(AV.lit (.string (({data := #[49, 48]} : ByteArray))))])] (Gd.yes rfl rfl (decide_eq_true (by decide))) Yf_tP50 Yf_tO50 rfl rfl rfl ?_
  refine o_build [(AV.lit (.string (({data := #[49, 57]} : ByteArray)))), (AV.lit (.string (({data := #[53]} : ByteArray))))] [(0, [(AV.lit (.string (({data := #[49, 57]} : ByteArray))))]), (1, [(AV.lit (.string (({data := #[53]} : ByteArray))))])] (Gd.yes rfl rfl (decide_eq_true (by decide))) Yf_tP50 Yf_tO50 rfl rfl rfl ?_
  refine o_build [(AV.lit (.string (({data := #[50, 49]} : ByteArray)))), (AV.lit (.string (({data := #[49, 49]} : ByteArray))))] [(0, [(AV.lit (.string (({data := #[50, 49]} : ByteArray))))]), (1, [(AV.lit (.string (({data := #[49, 49]} : ByteArray))))])] (Gd.yes rfl rfl (decide_eq_true (by decide))) Yf_tP50 Yf_tO50 rfl rfl rfl ?_
  refine o_build [(AV.lit (.string (({data := #[53]} : ByteArray)))), (AV.lit (.string (({data := #[55]} : ByteArray))))] [(0, [(AV.lit (.string (({data := #[53]} : ByteArray))))]), (1, [(AV.lit (.string (({data := #[55]} : ByteArray))))])] (Gd.yes rfl rfl (decide_eq_true (by decide))) Yf_tP50 Yf_tO50 rfl rfl rfl ?_
  refine o_build [(AV.lit (.string (({data := #[49, 49]} : ByteArray)))), (AV.lit (.string (({data := #[49, 51]} : ByteArray))))] [(0, [(AV.lit (.string (({data := #[49, 49]} : ByteArray))))]), (1, [(AV.lit (.string (({data := #[49, 51]} : ByteArray))))])] (Gd.yes rfl rfl (decide_eq_true (by decide))) Yf_tP50 Yf_tO50 rfl rfl rfl ?_
  refine o_build [(AV.lit (.string (({data := #[49, 55]} : ByteArray)))), (AV.lit (.string (({data := #[49, 57]} : ByteArray))))] [(0, [(AV.lit (.string (({data := #[49, 55]} : ByteArray))))]), (1, [(AV.lit (.string (({data := #[49, 57]} : ByteArray))))])] (Gd.yes rfl rfl (decide_eq_true (by decide))) Yf_tP50 Yf_tO50 rfl rfl rfl ?_
  refine o_buildSlice 3 (gcells cF ([(Frc.mk (({data := #[49, 51]} : ByteArray)) (({data := #[49, 48]} : ByteArray))), (Frc.mk (({data := #[49, 57]} : ByteArray)) (({data := #[53]} : ByteArray))), (Frc.mk (({data := #[50, 49]} : ByteArray)) (({data := #[49, 49]} : ByteArray))), (Frc.mk (({data := #[53]} : ByteArray)) (({data := #[55]} : ByteArray))), (Frc.mk (({data := #[49, 49]} : ByteArray)) (({data := #[49, 51]} : ByteArray))), (Frc.mk (({data := #[49, 55]} : ByteArray)) (({data := #[49, 57]} : ByteArray)))])) [(0, [(AV.lit (.string (({data := #[49, 51]} : ByteArray)))), (AV.lit (.string (({data := #[49, 48]} : ByteArray))))]), (1, [(AV.lit (.string (({data := #[49, 57]} : ByteArray)))), (AV.lit (.string (({data := #[53]} : ByteArray))))]), (2, [(AV.lit (.string (({data := #[50, 49]} : ByteArray)))), (AV.lit (.string (({data := #[49, 49]} : ByteArray))))]), (3, [(AV.lit (.string (({data := #[53]} : ByteArray)))), (AV.lit (.string (({data := #[55]} : ByteArray))))]), (4, [(AV.lit (.string (({data := #[49, 49]} : ByteArray)))), (AV.lit (.string (({data := #[49, 51]} : ByteArray))))]), (5, [(AV.lit (.string (({data := #[49, 55]} : ByteArray)))), (AV.lit (.string (({data := #[49, 57]} : ByteArray))))])] (Gd.yes rfl rfl (decide_eq_true (by decide))) Yf_tE30 rfl Yf_tO50 rfl rfl rfl rfl rfl rfl rfl ?_
  refine o_callG [(3, 2, (gcells cF ([(Frc.mk (({data := #[49, 51]} : ByteArray)) (({data := #[49, 48]} : ByteArray))), (Frc.mk (({data := #[49, 57]} : ByteArray)) (({data := #[53]} : ByteArray))), (Frc.mk (({data := #[50, 49]} : ByteArray)) (({data := #[49, 49]} : ByteArray))), (Frc.mk (({data := #[53]} : ByteArray)) (({data := #[55]} : ByteArray))), (Frc.mk (({data := #[49, 49]} : ByteArray)) (({data := #[49, 51]} : ByteArray))), (Frc.mk (({data := #[49, 55]} : ByteArray)) (({data := #[49, 57]} : ByteArray)))])))] [(AV.sl 2 (gcells cF ([(Frc.mk (({data := #[49, 51]} : ByteArray)) (({data := #[49, 48]} : ByteArray))), (Frc.mk (({data := #[49, 57]} : ByteArray)) (({data := #[53]} : ByteArray))), (Frc.mk (({data := #[50, 49]} : ByteArray)) (({data := #[49, 49]} : ByteArray))), (Frc.mk (({data := #[53]} : ByteArray)) (({data := #[55]} : ByteArray))), (Frc.mk (({data := #[49, 49]} : ByteArray)) (({data := #[49, 51]} : ByteArray))), (Frc.mk (({data := #[49, 55]} : ByteArray)) (({data := #[49, 57]} : ByteArray)))]))), (AV.sl 2 (gcells cF ([(Frc.mk (({data := #[49, 51]} : ByteArray)) (({data := #[49, 48]} : ByteArray))), (Frc.mk (({data := #[49, 57]} : ByteArray)) (({data := #[53]} : ByteArray))), (Frc.mk (({data := #[50, 49]} : ByteArray)) (({data := #[49, 49]} : ByteArray))), (Frc.mk (({data := #[53]} : ByteArray)) (({data := #[55]} : ByteArray))), (Frc.mk (({data := #[49, 49]} : ByteArray)) (({data := #[49, 51]} : ByteArray))), (Frc.mk (({data := #[49, 55]} : ByteArray)) (({data := #[49, 57]} : ByteArray)))])))] _ (AV.lit (.bool true)) [] (Gd.yes rfl rfl (decide_eq_true (by decide))) Yf_tC16 rfl (And.intro ⟨_, rfl⟩ (trivial)) rfl rfl (LeL.cons (AV.le_refl _) (LeL.cons (AV.le_refl _) (LeL.nil))) (c_vSameList ([(Frc.mk (({data := #[49, 51]} : ByteArray)) (({data := #[49, 48]} : ByteArray))), (Frc.mk (({data := #[49, 57]} : ByteArray)) (({data := #[53]} : ByteArray))), (Frc.mk (({data := #[50, 49]} : ByteArray)) (({data := #[49, 49]} : ByteArray))), (Frc.mk (({data := #[53]} : ByteArray)) (({data := #[55]} : ByteArray))), (Frc.mk (({data := #[49, 49]} : ByteArray)) (({data := #[49, 51]} : ByteArray))), (Frc.mk (({data := #[49, 55]} : ByteArray)) (({data := #[49, 57]} : ByteArray)))]) (by first | assumption | omega | decide)) rfl ?_
  refine o_pickT (AV.lit (.bool true)) Gd.none rfl (decide_eq_true (by decide)) rfl ?_
  refine o_as (AV.lit (.bool true)) rfl ?_
  refine aops_end ?_
  refine hK4 _ ?_
  refine awp_ret ?_
  refine post_ret ⟨[(AV.lit (.bool true))], And.intro (AV.le_refl _) (trivial), rfl, ?_⟩
  rfl

end Go.Proofs.YtpamhblonmpniaaDoor

set_option linter.unusedVariables false
set_option linter.unusedSimpArgs false
namespace Go.Mth
open Go Go.Ab
def spN (p z : Nat) : Nat × Nat := if h : 2 ≤ p ∧ 0 < z ∧ z % p = 0 then ((spN p (z / p)).1 + 1, (spN p (z / p)).2) else (0, z)
termination_by z
decreasing_by all_goals exact Nat.div_lt_self h.2.1 (by omega)
def dcL : Nat → Nat → Nat → List Int × Nat
  | 0, _, z => ([], z)
  | r + 1, i, z => ((((spN (P30.getD i 0) z).1 : Nat) : Int) :: (dcL r (i + 1) (spN (P30.getD i 0) z).2).1, (dcL r (i + 1) (spN (P30.getD i 0) z).2).2)
def srch (m : Mac) (r : Nat) : Int := ixP (fun s : Nat => r = ownP m ((s : Nat) : Int)) (List.range (m.code.length + 1))
def smallR (l : List Int) : Prop := ∀ n ∈ l, n ≤ 1000
instance (l : List Int) : Decidable (smallR l) := by unfold smallR; infer_instance
def decC (m : Mac) (w : Nat) : Cfg := if smallR (dcL m.regs.toNat 0 w).1 ∧ 0 ≤ srch m (dcL m.regs.toNat 0 w).2 then ⟨srch m (dcL m.regs.toNat 0 w).2, (dcL m.regs.toNat 0 w).1⟩ else zC
def decB (m : Mac) (w : Nat) : Prop := smallR (dcL m.regs.toNat 0 w).1 ∧ 0 ≤ srch m (dcL m.regs.toNat 0 w).2
instance (m : Mac) (w : Nat) : Decidable (decB m w) := by unfold decB; infer_instance
noncomputable def decV (m : Mac) (n : ByteArray) : Cfg := if okMac m then (if posE n = 0 then decC m (numS n).toNat else zC) else zC
noncomputable def decE (m : Mac) (n : ByteArray) : Nat := if okMac m then (if posE n = 0 then (if decB m (numS n).toNat then 0 else 4) else posE n) else 1
end Go.Mth

set_option linter.unusedVariables false
set_option linter.unusedSimpArgs false
namespace Go.Mth
open Go Go.Ab
end Go.Mth

set_option linter.unusedVariables false
set_option linter.unusedSimpArgs false
namespace Go.Mth
open Go Go.Ab
def prN : Nat → List Int → Nat
  | _, [] => 1
  | i, n :: r => (P30.getD i 0) ^ n.toNat * prN (i + 1) r
theorem prN_Z : ∀ (l : List Int) (i : Nat), prdZ i l = ((prN i l : Nat) : Int)
  | [], _ => rfl
  | n :: r, i => by
    show ((P30.getD i 0 : Nat) : Int) ^ n.toNat * prdZ (i + 1) r = _
    rw [prN_Z r (i + 1), prN, Int.natCast_mul, Int.natCast_pow]
theorem cop30 {i j : Nat} (hi : i < 30) (hj : j < 30) (h : i ≠ j) : Nat.Coprime (P30.getD i 0) (P30.getD j 0) := p30_cop i hi j hj h
theorem not_mod {p r : Nat} (hp : 2 ≤ p) (h : Nat.Coprime p r) : ¬ r % p = 0 := fun e => by
  have d := Nat.dvd_of_mod_eq_zero e
  have : Nat.gcd p r = p := Nat.gcd_eq_left d
  rw [Nat.Coprime, this] at h
  omega
theorem numC_N (m : Mac) (c : Cfg) : numC m c = ((prN 0 c.regs * ownP m c.at' : Nat) : Int) := by
  unfold numC
  rw [prN_Z, Int.natCast_mul, Int.mul_comm]
end Go.Mth

set_option linter.unusedVariables false
set_option linter.unusedSimpArgs false
namespace Go.Mth
open Go Go.Ab
theorem encS_sz (m : Mac) (c : Cfg) : (encS m c).size ≤ 9223372036854775807 := by
  unfold encS
  split
  · exact told_sz _
  · exact (by decide : (0 : Nat) ≤ 9223372036854775807)
theorem numC_pos {m : Mac} {c : Cfg} (h : okCfg m c) : 0 < numC m c := by
  obtain ⟨⟨o1, o2, o3, o4, o5⟩, q1, q2, q3⟩ := h
  unfold plc at q1
  have ow : 2 ≤ ownP m c.at' := p30_ge _ (by omega)
  exact Int.mul_pos (by omega) (prd_pos c.regs 0 (by omega))
end Go.Mth

set_option linter.unusedVariables false
set_option linter.unusedSimpArgs false
namespace Go.Mth
open Go Go.Ab
theorem cop_gen {q : Nat} (hq : q < 30) : ∀ (l : List Int) (i : Nat), i + l.length ≤ 30 → (∀ j, j < l.length → q = i + j → (l.getD j 0).toNat = 0) → Nat.Coprime (P30.getD q 0) (prN i l)
  | [], _, _, _ => Nat.coprime_one_right _
  | n :: r, i, hl, h => by
    have hl' : i + 1 + r.length ≤ 30 := by simp at hl; omega
    have ih := cop_gen hq r (i + 1) hl' fun j hj e => by have := h (j + 1) (by simp; omega) (by omega); simpa using this
    refine Nat.Coprime.mul_right ?_ ih
    by_cases e : q = i
    · have h0 : n.toNat = 0 := by have := h 0 (by simp) (by omega); simpa using this
      rw [h0, Nat.pow_zero]
      exact Nat.coprime_one_right _
    · exact Nat.Coprime.pow_right _ (cop30 hq (by omega) e)
theorem dvd_prN {q : Nat} : ∀ (l : List Int) (i j : Nat), j < l.length → q = i + j → 0 < (l.getD j 0).toNat → P30.getD q 0 ∣ prN i l
  | [], _, j, h, _, _ => by simp at h
  | n :: r, i, 0, _, e, h => by
    rw [e, Nat.add_zero]
    have h' : 0 < n.toNat := by simpa using h
    have e2 : prN i (n :: r) = P30.getD i 0 ^ ((n.toNat - 1) + 1) * prN (i + 1) r := by rw [prN, show (n.toNat - 1) + 1 = n.toNat by omega]
    rw [e2, Nat.pow_succ]
    exact Nat.dvd_trans (Nat.dvd_mul_left _ _) (Nat.dvd_mul_right _ _)
  | n :: r, i, j + 1, hj, e, h => by
    exact Nat.dvd_trans (dvd_prN r (i + 1) j (by simpa using hj) (by omega) (by simpa using h)) (Nat.dvd_mul_left _ _)
theorem num_dvd {m : Mac} {c : Cfg} (h : okCfg m c) {q : Nat} (hq : q < 30) : P30.getD q 0 ∣ (numC m c).toNat ↔ q = (m.regs + 2 * c.at').toNat ∨ (q < c.regs.length ∧ 0 < c.regs.getD q 0) := by
  obtain ⟨⟨o1, o2, o3, o4, o5⟩, q1, q2, q3⟩ := h
  unfold plc at q1
  rw [numC_N, Int.toNat_natCast]
  constructor
  · intro d
    refine Decidable.byContradiction fun hn => ?_
    have hn1 : q ≠ (m.regs + 2 * c.at').toNat := fun e => hn (.inl e)
    have c1 : Nat.Coprime (P30.getD q 0) (prN 0 c.regs) := cop_gen hq c.regs 0 (by omega) fun j hj e => by
      have : ¬ 0 < c.regs.getD q 0 := fun g => hn (.inr ⟨by omega, g⟩)
      rw [show j = q by omega]
      omega
    have c2 : Nat.Coprime (P30.getD q 0) (ownP m c.at') := cop30 hq (by omega) hn1
    exact not_mod (p30_ge q hq) (Nat.Coprime.mul_right c1 c2) (Nat.mod_eq_zero_of_dvd d)
  · rintro (e | ⟨a, b⟩)
    · rw [e]
      exact Nat.dvd_mul_left _ _
    · exact Nat.dvd_trans (dvd_prN c.regs 0 q a (by omega) (by omega)) (Nat.dvd_mul_right _ _)
theorem hit_num {m : Mac} {c : Cfg} (h : okCfg m c) (a b : Nat) : hitP (numC m c) (frc a b) ↔ b ∣ (numC m c).toNat := by
  have h0 := numC_pos h
  rw [hit_frc, ← Int.dvd_iff_emod_eq_zero, ← Int.natCast_dvd_natCast, Int.toNat_of_nonneg (by omega)]
theorem hit_own {m : Mac} {c : Cfg} (h : okCfg m c) {s a : Nat} (hs : s ≤ m.code.length) : hitP (numC m c) (frc a (ownP m ((s : Nat) : Int))) ↔ ((s : Nat) : Int) = c.at' := by
  obtain ⟨⟨o1, o2, o3, o4, o5⟩, q1, q2, q3⟩ := id h
  unfold plc at q1
  rw [hit_num h]
  have := num_dvd h (q := (m.regs + 2 * ((s : Nat) : Int)).toNat) (by omega)
  rw [show ownP m ((s : Nat) : Int) = P30.getD (m.regs + 2 * ((s : Nat) : Int)).toNat 0 from rfl, this]
  constructor
  · rintro (e | ⟨e, _⟩) <;> omega
  · intro e; exact .inl (by omega)
theorem hit_twn {m : Mac} {c : Cfg} (h : okCfg m c) {s a : Nat} (hs : s ≤ m.code.length) : ¬ hitP (numC m c) (frc a (twnP m ((s : Nat) : Int))) := by
  obtain ⟨⟨o1, o2, o3, o4, o5⟩, q1, q2, q3⟩ := id h
  unfold plc at q1
  rw [hit_num h]
  have := num_dvd h (q := (m.regs + 2 * ((s : Nat) : Int) + 1).toNat) (by omega)
  rw [show twnP m ((s : Nat) : Int) = P30.getD (m.regs + 2 * ((s : Nat) : Int) + 1).toNat 0 from rfl, this]
  rintro (e | ⟨e, _⟩) <;> omega
theorem hit_dec {m : Mac} {c : Cfg} (h : okCfg m c) {s a : Nat} {x : Ins} (hs : s ≤ m.code.length) (hx : 0 ≤ x.reg ∧ x.reg < m.regs) : hitP (numC m c) (frc a (ownP m ((s : Nat) : Int) * rgP x)) ↔ ((s : Nat) : Int) = c.at' ∧ 0 < c.regs.getD x.reg.toNat 0 := by
  obtain ⟨⟨o1, o2, o3, o4, o5⟩, q1, q2, q3⟩ := id h
  unfold plc at q1
  have e1 := hit_own h (s := s) (a := a) hs
  rw [hit_num h] at e1 ⊢
  have e2 := num_dvd h (q := x.reg.toNat) (by omega)
  have e3 : rgP x ∣ (numC m c).toNat ↔ 0 < c.regs.getD x.reg.toNat 0 := by
    rw [show rgP x = P30.getD x.reg.toNat 0 from rfl, e2]
    constructor
    · rintro (e | ⟨_, e⟩)
      · omega
      · exact e
    · intro e; exact .inr ⟨by omega, e⟩
  have co : Nat.Coprime (ownP m ((s : Nat) : Int)) (rgP x) := cop30 (by omega) (by omega) (by omega)
  rw [← e1, ← e3]
  constructor
  · intro d
    exact ⟨Nat.dvd_trans (Nat.dvd_mul_right _ _) d, Nat.dvd_trans (Nat.dvd_mul_left _ _) d⟩
  · rintro ⟨a1, a2⟩
    exact Nat.Coprime.mul_dvd_of_dvd_of_dvd co a1 a2
end Go.Mth

set_option linter.unusedVariables false
set_option linter.unusedSimpArgs false
namespace Go.Mth
open Go Go.Ab
theorem fst_app {A B : List Frc} {f : Frc} {z : Int} (hA : ∀ g ∈ A, ¬ hitP z g) (hf : hitP z f) : fstI (A ++ f :: B) z = (A.length : Int) ∧ (A ++ f :: B).getD A.length default = f := by
  have e : (A ++ f :: B).getD A.length default = f := by
    rw [List.getD_eq_getElem?_getD, List.getElem?_append_right (Nat.le_refl _), Nat.sub_self]; rfl
  refine ⟨ixP_hit (d := default) (by simp) (by rw [e]; exact hf) fun k hk => ?_, e⟩
  rw [List.getD_eq_getElem?_getD, List.getElem?_append_left hk, List.getElem?_eq_getElem hk]
  exact hA _ (List.getElem_mem hk)
theorem fst_no {A : List Frc} {z : Int} (hA : ∀ g ∈ A, ¬ hitP z g) : fstI A z = -1 := if_neg fun ⟨g, hg, hh⟩ => hA g hg hh
theorem cmp1_split (m : Mac) : ∀ (d i : Nat), ∃ U, cmp1 m (i + d) = cmp1 m i ++ U
  | 0, i => ⟨[], by simp⟩
  | d + 1, i => by
    obtain ⟨U, hU⟩ := cmp1_split m d i
    exact ⟨U ++ insF m (i + d) (m.code.getD (i + d) default), by rw [show i + (d + 1) = (i + d) + 1 by omega, cmp1, hU, List.append_assoc]⟩
theorem cmp2_split (m : Mac) : ∀ i, ∃ U, cmp2 m i = cmp1 m m.code.length ++ U
  | 0 => ⟨[], by simp [cmp2]⟩
  | i + 1 => by
    obtain ⟨U, hU⟩ := cmp2_split m i
    exact ⟨U ++ [frc (ownP m ((i : Nat) : Int)) (twnP m ((i : Nat) : Int))], by rw [cmp2, hU, List.append_assoc]⟩
theorem cmpR_split {m : Mac} (hM : okMac m) {s : Nat} (hs : s < m.code.length) : ∃ U, cmpR m = cmp1 m s ++ (insF m s (m.code.getD s default) ++ U) := by
  obtain ⟨U, hU⟩ := cmp2_split m (m.code.length + 1)
  obtain ⟨V, hV⟩ := cmp1_split m (m.code.length - (s + 1)) (s + 1)
  rw [show s + 1 + (m.code.length - (s + 1)) = m.code.length by omega] at hV
  refine ⟨V ++ U, ?_⟩
  rw [show cmpR m = cmp2 m (m.code.length + 1) from if_pos hM, hU, hV, cmp1]
  simp only [List.append_assoc]
theorem ins_miss {m : Mac} {c : Cfg} (h : okCfg m c) {s : Nat} (hs : s < m.code.length) (hn : ((s : Nat) : Int) ≠ c.at') : ∀ g ∈ insF m s (m.code.getD s default), ¬ hitP (numC m c) g := by
  have hx : insP m (m.code.getD s default) := h.1.2.2.2.2 _ (gdm hs)
  intro g hg
  unfold insF at hg
  split at hg
  · rw [List.mem_singleton] at hg
    rw [hg, hit_own h (by omega)]
    exact hn
  · simp only [List.mem_cons, List.not_mem_nil, or_false] at hg
    rcases hg with rfl | rfl
    · rw [hit_dec h (by omega) ⟨hx.1.1, hx.1.2.1⟩]
      exact fun e => hn e.1
    · rw [hit_own h (by omega)]
      exact hn
theorem cmp1_miss {m : Mac} {c : Cfg} (h : okCfg m c) : ∀ s : Nat, s ≤ m.code.length → ((s : Nat) : Int) ≤ c.at' → ∀ g ∈ cmp1 m s, ¬ hitP (numC m c) g
  | 0, _, _, g, hg => by simp [cmp1] at hg
  | s + 1, h1, h2, g, hg => by
    rw [cmp1] at hg
    rcases List.mem_append.1 hg with hg | hg
    · exact cmp1_miss h s (by omega) (by omega) g hg
    · exact ins_miss h (by omega) (by omega) g hg
def frcC (m : Mac) (c : Cfg) : Frc := if (insAt m c).kind = 0 then frc (twnP m (insAt m c).next * rgP (insAt m c)) (ownP m c.at') else if 0 < regAt m c then frc (twnP m (insAt m c).next) (ownP m c.at' * rgP (insAt m c)) else frc (twnP m (insAt m c).els) (ownP m c.at')
theorem fst_cfg {m : Mac} {c : Cfg} (h : okCfg m c) (hn : ¬ c.at' = (m.code.length : Int)) : 0 ≤ fstI (cmpR m) (numC m c) ∧ (cmpR m).getD (fstI (cmpR m) (numC m c)).toNat default = frcC m c := by
  obtain ⟨a1, a2, a3, a4, a5⟩ := okC_at h hn
  have q1 := h.2.1
  unfold plc at q1
  obtain ⟨U, hU⟩ := cmpR_split h.1 a1
  have hm := cmp1_miss h c.at'.toNat (by omega) (by omega)
  have es : ((c.at'.toNat : Nat) : Int) = c.at' := Int.toNat_of_nonneg q1.1
  have ho : ∀ a, hitP (numC m c) (frc a (ownP m c.at')) := fun a => by
    have := (hit_own h (s := c.at'.toNat) (a := a) (by omega)).2 es
    rwa [es] at this
  have hd : ∀ a, hitP (numC m c) (frc a (ownP m c.at' * rgP (insAt m c))) ↔ 0 < regAt m c := fun a => by
    have := hit_dec h (s := c.at'.toNat) (a := a) (x := insAt m c) (by omega) ⟨a2.1.1, a2.1.2.1⟩
    rw [es] at this
    rw [this]
    exact ⟨fun e => e.2, fun e => ⟨rfl, e⟩⟩
  have fin : ∀ (A B : List Frc) (f : Frc), cmpR m = A ++ f :: B → (∀ g ∈ A, ¬ hitP (numC m c) g) → hitP (numC m c) f → 0 ≤ fstI (cmpR m) (numC m c) ∧ (cmpR m).getD (fstI (cmpR m) (numC m c)).toNat default = f := fun A B f e hA hf => by
    obtain ⟨e1, e2⟩ := fst_app (B := B) hA hf
    rw [e, e1, Int.toNat_natCast]
    exact ⟨Int.natCast_nonneg _, e2⟩
  have hi : insF m c.at'.toNat (m.code.getD c.at'.toNat default) = insF m c.at'.toNat (insAt m c) := rfl
  rw [hi] at hU
  unfold frcC
  by_cases k : (insAt m c).kind = 0
  · rw [if_pos k]
    refine fin _ U _ (by rw [hU, insF, if_pos k, es]; rfl) hm (ho _)
  · rw [if_neg k]
    by_cases g : 0 < regAt m c
    · rw [if_pos g]
      exact fin _ _ _ (by rw [hU, insF, if_neg k, es]; rfl) hm ((hd _).2 g)
    · rw [if_neg g]
      refine fin (cmp1 m c.at'.toNat ++ [frc (twnP m (insAt m c).next) (ownP m c.at' * rgP (insAt m c))]) U _ (by rw [hU, insF, if_neg k, es]; simp) (fun f hf => ?_) (ho _)
      rcases List.mem_append.1 hf with hf | hf
      · exact hm f hf
      · rw [List.mem_singleton] at hf
        rw [hf, hd]
        exact g
theorem fst_end {m : Mac} {c : Cfg} (h : okCfg m c) (hn : c.at' = (m.code.length : Int)) : fstI (cmpR m) (numC m c) = -1 := by
  refine fst_no fun g hg => ?_
  rw [show cmpR m = cmp2 m (m.code.length + 1) from if_pos h.1] at hg
  have : ∀ i, i ≤ m.code.length + 1 → ∀ g ∈ cmp2 m i, ¬ hitP (numC m c) g := by
    intro i
    induction i with
    | zero => intro _ g hg; exact cmp1_miss h m.code.length (Nat.le_refl _) (by omega) g hg
    | succ i ih =>
      intro hi g hg
      rw [cmp2] at hg
      rcases List.mem_append.1 hg with hg | hg
      · exact ih (by omega) g hg
      · rw [List.mem_singleton] at hg
        rw [hg]
        exact hit_twn h (by omega)
  exact this _ (Nat.le_refl _) g hg
end Go.Mth

set_option linter.unusedVariables false
set_option linter.unusedSimpArgs false
namespace Go.Mth
open Go Go.Ab
theorem prN_inc : ∀ (l : List Int) (i j : Nat), j < l.length → 0 ≤ l.getD j 0 → prN i (l.set j (l.getD j 0 + 1)) = prN i l * P30.getD (i + j) 0
  | [], _, j, h, _ => by simp at h
  | n :: r, i, 0, _, h => by
    have h' : 0 ≤ n := by simpa using h
    show P30.getD i 0 ^ (n + 1).toNat * prN (i + 1) r = P30.getD i 0 ^ n.toNat * prN (i + 1) r * P30.getD (i + 0) 0
    rw [show (n + 1).toNat = n.toNat + 1 by omega, Nat.pow_succ, Nat.add_zero, Nat.mul_assoc, Nat.mul_comm (P30.getD i 0), Nat.mul_assoc]
    rfl
  | n :: r, i, j + 1, hj, h => by
    have ih := prN_inc r (i + 1) j (by simpa using hj) (by simpa using h)
    show P30.getD i 0 ^ n.toNat * prN (i + 1) (r.set j (r.getD j 0 + 1)) = P30.getD i 0 ^ n.toNat * prN (i + 1) r * P30.getD (i + (j + 1)) 0
    rw [ih, show i + 1 + j = i + (j + 1) by omega, Nat.mul_assoc]
theorem prN_dec {l : List Int} {i j : Nat} (hj : j < l.length) (h : 0 < l.getD j 0) : prN i l = prN i (l.set j (l.getD j 0 - 1)) * P30.getD (i + j) 0 := by
  have e := prN_inc (l.set j (l.getD j 0 - 1)) i j (by simpa using hj) (by rw [getD_set hj]; omega)
  rw [getD_set hj, List.set_set, show l.getD j 0 - 1 + 1 = l.getD j 0 by omega] at e
  rw [← e]
  congr 1
  refine (List.ext_getElem (by simp) fun k h1 h2 => ?_)
  rw [List.getElem_set]
  split
  · rename_i hk; subst hk; rw [List.getD_eq_getElem?_getD, List.getElem?_eq_getElem hj]; rfl
  · rfl
def half (m : Mac) (c : Cfg) : Nat := prN 0 c.regs * twnP m c.at'
theorem step_half {m : Mac} {c : Cfg} (h : okCfg m c) (he : stpE m c = 0) : nxF (cmpR m) (numC m c) = ((half m (stpC m c) : Nat) : Int) := by
  have hn : ¬ c.at' = (m.code.length : Int) := fun e => by rw [stp_e e] at he; cases he
  obtain ⟨a1, a2, a3, a4, a5⟩ := okC_at h hn
  have q1 := h.2.1
  unfold plc at q1
  have ow : 0 < ownP m c.at' := by have := p30_ge (m.regs + 2 * c.at').toNat (by have := h.1.2.1; have := h.1.2.2.2.1; omega); unfold ownP; omega
  have rp : 0 < rgP (insAt m c) := by have := p30_ge (insAt m c).reg.toNat (by have := h.1.2.1; have := a2.1; omega); unfold rgP; omega
  obtain ⟨_, e2⟩ := fst_cfg h hn
  have key : ∀ (a b q : Nat), 0 < b → prN 0 c.regs * ownP m c.at' = b * q → numC m c / ((b : Nat) : Int) * ((a : Nat) : Int) = ((q * a : Nat) : Int) := fun a b q hb e => by
    rw [numC_N, e, Int.natCast_mul, Int.natCast_mul, Int.mul_ediv_cancel_left _ (by omega)]
  unfold nxF
  rw [e2]
  unfold frcC
  by_cases k : (insAt m c).kind = 0
  · rw [if_pos k]
    have hk : ¬ regAt m c = 1000 := fun e => by rw [stp_d hn k e] at he; cases he
    rw [(stp_a hn k hk).2]
    show numC m c / numS (txt _) * numS (txt _) = _
    rw [numS_txt, numS_txt, key _ _ (prN 0 c.regs) ow (Nat.mul_comm _ _)]
    congr 1
    show prN 0 c.regs * (twnP m (insAt m c).next * rgP (insAt m c)) = prN 0 (c.regs.set _ _) * twnP m (insAt m c).next
    rw [show c.regs.set (insAt m c).reg.toNat (regAt m c + 1) = c.regs.set (insAt m c).reg.toNat (c.regs.getD (insAt m c).reg.toNat 0 + 1) from rfl, prN_inc c.regs 0 _ a3 a4, Nat.zero_add, Nat.mul_comm (twnP m _), ← Nat.mul_assoc]
    rfl
  · rw [if_neg k]
    by_cases g : 0 < regAt m c
    · rw [if_pos g, (stp_b hn k g).2]
      show numC m c / numS (txt _) * numS (txt _) = _
      have e5 := prN_dec (i := 0) a3 g
      rw [Nat.zero_add] at e5
      rw [numS_txt, numS_txt, key _ _ (prN 0 (c.regs.set (insAt m c).reg.toNat (regAt m c - 1))) (Nat.mul_pos ow rp) (by rw [e5]; show _ * rgP (insAt m c) * ownP m c.at' = _; rw [Nat.mul_assoc, Nat.mul_comm (rgP (insAt m c)), Nat.mul_comm]; rfl)]
      rfl
    · rw [if_neg g, (stp_c hn k g).2]
      show numC m c / numS (txt _) * numS (txt _) = _
      rw [numS_txt, numS_txt, key _ _ (prN 0 c.regs) ow (Nat.mul_comm _ _)]
      rfl
end Go.Mth

set_option linter.unusedVariables false
set_option linter.unusedSimpArgs false
namespace Go.Mth
open Go Go.Ab
theorem half_dvd {m : Mac} {c : Cfg} (h : okCfg m c) {q : Nat} (hq : q < 30) : P30.getD q 0 ∣ half m c ↔ q = (m.regs + 2 * c.at' + 1).toNat ∨ (q < c.regs.length ∧ 0 < c.regs.getD q 0) := by
  obtain ⟨⟨o1, o2, o3, o4, o5⟩, q1, q2, q3⟩ := h
  unfold plc at q1
  unfold half
  constructor
  · intro d
    refine Decidable.byContradiction fun hn => ?_
    have hn1 : q ≠ (m.regs + 2 * c.at' + 1).toNat := fun e => hn (.inl e)
    have c1 : Nat.Coprime (P30.getD q 0) (prN 0 c.regs) := cop_gen hq c.regs 0 (by omega) fun j hj e => by
      have : ¬ 0 < c.regs.getD q 0 := fun g => hn (.inr ⟨by omega, g⟩)
      rw [show j = q by omega]
      omega
    have c2 : Nat.Coprime (P30.getD q 0) (twnP m c.at') := cop30 hq (by omega) hn1
    exact not_mod (p30_ge q hq) (Nat.Coprime.mul_right c1 c2) (Nat.mod_eq_zero_of_dvd d)
  · rintro (e | ⟨a, b⟩)
    · rw [e]
      exact Nat.dvd_mul_left _ _
    · exact Nat.dvd_trans (dvd_prN c.regs 0 q a (by omega) (by omega)) (Nat.dvd_mul_right _ _)
theorem hit_half {m : Mac} {c : Cfg} (a b : Nat) : hitP ((half m c : Nat) : Int) (frc a b) ↔ b ∣ half m c := by
  rw [hit_frc, ← Int.dvd_iff_emod_eq_zero, Int.natCast_dvd_natCast]
theorem half_own {m : Mac} {c : Cfg} (h : okCfg m c) {s a : Nat} (hs : s ≤ m.code.length) : ¬ hitP ((half m c : Nat) : Int) (frc a (ownP m ((s : Nat) : Int))) := by
  obtain ⟨⟨o1, o2, o3, o4, o5⟩, q1, q2, q3⟩ := id h
  unfold plc at q1
  rw [hit_half]
  have := half_dvd h (q := (m.regs + 2 * ((s : Nat) : Int)).toNat) (by omega)
  rw [show ownP m ((s : Nat) : Int) = P30.getD (m.regs + 2 * ((s : Nat) : Int)).toNat 0 from rfl, this]
  rintro (e | ⟨e, _⟩) <;> omega
theorem half_twn {m : Mac} {c : Cfg} (h : okCfg m c) {s a : Nat} (hs : s ≤ m.code.length) : hitP ((half m c : Nat) : Int) (frc a (twnP m ((s : Nat) : Int))) ↔ ((s : Nat) : Int) = c.at' := by
  obtain ⟨⟨o1, o2, o3, o4, o5⟩, q1, q2, q3⟩ := id h
  unfold plc at q1
  rw [hit_half]
  have := half_dvd h (q := (m.regs + 2 * ((s : Nat) : Int) + 1).toNat) (by omega)
  rw [show twnP m ((s : Nat) : Int) = P30.getD (m.regs + 2 * ((s : Nat) : Int) + 1).toNat 0 from rfl, this]
  constructor
  · rintro (e | ⟨e, _⟩) <;> omega
  · intro e; exact .inl (by omega)
theorem half_mul {m : Mac} {c : Cfg} (h : okCfg m c) {s a b : Nat} (hs : s ≤ m.code.length) : ¬ hitP ((half m c : Nat) : Int) (frc a (ownP m ((s : Nat) : Int) * b)) := fun e => by
  rw [hit_half] at e
  exact half_own h (a := a) hs ((hit_half _ _).2 (Nat.dvd_trans (Nat.dvd_mul_right _ _) e))
theorem half_cmp1 {m : Mac} {c : Cfg} (h : okCfg m c) : ∀ s : Nat, s ≤ m.code.length → ∀ g ∈ cmp1 m s, ¬ hitP ((half m c : Nat) : Int) g
  | 0, _, g, hg => by simp [cmp1] at hg
  | s + 1, h1, g, hg => by
    rw [cmp1] at hg
    rcases List.mem_append.1 hg with hg | hg
    · exact half_cmp1 h s (by omega) g hg
    · unfold insF at hg
      split at hg
      · rw [List.mem_singleton] at hg
        rw [hg]
        exact half_own h (by omega)
      · simp only [List.mem_cons, List.not_mem_nil, or_false] at hg
        rcases hg with rfl | rfl
        · exact half_mul h (by omega)
        · exact half_own h (by omega)
theorem half_cmp2 {m : Mac} {c : Cfg} (h : okCfg m c) : ∀ s : Nat, ((s : Nat) : Int) ≤ c.at' → ∀ g ∈ cmp2 m s, ¬ hitP ((half m c : Nat) : Int) g
  | 0, _, g, hg => half_cmp1 h _ (Nat.le_refl _) g hg
  | s + 1, h1, g, hg => by
    have q1 := h.2.1
    unfold plc at q1
    rw [cmp2] at hg
    rcases List.mem_append.1 hg with hg | hg
    · exact half_cmp2 h s (by omega) g hg
    · rw [List.mem_singleton] at hg
      rw [hg, half_twn h (by omega)]
      omega
theorem cmp2_more (m : Mac) : ∀ (d i : Nat), ∃ U, cmp2 m (i + d) = cmp2 m i ++ U
  | 0, i => ⟨[], by simp⟩
  | d + 1, i => by
    obtain ⟨U, hU⟩ := cmp2_more m d i
    exact ⟨U ++ [frc (ownP m ((i + d : Nat) : Int)) (twnP m ((i + d : Nat) : Int))], by rw [show i + (d + 1) = (i + d) + 1 by omega, cmp2, hU, List.append_assoc]⟩
theorem step_whole {m : Mac} {c : Cfg} (h : okCfg m c) : 0 ≤ fstI (cmpR m) ((half m c : Nat) : Int) ∧ nxF (cmpR m) ((half m c : Nat) : Int) = numC m c := by
  have q1 := h.2.1
  have o4 := h.1.2.2.2.1
  have o2 := h.1.2.1
  have o1 := h.1.1
  unfold plc at q1
  obtain ⟨U, hU⟩ := cmp2_more m (m.code.length - c.at'.toNat) (c.at'.toNat + 1)
  rw [show c.at'.toNat + 1 + (m.code.length - c.at'.toNat) = m.code.length + 1 by omega, show cmp2 m (c.at'.toNat + 1) = cmp2 m c.at'.toNat ++ [frc (ownP m ((c.at'.toNat : Nat) : Int)) (twnP m ((c.at'.toNat : Nat) : Int))] from rfl, List.append_assoc] at hU
  have es : ((c.at'.toNat : Nat) : Int) = c.at' := Int.toNat_of_nonneg q1.1
  obtain ⟨e1, e2⟩ := fst_app (B := U) (half_cmp2 h c.at'.toNat (by omega)) ((half_twn h (s := c.at'.toNat) (a := ownP m ((c.at'.toNat : Nat) : Int)) (by omega)).2 es)
  have eR : cmpR m = cmp2 m c.at'.toNat ++ frc (ownP m ((c.at'.toNat : Nat) : Int)) (twnP m ((c.at'.toNat : Nat) : Int)) :: U := (if_pos h.1).trans hU
  have tp : 0 < twnP m c.at' := by have := p30_ge (m.regs + 2 * c.at' + 1).toNat (by omega); unfold twnP; omega
  rw [← eR] at e1 e2
  refine ⟨by rw [e1]; exact Int.natCast_nonneg _, ?_⟩
  unfold nxF
  rw [e1, Int.toNat_natCast, e2, es]
  show ((half m c : Nat) : Int) / numS (txt _) * numS (txt _) = _
  rw [numS_txt, numS_txt, numC_N]
  unfold half
  rw [Int.natCast_mul, Int.natCast_mul, Int.mul_ediv_cancel _ (by omega)]
end Go.Mth

set_option linter.unusedVariables false
set_option linter.unusedSimpArgs false
namespace Go.Mth
open Go Go.Ab
def shf (m : Nat) (r : ByteArray × Nat × Nat) : ByteArray × Nat × Nat := if r.2.2 = 0 then (r.1, m + r.2.1, 0) else ({ data := #[] }, 0, 3)
theorem ply_none {l : List Frc} {z : Int} (h : ¬ 0 ≤ fstI l z) : ∀ (k c : Nat), ply l k z c = (txt z, c, 0)
  | 0, _ => rfl
  | k + 1, c => if_neg h
theorem ply_succ (l : List Frc) (k : Nat) (z : Int) (c : Nat) : ply l (k + 1) z c = if 0 ≤ fstI l z then (if Fit (nxF l z) then ply l k (nxF l z) (c + 1) else ({ data := #[] }, 0, 3)) else (txt z, c, 0) := rfl
section
variable {l : List Frc} {n : ByteArray} {k j : Int} (h : askE l n = 0) (hk : 0 ≤ k ∧ k ≤ 100) (hj : 0 ≤ j ∧ j ≤ 100)
include h hk hj
end
end Go.Mth

set_option linter.unusedVariables false
set_option linter.unusedSimpArgs false
namespace Go.Mth
open Go Go.Ab
theorem ask_cfg {m : Mac} {c : Cfg} (h : okCfg m c) (hF : Fit (numC m c)) : encS m c = txt (numC m c) ∧ encE m c = 0 ∧ askE (cmpR m) (encS m c) = 0 ∧ numS (encS m c) = numC m c := by
  have e : encS m c = txt (numC m c) := (if_pos h).trans (told_fit hF).1
  have e2 : encE m c = 0 := (if_pos h).trans (told_fit hF).2
  refine ⟨e, e2, ?_, by rw [e, numS_txt]⟩
  rw [e]
  exact askE_0.2 ⟨cmpR_lst m, okS_iff.2 (okS_txt hF), by rw [numS_txt]; exact numC_pos h⟩
theorem cmpE_0 {m : Mac} {c : Cfg} (h : okCfg m c) : cmpE m = 0 := if_pos h.1
theorem stp_6 {m : Mac} {c : Cfg} (h : stpE m c = 6) : c.at' = (m.code.length : Int) := Decidable.byContradiction fun e => by
  unfold stpE at h
  rw [if_neg e] at h
  split at h <;> cases h
end Go.Mth

set_option linter.unusedVariables false
set_option linter.unusedSimpArgs false
namespace Go.Mth
open Go Go.Ab
theorem p30_10 (i : Nat) (h : i < 4) : P30.getD i 0 ≤ 10 := by
  have : ∀ i < 4, P30.getD i 0 ≤ 10 := by decide
  exact this i h
theorem prN_le {B : Nat} : ∀ (l : List Int) (i : Nat), i + l.length ≤ 4 → (∀ n ∈ l, n.toNat ≤ B) → prN i l ≤ 10 ^ (B * l.length)
  | [], _, _, _ => Nat.le_refl _
  | n :: r, i, hl, h => by
    have hl' : i + 1 + r.length ≤ 4 := by simp at hl; omega
    have ih := prN_le r (i + 1) hl' fun x hx => h x (by simp [hx])
    have h1 : P30.getD i 0 ^ n.toNat ≤ 10 ^ n.toNat := Nat.pow_le_pow_left (p30_10 i (by omega)) _
    have h2 : (10 : Nat) ^ n.toNat ≤ 10 ^ B := Nat.pow_le_pow_right (by decide) (h n (by simp))
    show P30.getD i 0 ^ n.toNat * prN (i + 1) r ≤ 10 ^ (B * (r.length + 1))
    rw [Nat.mul_succ, Nat.pow_add, Nat.mul_comm]
    exact Nat.mul_le_mul ih (Nat.le_trans h1 h2)
theorem fit_small {m : Mac} {c : Cfg} {B : Nat} (h : okCfg m c) (hB : ∀ n ∈ c.regs, n.toNat ≤ B) (hb : B ≤ 400) : Fit (numC m c) ∧ Fit ((half m c : Nat) : Int) := by
  obtain ⟨⟨o1, o2, o3, o4, o5⟩, q1, q2, q3⟩ := id h
  have a := prN_le (B := B) c.regs 0 (by omega) hB
  have a2 : (10 : Nat) ^ (B * c.regs.length) ≤ 10 ^ (B * 4) := Nat.pow_le_pow_right (by decide) (Nat.mul_le_mul_left _ (by omega))
  have key : ∀ p : Nat, p ≤ 113 → Fit ((prN 0 c.regs * p : Nat) : Int) := fun p hp => by
    refine fit_of_pow (k := B * 4 + 3) ?_ (by omega) (by omega)
    rw [Int.natAbs_natCast, Nat.pow_add]
    have : prN 0 c.regs * p ≤ 10 ^ (B * 4) * 113 := Nat.mul_le_mul (by omega) hp
    have : 0 < (10 : Nat) ^ (B * 4) := Nat.pow_pos (by decide)
    omega
  exact ⟨by rw [numC_N]; exact key _ (p30_bd _), key _ (p30_bd _)⟩
theorem reg_B {m : Mac} {c : Cfg} {B : Nat} (h : okCfg m c) (hB : ∀ n ∈ c.regs, n.toNat ≤ B) (hn : ¬ c.at' = (m.code.length : Int)) : regAt m c ≤ B := by
  obtain ⟨a1, a2, a3, a4, a5⟩ := okC_at h hn
  have := hB _ (gdm (d := 0) a3)
  unfold regAt at a4 ⊢
  omega
theorem stp_small {m : Mac} {c : Cfg} {B : Nat} (h : okCfg m c) (hB : ∀ n ∈ c.regs, n.toNat ≤ B) (hb : B < 1000) (h6 : stpE m c ≠ 6) : stpE m c = 0 ∧ ∀ n ∈ (stpC m c).regs, n.toNat ≤ B + 1 := by
  have hn : ¬ c.at' = (m.code.length : Int) := fun e => h6 (stp_e e)
  have r := reg_B h hB hn
  have e3 : ¬ stpE m c = 3 := fun e => by
    unfold stpE at e
    rw [if_neg hn] at e
    split at e
    · rename_i k; omega
    · cases e
  refine ⟨stpE_0 e3 h6, ?_⟩
  have up : ∀ n ∈ c.regs, n.toNat ≤ B + 1 := fun n hn => by have := hB n hn; omega
  unfold stpC
  split
  · exact mem_set (p := fun n : Int => n.toNat ≤ B + 1) up (by show (regAt m c + 1).toNat ≤ B + 1; omega)
  · split
    · exact mem_set (p := fun n : Int => n.toNat ≤ B + 1) up (by show (regAt m c - 1).toNat ≤ B + 1; omega)
    · exact up
theorem stops {m : Mac} : ∀ (k i B : Nat) (c : Cfg), okCfg m c → (∀ n ∈ c.regs, n.toNat ≤ B) → B + k ≤ 400 → ∃ d t, rnm m k c i = (d, i + t, 0) ∧ okCfg m d ∧ Fit (numC m d) ∧ t ≤ k ∧ (t < k → d.at' = (m.code.length : Int)) ∧ ply (cmpR m) (2 * k) (numC m c) (2 * i) = (txt (numC m d), 2 * (i + t), 0)
  | 0, i, B, c, h, hB, hk => ⟨c, 0, rfl, h, (fit_small h hB (by omega)).1, Nat.le_refl _, fun e => by omega, rfl⟩
  | k + 1, i, B, c, h, hB, hk => by
    by_cases h6 : stpE m c = 6
    · have hn := stp_6 h6
      refine ⟨c, 0, if_pos h6, h, (fit_small h hB (by omega)).1, Nat.zero_le _, fun _ => hn, ?_⟩
      exact ply_none (by rw [fst_end h hn]; decide) _ _
    · obtain ⟨e0, hB'⟩ := stp_small h hB (by omega) h6
      have hn : ¬ c.at' = (m.code.length : Int) := fun e => h6 (stp_e e)
      have hS := stp_ok h e0
      obtain ⟨f1, f2⟩ := fit_small hS hB' (by omega)
      obtain ⟨w1, w2⟩ := step_whole hS
      obtain ⟨d, t, r1, r2, r3, r4, r5, r6⟩ := stops k (i + 1) (B + 1) (stpC m c) hS hB' (by omega)
      refine ⟨d, t + 1, ?_, r2, r3, by omega, fun e => r5 (by omega), ?_⟩
      · exact (if_neg h6).trans ((if_pos e0).trans (by rw [r1, show i + 1 + t = i + (t + 1) by omega]))
      · rw [show 2 * (k + 1) = 2 * k + 1 + 1 by omega, ply_succ, if_pos (fst_cfg h hn).1, step_half h e0, if_pos f2, ply_succ, if_pos w1, w2, if_pos f1, show 2 * i + 1 + 1 = 2 * (i + 1) by omega, r6, show i + 1 + t = i + (t + 1) by omega]
theorem stopsA {m : Mac} {c : Cfg} {k : Int} (h : okCfg m c) (hB : ∀ n ∈ c.regs, n ≤ 40) (h0 : 0 ≤ k) (h2 : k ≤ 200) : cmpE m = 0 ∧ encE m c = 0 ∧ (rnA m c k).2.2 = 0 ∧ ((rnA m c k).2.1 : Int) ≤ k ∧ (((rnA m c k).2.1 : Int) < k → (rnA m c k).1.at' = (m.code.length : Int)) ∧ encE m (rnA m c k).1 = 0 ∧ plyA (cmpR m) (encS m c) (2 * k) = (encS m (rnA m c k).1, 2 * (rnA m c k).2.1, 0) := by
  have hB' : ∀ n ∈ c.regs, n.toNat ≤ 40 := fun n hn => by have := hB n hn; omega
  have hF := (fit_small h hB' (by omega)).1
  obtain ⟨a1, a2, a3, a4⟩ := ask_cfg h hF
  obtain ⟨d, t, r1, r2, r3, r4, r5, r6⟩ := stops k.toNat 0 40 c h hB' (by omega)
  obtain ⟨b1, b2, b3, b4⟩ := ask_cfg r2 r3
  rw [Nat.zero_add] at r1 r6
  have e : rnA m c k = (d, t, 0) := (rnA_0 h (by omega)).trans r1
  rw [e]
  refine ⟨cmpE_0 h, a2, rfl, by show (t : Int) ≤ k; omega, fun g => r5 (by have : (t : Int) < k := g; omega), b2, ?_⟩
  rw [plyA_0 a3 (by omega), a4, show (2 * k).toNat = 2 * k.toNat by omega, b1]
  exact r6
end Go.Mth

set_option linter.unusedVariables false
set_option linter.unusedSimpArgs false
namespace Go.Proofs.YtpamhblonmpniaaDoor
open Go Go.Ab Go.Mth
theorem Zb_tA24 : tyAgg cx.P 24 = some 2 := by kernel_rfl
theorem Zb_tA27 : tyAgg cx.P 27 = some 2 := by kernel_rfl
theorem Zb_tC5 : callable cx.P 5 = true := by kernel_rfl
theorem Zb_tC6 : callable cx.P 6 = true := by kernel_rfl
theorem Zb_tF27_1 : tyField cx.P 27 1 = some (1, 25) := by kernel_rfl
theorem Zb_tS25 : tySc cx.P 25 = true := by kernel_rfl
theorem Zb_tU25 : cx.P.underlying 25 = some (.slice 3) := by kernel_rfl
theorem Zb_tE25 : tyElem cx.P 25 = some (3, 1, 8) := by kernel_rfl
theorem Zb_tS3 : tySc cx.P 3 = true := by kernel_rfl
theorem Zb_tC7 : callable cx.P 7 = true := by kernel_rfl
theorem Zb_tC8 : callable cx.P 8 = true := by kernel_rfl
theorem Zb_tC9 : callable cx.P 9 = true := by kernel_rfl
theorem Zb_tO27 : tyZero cx.P 27 = some [(Go.Value.int IntKind.i64 0), (Go.Value.slice none 0 0)] := by kernel_rfl
theorem Zb_tZ27 : tySize cx.P 27 = some 2 := by kernel_rfl
theorem Zb_tF27_0 : tyField cx.P 27 0 = some (0, 3) := by kernel_rfl
theorem Zb_tF24_1 : tyField cx.P 24 1 = some (1, 22) := by kernel_rfl
theorem Zb_tS22 : tySc cx.P 22 = true := by kernel_rfl
theorem Zb_tU22 : cx.P.underlying 22 = some (.slice 52) := by kernel_rfl
theorem Zb_tC10 : callable cx.P 10 = true := by kernel_rfl
theorem c_FractionStops (m : Mac) (c : Cfg) (k : Int) (hb : m.code.length ≤ 4398046511104) (hc : c.regs.length ≤ 17592186044416) : ECalls cx 3 [(macV m), (cfgV c), (AV.lit (.int .i64 (k)))] (.lit (.bool true)) := by
  refine ecalls_of_awp Tryd.func3 (c := _) rfl (Nat.le_of_ble_eq_true rfl) ?_
  show awp cx 133 _ (postF cx Tryd.f3 _) ⟨[(0, (macV m)), (1, (cfgV c)), (2, (AV.lit (.int .i64 (k))))], []⟩
  have hS := cmpR_sz m
  have hes := encS_sz m c
  refine awp_seq fun K0 hK0 => ?_
  refine awp_region rfl ?_
  refine o_box 2 [(AV.lit (.int .i64 (m.regs))), (AV.sl 4 (gcells cI (m.code)))] Gd.none rfl rfl ?_
  refine o_box 3 [(AV.lit (.int .i64 (c.at'))), (AV.sl 1 (is .i64 (c.regs)))] Gd.none rfl rfl ?_
  refine o_as (AV.lit (.bool false)) rfl ?_
  refine aops_end ?_
  refine hK0 _ ?_
  refine awp_seq fun K1 hK1 => ?_
  refine awp_seq fun K2 hK2 => ?_
  refine awp_region rfl ?_
  refine o_loadA [(AV.lit (.int .i64 (m.regs))), (AV.sl 4 (gcells cI (m.code)))] Gd.none Zb_tA24 rfl rfl rfl rfl rfl ?_
  refine o_loadA [(AV.lit (.int .i64 (c.at'))), (AV.sl 1 (is .i64 (c.regs)))] Gd.none Zb_tA27 rfl rfl rfl rfl rfl ?_
  refine o_ct (c_vFits m c) Gd.none Zb_tC5 rfl ?_
  refine o_notP (q := okCfg m c) Gd.none rfl ?_
  refine o_mv (bp (¬ (okCfg m c))) rfl ?_
  refine o_splitP (q := ¬ (okCfg m c)) 24 rfl (fun h1 => ?_) (fun h1 => ?_)
  · refine o_skip rfl rfl (decide_eq_true h1) ?_
    refine o_skip rfl rfl (decide_eq_true h1) ?_
    refine o_pickT (AV.lit (.bool true)) Gd.none rfl (decide_eq_true h1) rfl ?_
    refine o_mv (AV.lit (.bool true)) rfl ?_
    refine o_skip rfl rfl rfl ?_
    refine o_skip rfl rfl rfl ?_
    refine o_pickT (AV.lit (.bool true)) Gd.none rfl rfl rfl ?_
    refine aops_end ?_
    refine hK2 _ ?_
    refine awp_condB (b := true) rfl (fun _ => ?_) (fun hh => absurd (hh.symm.trans rfl) (by decide))
    refine awp_seq fun K3 hK3 => ?_
    refine awp_region rfl ?_
    refine o_ct c_awake10 Gd.none Zb_tC6 rfl ?_
    refine o_as (AV.lit (.bool true)) rfl ?_
    refine aops_end ?_
    refine hK3 _ ?_
    refine awp_ret ?_
    refine post_ret ⟨[(AV.lit (.bool true))], And.intro (AV.le_refl _) (trivial), rfl, ?_⟩
    first | rfl | simp [bp]
  · refine o_move (AV.lit (.int .i64 (k))) (Gd.yes rfl rfl (decide_eq_false h1)) rfl ?_
    refine o_lss (a := (k)) (c := (((0 : Nat) : Int))) (Gd.yes rfl rfl (decide_eq_false h1)) rfl rfl ?_
    refine o_pickF (bp ((k) < (((0 : Nat) : Int)))) Gd.none rfl (decide_eq_false h1) rfl ?_
    refine o_mv (bp ((k) < (((0 : Nat) : Int)))) rfl ?_
    refine o_splitP (q := (k) < (((0 : Nat) : Int))) 28 rfl (fun h2 => ?_) (fun h2 => ?_)
    · refine o_skip rfl rfl (decide_eq_true h2) ?_
      refine o_skip rfl rfl (decide_eq_true h2) ?_
      refine o_pickT (AV.lit (.bool true)) Gd.none rfl (decide_eq_true h2) rfl ?_
      refine aops_end ?_
      refine hK2 _ ?_
      refine awp_condB (b := true) rfl (fun _ => ?_) (fun hh => absurd (hh.symm.trans rfl) (by decide))
      refine awp_seq fun K4 hK4 => ?_
      refine awp_region rfl ?_
      refine o_ct c_awake10 Gd.none Zb_tC6 rfl ?_
      refine o_as (AV.lit (.bool true)) rfl ?_
      refine aops_end ?_
      refine hK4 _ ?_
      refine awp_ret ?_
      refine post_ret ⟨[(AV.lit (.bool true))], And.intro (AV.le_refl _) (trivial), rfl, ?_⟩
      first | rfl | simp [bp]
    · refine o_move (AV.lit (.int .i64 (k))) (Gd.yes rfl rfl (decide_eq_false h2)) rfl ?_
      refine o_gtr (a := (k)) (c := (((200 : Nat) : Int))) (Gd.yes rfl rfl (decide_eq_false h2)) rfl rfl ?_
      refine o_pickF (bp ((((200 : Nat) : Int)) < (k))) Gd.none rfl (decide_eq_false h2) rfl ?_
      refine aops_end ?_
      refine hK2 _ ?_
      refine awp_condQ (q := (((200 : Nat) : Int)) < (k)) rfl (fun h3 => ?_) (fun h3 => ?_)
      · refine awp_seq fun K5 hK5 => ?_
        refine awp_region rfl ?_
        refine o_ct c_awake10 Gd.none Zb_tC6 rfl ?_
        refine o_as (AV.lit (.bool true)) rfl ?_
        refine aops_end ?_
        refine hK5 _ ?_
        refine awp_ret ?_
        refine post_ret ⟨[(AV.lit (.bool true))], And.intro (AV.le_refl _) (trivial), rfl, ?_⟩
        first | rfl | simp [bp]
      · refine awp_skip ?_
        refine hK1 _ ?_
        refine awp_seq fun K6 hK6 => ?_
        refine awp_seq fun K7 hK7 => ?_
        have hC : okCfg m c := Decidable.not_not.1 h1
        have hk0 : 0 ≤ k := by omega
        have hk2 : k ≤ 200 := by omega
        refine awp_region rfl ?_
        refine o_as (nm .i64 (0)) rfl ?_
        refine aops_end ?_
        refine hK7 _ ?_
        refine awp_block ?_
        refine awp_loopR (fun κ σ => ∃ (i : Nat), (i ≤ c.regs.length) ∧ (∀ k, k < i → c.regs.getD k 0 ≤ 40) ∧ (c.regs.length - i) = κ ∧ σ = ⟨[(2, (AV.lit (.int .i64 (k)))), (3, (AV.ref 2 (0))), (4, (AV.ref 3 (0))), (7, (nm .i64 (i)))], [(2, (AO.var 24 [(AV.lit (.int .i64 (m.regs))), (AV.sl 4 (gcells cI (m.code)))])), (3, (AO.var 27 [(AV.lit (.int .i64 (c.at'))), (AV.sl 1 (is .i64 (c.regs)))]))]⟩) ⟨_, _, ⟨0, (by omega), (fun k hk => by omega), rfl, rfl⟩, ?wk0⟩ ?rd0
        case wk0 =>
          exact Wk.sub (And.intro rfl (And.intro rfl (And.intro rfl (And.intro (by first | rfl | exact congrArg (nm _) (by omega) | exact nm_int (by omega) | exact nm_int (by simp [IntKind.wrap, IntKind.bits, IntKind.signed]; omega)) (trivial))))) (And.intro rfl (And.intro rfl (trivial)))
        rintro κ _ ⟨i, hi, hb2, rfl, rfl⟩
        refine awp_seq fun K8 hK8 => ?_
        refine awp_seq fun K9 hK9 => ?_
        refine awp_region rfl ?_
        refine o_mv (nm .i64 (i)) rfl ?_
        refine o_fieldRef 1 Gd.none Zb_tF27_1 rfl rfl ?_
        refine o_loadS (AV.sl 1 (is .i64 (c.regs))) Gd.none Zb_tS25 rfl rfl rfl ?_
        refine i_len (c.regs) Gd.none Zb_tU25 rfl ?_
        refine n_lss (i) ((c.regs).length) Gd.none rfl rfl ?_
        refine aops_end ?_
        refine hK9 _ ?_
        refine awp_condQ (q := (i) < ((c.regs).length)) rfl (fun h4 => ?_) (fun h4 => ?_)
        · refine awp_skip ?_
          refine hK8 _ ?_
          refine awp_seq fun K10 hK10 => ?_
          refine awp_block ?_
          refine awp_seq fun K11 hK11 => ?_
          refine awp_region rfl ?_
          refine o_fieldRef 1 Gd.none Zb_tF27_1 rfl rfl ?_
          refine o_loadS (AV.sl 1 (is .i64 (c.regs))) Gd.none Zb_tS25 rfl rfl rfl ?_
          refine o_mv (nm .i64 (i)) rfl ?_
          refine i_index (c.regs) (i) Gd.none Zb_tE25 rfl rfl (by omega) ?_
          refine i_loadI (c.regs) (i) Gd.none Zb_tS3 rfl (by omega) ?_
          refine o_gtr (a := ((c.regs).getD (i) 0)) (c := (((40 : Nat) : Int))) Gd.none rfl rfl ?_
          refine aops_end ?_
          refine hK11 _ ?_
          refine awp_condQ (q := (((40 : Nat) : Int)) < ((c.regs).getD (i) 0)) rfl (fun h5 => ?_) (fun h5 => ?_)
          · refine awp_seq fun K12 hK12 => ?_
            refine awp_region rfl ?_
            refine o_ct c_awake10 Gd.none Zb_tC6 rfl ?_
            refine o_as (AV.lit (.bool true)) rfl ?_
            refine aops_end ?_
            refine hK12 _ ?_
            refine awp_ret ?_
            refine post_ret ⟨[(AV.lit (.bool true))], And.intro (AV.le_refl _) (trivial), rfl, ?_⟩
            first | rfl | simp [bp]
          · refine awp_skip ?_
            refine hK10 _ ?_
            refine awp_region rfl ?_
            refine o_mv (nm .i64 (i)) rfl ?_
            refine n_add (i) (1) Gd.none rfl rfl (by simp only [topOf]; omega) ?_
            refine o_as (nm .i64 ((i) + (1))) rfl ?_
            refine aops_end ?_
            refine ⟨_, _, ?lt, ⟨i + 1, (by omega), (fun k hk => by rcases Nat.lt_or_ge k i with e | e; exact hb2 k e; rw [show k = i by omega]; omega), rfl, rfl⟩, ?wk⟩
            case lt => omega
            case wk => exact Wk.sub (And.intro rfl (And.intro rfl (And.intro rfl (And.intro (by first | rfl | exact congrArg (nm _) (by omega) | exact nm_int (by omega) | exact nm_int (by simp [IntKind.wrap, IntKind.bits, IntKind.signed]; omega)) (trivial))))) (And.intro rfl (And.intro rfl (trivial)))
        · refine awp_exit ?_
          refine hK6 _ ?_
          refine awp_seq fun K13 hK13 => ?_
          have hB : ∀ n ∈ c.regs, n ≤ 40 := fun n hn => by obtain ⟨j, hj, rfl⟩ := List.getElem_of_mem hn; have := hb2 j (by omega); rwa [List.getD_eq_getElem?_getD, List.getElem?_eq_getElem hj] at this
          obtain ⟨s1, s2, s3, s4, s5, s6, s7⟩ := stopsA hC hB hk0 hk2
          refine awp_region rfl ?_
          refine o_loadA [(AV.lit (.int .i64 (m.regs))), (AV.sl 4 (gcells cI (m.code)))] Gd.none Zb_tA24 rfl rfl rfl rfl rfl ?_
          refine o_ct (c_Compile m) Gd.none Zb_tC7 rfl ?_
          refine o_mv (AV.tup [(AV.sl 2 (gcells cF (cmpR m))), (nm .i64 (cmpE m))]) rfl ?_
          refine o_extract (AV.sl 2 (gcells cF (cmpR m))) Gd.none rfl rfl ?_
          refine o_extract (nm .i64 (cmpE m)) Gd.none rfl rfl ?_
          refine o_as (AV.sl 2 (gcells cF (cmpR m))) rfl ?_
          refine o_as (nm .i64 (cmpE m)) rfl ?_
          refine aops_end ?_
          refine hK13 _ ?_
          refine awp_seq fun K14 hK14 => ?_
          refine awp_region rfl ?_
          refine o_loadA [(AV.lit (.int .i64 (m.regs))), (AV.sl 4 (gcells cI (m.code)))] Gd.none Zb_tA24 rfl rfl rfl rfl rfl ?_
          refine o_loadA [(AV.lit (.int .i64 (c.at'))), (AV.sl 1 (is .i64 (c.regs)))] Gd.none Zb_tA27 rfl rfl rfl rfl rfl ?_
          refine o_ct (c_Encode m c) Gd.none Zb_tC8 rfl ?_
          refine o_mv (AV.tup [(AV.lit (.string (encS m c))), (nm .i64 (encE m c))]) rfl ?_
          refine o_extract (AV.lit (.string (encS m c))) Gd.none rfl rfl ?_
          refine o_extract (nm .i64 (encE m c)) Gd.none rfl rfl ?_
          refine o_as (AV.lit (.string (encS m c))) rfl ?_
          refine o_as (nm .i64 (encE m c)) rfl ?_
          refine aops_end ?_
          refine hK14 _ ?_
          refine awp_seq fun K15 hK15 => ?_
          refine awp_region rfl ?_
          refine o_loadA [(AV.lit (.int .i64 (m.regs))), (AV.sl 4 (gcells cI (m.code)))] Gd.none Zb_tA24 rfl rfl rfl rfl rfl ?_
          refine o_loadA [(AV.lit (.int .i64 (c.at'))), (AV.sl 1 (is .i64 (c.regs)))] Gd.none Zb_tA27 rfl rfl rfl rfl rfl ?_
          refine o_mv (AV.lit (.int .i64 (k))) rfl ?_
          refine o_ct (c_fRun m c (k)) Gd.none Zb_tC9 rfl ?_
          refine o_mv (AV.tup [(cfgV (rnA m c (k)).1), (nm .i64 ((rnA m c (k)).2.1)), (nm .i64 ((rnA m c (k)).2.2))]) rfl ?_
          refine o_extract (cfgV (rnA m c (k)).1) Gd.none rfl rfl ?_
          refine o_extract (nm .i64 ((rnA m c (k)).2.1)) Gd.none rfl rfl ?_
          refine o_extract (nm .i64 ((rnA m c (k)).2.2)) Gd.none rfl rfl ?_
          refine o_alloc 101 [(nm .i64 (0)), (AV.lit (.slice none 0 0))] Gd.none Zb_tO27 rfl rfl rfl ?_
          refine o_store [(101, (AO.var 27 [(AV.lit (.int .i64 ((rnA m c (k)).1.at'))), (AV.sl 1 (is .i64 ((rnA m c (k)).1.regs)))])), (2, (AO.var 24 [(AV.lit (.int .i64 (m.regs))), (AV.sl 4 (gcells cI (m.code)))])), (3, (AO.var 27 [(AV.lit (.int .i64 (c.at'))), (AV.sl 1 (is .i64 (c.regs)))]))] Gd.none Zb_tZ27 rfl rfl rfl rfl rfl rfl ?_
          refine o_as (nm .i64 ((rnA m c (k)).2.1)) rfl ?_
          refine o_as (nm .i64 ((rnA m c (k)).2.2)) rfl ?_
          refine aops_end ?_
          refine hK15 _ ?_
          refine awp_seq fun K16 hK16 => ?_
          refine awp_seq fun K17 hK17 => ?_
          refine awp_region rfl ?_
          refine o_mv (nm .i64 (cmpE m)) rfl ?_
          refine n_neq (cmpE m) (0) Gd.none rfl rfl ?_
          refine n_as (v' := (AV.lit (.bool false))) (by exact bpn (fun e => e s1)) ?_
          refine o_mv (AV.lit (.bool false)) rfl ?_
          refine o_move (nm .i64 (encE m c)) (Gd.yes rfl rfl rfl) rfl ?_
          refine n_neq (encE m c) (0) (Gd.yes rfl rfl rfl) rfl rfl ?_
          refine n_as (v' := (AV.lit (.bool false))) (by exact bpn (fun e => e s2)) ?_
          refine o_pickF (AV.lit (.bool false)) Gd.none rfl rfl rfl ?_
          refine o_mv (AV.lit (.bool false)) rfl ?_
          refine o_move (nm .i64 ((rnA m c (k)).2.2)) (Gd.yes rfl rfl rfl) rfl ?_
          refine n_neq ((rnA m c (k)).2.2) (0) (Gd.yes rfl rfl rfl) rfl rfl ?_
          refine n_as (v' := (AV.lit (.bool false))) (by exact bpn (fun e => e s3)) ?_
          refine o_pickF (AV.lit (.bool false)) Gd.none rfl rfl rfl ?_
          refine o_mv (AV.lit (.bool false)) rfl ?_
          refine o_move (nm .i64 ((rnA m c (k)).2.1)) (Gd.yes rfl rfl rfl) rfl ?_
          refine n_lss ((rnA m c (k)).2.1) (0) (Gd.yes rfl rfl rfl) rfl rfl ?_
          refine n_as (v' := (AV.lit (.bool false))) (by exact bpn (by omega)) ?_
          refine o_pickF (AV.lit (.bool false)) Gd.none rfl rfl rfl ?_
          refine o_mv (AV.lit (.bool false)) rfl ?_
          refine o_move (nm .i64 ((rnA m c (k)).2.1)) (Gd.yes rfl rfl rfl) rfl ?_
          refine o_move (AV.lit (.int .i64 (k))) (Gd.yes rfl rfl rfl) rfl ?_
          refine o_gtr (a := ((((rnA m c (k)).2.1 : Nat) : Int))) (c := (k)) (Gd.yes rfl rfl rfl) rfl rfl ?_
          refine n_as (v' := (AV.lit (.bool false))) (by exact bpn (by omega)) ?_
          refine o_pickF (AV.lit (.bool false)) Gd.none rfl rfl rfl ?_
          refine o_mv (AV.lit (.bool false)) rfl ?_
          refine o_move (nm .i64 ((rnA m c (k)).2.1)) (Gd.yes rfl rfl rfl) rfl ?_
          refine o_move (AV.lit (.int .i64 (k))) (Gd.yes rfl rfl rfl) rfl ?_
          refine o_lss (a := ((((rnA m c (k)).2.1 : Nat) : Int))) (c := (k)) (Gd.yes rfl rfl rfl) rfl rfl ?_
          refine o_move (bp (((((rnA m c (k)).2.1 : Nat) : Int)) < (k))) (Gd.yes rfl rfl rfl) rfl ?_
          refine o_splitP (q := ((((rnA m c (k)).2.1 : Nat) : Int)) < (k)) 89 rfl (fun h6 => ?_) (fun h6 => ?_)
          · refine o_fieldRef 0 (Gd.yes rfl rfl (decide_eq_true h6)) Zb_tF27_0 rfl rfl ?_
            refine o_loadS (AV.lit (.int .i64 ((rnA m c (k)).1.at'))) (Gd.yes rfl rfl (decide_eq_true h6)) Zb_tS3 rfl rfl rfl ?_
            refine o_fieldRef 1 (Gd.yes rfl rfl (decide_eq_true h6)) Zb_tF24_1 rfl rfl ?_
            refine o_loadS (AV.sl 4 (gcells cI (m.code))) (Gd.yes rfl rfl (decide_eq_true h6)) Zb_tS22 rfl rfl rfl ?_
            refine g_len cI (m.code) cI_len (Gd.yes rfl rfl (decide_eq_true h6)) Zb_tU22 rfl ?_
            refine o_neq (a := ((rnA m c (k)).1.at')) (c := ((((m.code).length : Nat) : Int))) (Gd.yes rfl rfl (decide_eq_true h6)) rfl rfl ?_
            refine n_as (v' := (AV.lit (.bool false))) (by exact bpn (fun e => e (s5 (by assumption)))) ?_
            refine o_pickT (AV.lit (.bool false)) (Gd.yes rfl rfl rfl) rfl (decide_eq_true h6) rfl ?_
            refine o_pickF (AV.lit (.bool false)) Gd.none rfl rfl rfl ?_
            refine aops_end ?_
            refine hK17 _ ?_
            refine awp_condB (b := false) rfl (fun hh => absurd (hh.symm.trans rfl) (by decide)) (fun _ => ?_)
            refine awp_skip ?_
            refine hK16 _ ?_
            refine awp_seq fun K18 hK18 => ?_
            refine awp_region rfl ?_
            refine o_loadA [(AV.lit (.int .i64 (m.regs))), (AV.sl 4 (gcells cI (m.code)))] Gd.none Zb_tA24 rfl rfl rfl rfl rfl ?_
            refine o_loadA [(AV.lit (.int .i64 ((rnA m c (k)).1.at'))), (AV.sl 1 (is .i64 ((rnA m c (k)).1.regs)))] Gd.none Zb_tA27 rfl rfl rfl rfl rfl ?_
            refine o_ct (c_Encode m (rnA m c (k)).1) Gd.none Zb_tC8 rfl ?_
            refine o_mv (AV.tup [(AV.lit (.string (encS m (rnA m c (k)).1))), (nm .i64 (encE m (rnA m c (k)).1))]) rfl ?_
            refine o_extract (AV.lit (.string (encS m (rnA m c (k)).1))) Gd.none rfl rfl ?_
            refine o_extract (nm .i64 (encE m (rnA m c (k)).1)) Gd.none rfl rfl ?_
            refine o_as (AV.lit (.string (encS m (rnA m c (k)).1))) rfl ?_
            refine o_as (nm .i64 (encE m (rnA m c (k)).1)) rfl ?_
            refine aops_end ?_
            refine hK18 _ ?_
            refine awp_seq fun K19 hK19 => ?_
            refine awp_region rfl ?_
            refine o_mv (AV.sl 2 (gcells cF (cmpR m))) rfl ?_
            refine o_mv (AV.lit (.string (encS m c))) rfl ?_
            refine o_mv (AV.lit (.int .i64 (k))) rfl ?_
            refine o_mul (a := (((2 : Nat) : Int))) (c := (k)) Gd.none rfl rfl (by exact wrap64 (by omega) (by omega)) ?_
            refine o_ct (c_Play (cmpR m) (encS m c) ((((2 : Nat) : Int)) * (k)) (by first | assumption | exact ex_sz) (by first | assumption | decide | omega)) Gd.none Zb_tC10 rfl ?_
            refine o_mv (AV.tup [(AV.lit (.string ((plyA (cmpR m) (encS m c) ((((2 : Nat) : Int)) * (k))).1))), (nm .i64 ((plyA (cmpR m) (encS m c) ((((2 : Nat) : Int)) * (k))).2.1)), (nm .i64 ((plyA (cmpR m) (encS m c) ((((2 : Nat) : Int)) * (k))).2.2))]) rfl ?_
            refine o_extract (AV.lit (.string ((plyA (cmpR m) (encS m c) ((((2 : Nat) : Int)) * (k))).1))) Gd.none rfl rfl ?_
            refine n_as (v' := (AV.lit (.string (encS m (rnA m c (k)).1)))) (by exact str_as2 (congrArg (fun q => q.1) s7)) ?_
            refine o_extract (nm .i64 ((plyA (cmpR m) (encS m c) ((((2 : Nat) : Int)) * (k))).2.1)) Gd.none rfl rfl ?_
            refine n_as (v' := (nm .i64 (2 * (rnA m c (k)).2.1))) (by exact congrArg (nm _) (congrArg (fun q => q.2.1) s7)) ?_
            refine o_extract (nm .i64 ((plyA (cmpR m) (encS m c) ((((2 : Nat) : Int)) * (k))).2.2)) Gd.none rfl rfl ?_
            refine n_as (v' := (nm .i64 (0))) (by exact congrArg (nm _) (congrArg (fun q => q.2.2) s7)) ?_
            refine o_as (AV.lit (.string (encS m (rnA m c (k)).1))) rfl ?_
            refine o_as (nm .i64 (2 * (rnA m c (k)).2.1)) rfl ?_
            refine o_as (nm .i64 (0)) rfl ?_
            refine aops_end ?_
            refine hK19 _ ?_
            refine awp_seq fun K20 hK20 => ?_
            refine awp_region rfl ?_
            refine o_mv (nm .i64 (encE m (rnA m c (k)).1)) rfl ?_
            refine n_eql (encE m (rnA m c (k)).1) (0) Gd.none rfl rfl ?_
            refine n_as (v' := (AV.lit (.bool true))) (by exact bpy s6) ?_
            refine o_mv (AV.lit (.bool true)) rfl ?_
            refine o_move (nm .i64 (0)) (Gd.yes rfl rfl rfl) rfl ?_
            refine n_eql (0) (0) (Gd.yes rfl rfl rfl) rfl rfl ?_
            refine o_pickT (bp ((0) = (0))) Gd.none rfl rfl rfl ?_
            refine o_mv (bp ((0) = (0))) rfl ?_
            refine o_move (AV.lit (.string (encS m (rnA m c (k)).1))) (Gd.yes rfl rfl (decide_eq_true (by decide))) rfl ?_
            refine o_move (AV.lit (.string (encS m (rnA m c (k)).1))) (Gd.yes rfl rfl (decide_eq_true (by decide))) rfl ?_
            refine o_eqlS (a := (encS m (rnA m c (k)).1)) (c := (encS m (rnA m c (k)).1)) (Gd.yes rfl rfl (decide_eq_true (by decide))) rfl rfl ?_
            refine o_pickT (bp ((encS m (rnA m c (k)).1).toList = (encS m (rnA m c (k)).1).toList)) Gd.none rfl (decide_eq_true (by decide)) rfl ?_
            refine o_mv (bp ((encS m (rnA m c (k)).1).toList = (encS m (rnA m c (k)).1).toList)) rfl ?_
            refine o_move (nm .i64 (2 * (rnA m c (k)).2.1)) (Gd.yes rfl rfl (decide_eq_true rfl)) rfl ?_
            refine o_move (nm .i64 ((rnA m c (k)).2.1)) (Gd.yes rfl rfl (decide_eq_true rfl)) rfl ?_
            refine n_mul (2) ((rnA m c (k)).2.1) (Gd.yes rfl rfl (decide_eq_true rfl)) rfl rfl (by simp only [topOf]; omega) ?_
            refine n_eql (2 * (rnA m c (k)).2.1) ((2) * ((rnA m c (k)).2.1)) (Gd.yes rfl rfl (decide_eq_true rfl)) rfl rfl ?_
            refine n_as (v' := (AV.lit (.bool true))) (by exact bpy (by first | rfl | omega)) ?_
            refine o_pickT (AV.lit (.bool true)) Gd.none rfl (decide_eq_true rfl) rfl ?_
            refine o_mv (AV.lit (.bool true)) rfl ?_
            refine o_ct c_awake10 (Gd.yes rfl rfl rfl) Zb_tC6 rfl ?_
            refine o_pickT (AV.lit (.bool true)) Gd.none rfl rfl rfl ?_
            refine o_as (AV.lit (.bool true)) rfl ?_
            refine aops_end ?_
            refine hK20 _ ?_
            refine awp_ret ?_
            refine post_ret ⟨[(AV.lit (.bool true))], And.intro (AV.le_refl _) (trivial), rfl, ?_⟩
            first | rfl | simp [bp]
          · refine o_skip rfl rfl (decide_eq_false h6) ?_
            refine o_skip rfl rfl (decide_eq_false h6) ?_
            refine o_skip rfl rfl (decide_eq_false h6) ?_
            refine o_skip rfl rfl (decide_eq_false h6) ?_
            refine o_skip rfl rfl (decide_eq_false h6) ?_
            refine o_skip rfl rfl (decide_eq_false h6) ?_
            refine o_pickF (AV.lit (.bool false)) (Gd.yes rfl rfl rfl) rfl (decide_eq_false h6) rfl ?_
            refine o_pickF (AV.lit (.bool false)) Gd.none rfl rfl rfl ?_
            refine aops_end ?_
            refine hK17 _ ?_
            refine awp_condB (b := false) rfl (fun hh => absurd (hh.symm.trans rfl) (by decide)) (fun _ => ?_)
            refine awp_skip ?_
            refine hK16 _ ?_
            refine awp_seq fun K21 hK21 => ?_
            refine awp_region rfl ?_
            refine o_loadA [(AV.lit (.int .i64 (m.regs))), (AV.sl 4 (gcells cI (m.code)))] Gd.none Zb_tA24 rfl rfl rfl rfl rfl ?_
            refine o_loadA [(AV.lit (.int .i64 ((rnA m c (k)).1.at'))), (AV.sl 1 (is .i64 ((rnA m c (k)).1.regs)))] Gd.none Zb_tA27 rfl rfl rfl rfl rfl ?_
            refine o_ct (c_Encode m (rnA m c (k)).1) Gd.none Zb_tC8 rfl ?_
            refine o_mv (AV.tup [(AV.lit (.string (encS m (rnA m c (k)).1))), (nm .i64 (encE m (rnA m c (k)).1))]) rfl ?_
            refine o_extract (AV.lit (.string (encS m (rnA m c (k)).1))) Gd.none rfl rfl ?_
            refine o_extract (nm .i64 (encE m (rnA m c (k)).1)) Gd.none rfl rfl ?_
            refine o_as (AV.lit (.string (encS m (rnA m c (k)).1))) rfl ?_
            refine o_as (nm .i64 (encE m (rnA m c (k)).1)) rfl ?_
            refine aops_end ?_
            refine hK21 _ ?_
            refine awp_seq fun K22 hK22 => ?_
            refine awp_region rfl ?_
            refine o_mv (AV.sl 2 (gcells cF (cmpR m))) rfl ?_
            refine o_mv (AV.lit (.string (encS m c))) rfl ?_
            refine o_mv (AV.lit (.int .i64 (k))) rfl ?_
            refine o_mul (a := (((2 : Nat) : Int))) (c := (k)) Gd.none rfl rfl (by exact wrap64 (by omega) (by omega)) ?_
            refine o_ct (c_Play (cmpR m) (encS m c) ((((2 : Nat) : Int)) * (k)) (by first | assumption | exact ex_sz) (by first | assumption | decide | omega)) Gd.none Zb_tC10 rfl ?_
            refine o_mv (AV.tup [(AV.lit (.string ((plyA (cmpR m) (encS m c) ((((2 : Nat) : Int)) * (k))).1))), (nm .i64 ((plyA (cmpR m) (encS m c) ((((2 : Nat) : Int)) * (k))).2.1)), (nm .i64 ((plyA (cmpR m) (encS m c) ((((2 : Nat) : Int)) * (k))).2.2))]) rfl ?_
            refine o_extract (AV.lit (.string ((plyA (cmpR m) (encS m c) ((((2 : Nat) : Int)) * (k))).1))) Gd.none rfl rfl ?_
            refine n_as (v' := (AV.lit (.string (encS m (rnA m c (k)).1)))) (by exact str_as2 (congrArg (fun q => q.1) s7)) ?_
            refine o_extract (nm .i64 ((plyA (cmpR m) (encS m c) ((((2 : Nat) : Int)) * (k))).2.1)) Gd.none rfl rfl ?_
            refine n_as (v' := (nm .i64 (2 * (rnA m c (k)).2.1))) (by exact congrArg (nm _) (congrArg (fun q => q.2.1) s7)) ?_
            refine o_extract (nm .i64 ((plyA (cmpR m) (encS m c) ((((2 : Nat) : Int)) * (k))).2.2)) Gd.none rfl rfl ?_
            refine n_as (v' := (nm .i64 (0))) (by exact congrArg (nm _) (congrArg (fun q => q.2.2) s7)) ?_
            refine o_as (AV.lit (.string (encS m (rnA m c (k)).1))) rfl ?_
            refine o_as (nm .i64 (2 * (rnA m c (k)).2.1)) rfl ?_
            refine o_as (nm .i64 (0)) rfl ?_
            refine aops_end ?_
            refine hK22 _ ?_
            refine awp_seq fun K23 hK23 => ?_
            refine awp_region rfl ?_
            refine o_mv (nm .i64 (encE m (rnA m c (k)).1)) rfl ?_
            refine n_eql (encE m (rnA m c (k)).1) (0) Gd.none rfl rfl ?_
            refine n_as (v' := (AV.lit (.bool true))) (by exact bpy s6) ?_
            refine o_mv (AV.lit (.bool true)) rfl ?_
            refine o_move (nm .i64 (0)) (Gd.yes rfl rfl rfl) rfl ?_
            refine n_eql (0) (0) (Gd.yes rfl rfl rfl) rfl rfl ?_
            refine o_pickT (bp ((0) = (0))) Gd.none rfl rfl rfl ?_
            refine o_mv (bp ((0) = (0))) rfl ?_
            refine o_move (AV.lit (.string (encS m (rnA m c (k)).1))) (Gd.yes rfl rfl (decide_eq_true (by decide))) rfl ?_
            refine o_move (AV.lit (.string (encS m (rnA m c (k)).1))) (Gd.yes rfl rfl (decide_eq_true (by decide))) rfl ?_
            refine o_eqlS (a := (encS m (rnA m c (k)).1)) (c := (encS m (rnA m c (k)).1)) (Gd.yes rfl rfl (decide_eq_true (by decide))) rfl rfl ?_
            refine o_pickT (bp ((encS m (rnA m c (k)).1).toList = (encS m (rnA m c (k)).1).toList)) Gd.none rfl (decide_eq_true (by decide)) rfl ?_
            refine o_mv (bp ((encS m (rnA m c (k)).1).toList = (encS m (rnA m c (k)).1).toList)) rfl ?_
            refine o_move (nm .i64 (2 * (rnA m c (k)).2.1)) (Gd.yes rfl rfl (decide_eq_true rfl)) rfl ?_
            refine o_move (nm .i64 ((rnA m c (k)).2.1)) (Gd.yes rfl rfl (decide_eq_true rfl)) rfl ?_
            refine n_mul (2) ((rnA m c (k)).2.1) (Gd.yes rfl rfl (decide_eq_true rfl)) rfl rfl (by simp only [topOf]; omega) ?_
            refine n_eql (2 * (rnA m c (k)).2.1) ((2) * ((rnA m c (k)).2.1)) (Gd.yes rfl rfl (decide_eq_true rfl)) rfl rfl ?_
            refine n_as (v' := (AV.lit (.bool true))) (by exact bpy (by first | rfl | omega)) ?_
            refine o_pickT (AV.lit (.bool true)) Gd.none rfl (decide_eq_true rfl) rfl ?_
            refine o_mv (AV.lit (.bool true)) rfl ?_
            refine o_ct c_awake10 (Gd.yes rfl rfl rfl) Zb_tC6 rfl ?_
            refine o_pickT (AV.lit (.bool true)) Gd.none rfl rfl rfl ?_
            refine o_as (AV.lit (.bool true)) rfl ?_
            refine aops_end ?_
            refine hK23 _ ?_
            refine awp_ret ?_
            refine post_ret ⟨[(AV.lit (.bool true))], And.intro (AV.le_refl _) (trivial), rfl, ?_⟩
            first | rfl | simp [bp]

end Go.Proofs.YtpamhblonmpniaaDoor

set_option linter.unusedVariables false
namespace Go.Proofs.YtpamhblonmpniaaDoor.fractionStops
open Go Go.Ab Go.Mth Go.ChangeShapes Go.WideShapes Go.ChangeAt Go.RowKit
theorem reads (os : Os) {H : Type} (enc : TypeId × Value → H) : ∃ places, DataW.whole enc Tryd.prog ((World.laidAll Tryd.prog os laid5).forCall (fun _ _ => 0) ⟨#[], #[.agg #[.int .i64 0, .slice none 0 0], .agg #[.int .i64 0, .slice none 0 0], .int .i64 0], []⟩).memory Tryd.f3.params.toList Rows.fractionStopsSpec.vars false (#[.agg #[.int .i64 0, .slice none 0 0], .agg #[.int .i64 0, .slice none 0 0], .int .i64 0] : Array Value).toList 8 = some ([.agg [.lit (.int .i64 0), .nil], .agg [.lit (.int .i64 0), .nil], .lit (.int .i64 0)], [], places) := ⟨[], by kernel_rfl⟩
theorem met (os : Os) : laidMetH Tryd.prog laid5 ((World.laidAll Tryd.prog os laid5).forCall (fun _ _ => 0) ⟨#[], #[.agg #[.int .i64 0, .slice none 0 0], .agg #[.int .i64 0, .slice none 0 0], .int .i64 0], []⟩).memory := (MakeChecks.laidMetH_plain _ _ _ (by kernel_rfl)).mpr (laidMet_laidAll _ (by kernel_rfl) (by kernel_rfl))
theorem specs {H : Type} (ds : List (DataW H)) (h : ds.length = 3) : (Rows.fractionStopsSpec.fn H ds).results = [.lit (.bool true)] ∧ (Rows.fractionStopsSpec.fn H ds).args = ds ∧ (Rows.fractionStopsSpec.fn H ds).vars = [] := by
  rcases ds with _ | ⟨d0, _ | ⟨d1, _ | ⟨d2, _ | ⟨e, t⟩⟩⟩⟩ <;> simp at h <;> exact ⟨rfl, rfl, rfl⟩
set_option maxRecDepth 100000 in
theorem opened {H : Type} (enc : TypeId × Value → H) (W : World) (base : Nat) (args : Array Value) (ds : List (DataW H)) (ps : List MemPlace) (hval : ∀ (j : Nat) t v, (#[24, 27, 3] : Array TypeId)[j]? = some t → args[j]? = some v → Value.okWide Tryd.prog W .any base t v)
    (hA : DataW.TrodAll enc Tryd.prog W 0 (fun _ => true) true [24, 27, 3] args.toList ds ps) (hsz : (DataW.weightsEach Tryd.prog [24, 27, 3] ds).all (· ≤ reachBytes) = true) : ∃ xs, RepL (memOf W) xs noLoc args.toList ∧ ECalls cx 3 xs (.lit (.bool true)) := by
  obtain ⟨v0, vs0, d0, ds0, p0, q0, hargs, rfl, rfl, h0, r0⟩ := trodAll_cons hA
  obtain ⟨v1, vs1, d1, ds1, p1, q1, rfl, rfl, rfl, h1, r1⟩ := trodAll_cons r0
  obtain ⟨v2, vs2, d2, ds2, p2, q2, rfl, rfl, rfl, h2, r2⟩ := trodAll_cons r1
  obtain ⟨rfl, rfl, rfl⟩ := trodAll_nil r2
  obtain rfl : args = #[v0, v1, v2] := by cases args; simp_all
  obtain ⟨m0, e0, bq0⟩ := rep_mac (hval 0 24 v0 rfl rfl) h0 (fun n hn => by simpa using List.all_eq_true.1 hsz n (DataW.weights_mem_each (j := 0) rfl rfl n hn))
  obtain ⟨c1, e1, bq1⟩ := rep_cfg (hval 1 27 v1 rfl rfl) h1 (fun n hn => by simpa using List.all_eq_true.1 hsz n (DataW.weights_mem_each (j := 1) rfl rfl n hn))
  obtain ⟨k2, e2, b2⟩ := rep_int (hval 2 3 v2 rfl rfl) h2
  exact ⟨[macV m0, cfgV c1, .lit (.int .i64 k2)], RepL.cons e0 (RepL.cons e1 (RepL.cons e2 (by simp only [RepL]))), c_FractionStops m0 c1 k2 bq0 bq1⟩
set_option maxRecDepth 100000 in
theorem lifted (os : Os) (started : os.Started) (H : Type) (enc : TypeId × Value → H) (F : Stop.Interp) :
    ReturnsInHanded {} Tryd.checked os 3 .any ((OpenSpec.ofChange Rows.fractionStopsSpec).preRow enc Tryd.prog Tryd.f3 Rows.fractionStopsRow.domain false Rows.fractionStopsRow.laid) (((OpenSpec.ofChange Rows.fractionStopsSpec).at F).post enc Tryd.prog Tryd.f3 false true false false) := by
  obtain ⟨places, hx⟩ := reads os enc
  refine lifted_of (C := Tryd.checked) started cx rfl ownT (by kernel_rfl) Tryd.func3 (witness_laid #[.agg #[.int .i64 0, .slice none 0 0], .agg #[.int .i64 0, .slice none 0 0], .int .i64 0] (by kernel_rfl) (by kernel_rfl) (by kernel_rfl) (OpenSpec.preRow_of_cond 8 hx (by kernel_rfl) (fun k hk => by cases hk) (by kernel_rfl) (met os))) laidOutT (by kernel_rfl) (tb := 4) (by kernel_rfl) u4T rfl (fun ds h => specs ds (h.trans (by kernel_rfl))) (fun W h => tabG_of h) ?_
  intro W base args ds ps hval hA hsz
  exact opened enc W base args ds ps hval hA hsz
theorem said : Rows.FractionStopsSaid :=
  OpenClaim.holds_of_cond 3 Tryd.f3 rfl rfl rfl rfl rfl rfl rfl ⟨rfl, rfl, rfl, rfl, rfl⟩ rfl rfl rfl rfl rfl (by kernel_rfl) Tryd.func3 (by kernel_rfl)
    (of_decide_eq_true (by kernel_rfl)) (by unfold Func.isWrapper; first | (rw [if_pos (by decide +kernel)]; kernel_rfl) | (rw [if_neg (by decide +kernel)]; exact ⟨rfl, rfl⟩))
    (fun os started H enc _ F => by rw [OpenClaim.pre_eq_preRow]; exact lifted os started H enc F)
theorem plain (f : FuncId) (fn : Func) (hf : Tryd.pinned.checked.prog.funcNamed "katabasis/katabasislaw10.FractionStops" = some f) (hfn : Tryd.pinned.checked.prog.funcs[f]? = some fn) :
    true = Tryd.pinned.checked.prog.looks [] ∧ ∀ (j : Nat) t, fn.params[j]? = some t → Tryd.pinned.checked.prog.wantsStandIn t = false := by
  obtain rfl : f = 3 := Option.some.inj ((show Tryd.prog.funcNamed "katabasis/katabasislaw10.FractionStops" = some 3 by kernel_rfl).symm.trans hf) |>.symm
  obtain rfl : fn = Tryd.f3 := (Option.some.inj (Tryd.func3.symm.trans hfn)).symm
  refine ⟨by kernel_rfl, fun j t ht => ?_⟩
  rw [Tryd.params3] at ht
  have : t = 24 ∨ t = 27 ∨ t = 3 := by have h := Array.mem_of_getElem? ht; simp at h; first | exact h | (rcases h with h | h | h | h <;> simp [h]) | (rcases h with h | h | h <;> simp [h]) | (rcases h with h | h <;> simp [h])
  rcases this with rfl | rfl | rfl
  · exact (show Tryd.prog.wantsStandIn 24 = false by kernel_rfl)
  · exact (show Tryd.prog.wantsStandIn 27 = false by kernel_rfl)
  · exact (show Tryd.prog.wantsStandIn 3 = false by kernel_rfl)
end Go.Proofs.YtpamhblonmpniaaDoor.fractionStops
namespace Go.Proofs.YtpamhblonmpniaaDoor
open Go
theorem fractionStops_holds : Rows.FractionStopsCardSaid :=
  Claim7.holds_tied_plain_at .later [] _ _ _ _ fractionStops.said (fun _ h => by cases h) (by kernel_rfl) (fun _ h => by cases h) fractionStops_row_tie rfl ⟨rfl, rfl⟩ (by kernel_rfl) rfl fractionStops.plain (by kernel_rfl)
#print axioms fractionStops_holds
end Go.Proofs.YtpamhblonmpniaaDoor

