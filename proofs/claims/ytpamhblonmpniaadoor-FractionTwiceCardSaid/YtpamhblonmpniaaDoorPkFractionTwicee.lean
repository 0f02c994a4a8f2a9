/- The law 'katabasislaw10.FractionTwice' is true for every machine and configuration: two steps of the fractions are one step of the machine, the number between is that of no configuration, and the fractions stop exactly where the machine does. Its condition: none but the row's own (the listed tables of the library). -/
import Derived.Test.YtpamhblonmpniaaDoorPkFractionTwiced
set_option linter.unusedVariables false
set_option linter.unusedSimpArgs false
namespace Go.Proofs.YtpamhblonmpniaaDoor
open Go Go.Ab Go.Mth
theorem Ys_tC23 : callable cx.P 23 = true := by kernel_rfl
theorem Ys_tC49 : callable cx.P 49 = true := by kernel_rfl
theorem c_split (n : ByteArray) (p : Nat) (ho : okS n = true) (h0 : 0 < numS n) (hn : n.size ≤ 9223372036854775807) (hp2 : 2 ≤ p) (hp3 : p ≤ 113) : ECalls cx 31 [(AV.lit (.string (n))), (nm .i64 (p))] (.tup [nm .i64 (spN p (numS n).toNat).1, .lit (.string (txt (((spN p (numS n).toNat).2 : Nat) : Int)))]) := by
  refine ecalls_of_awp Tryd.func31 (c := _) rfl (Nat.le_of_ble_eq_true rfl) ?_
  show awp cx 25 _ (postF cx Tryd.f31 _) ⟨[(0, (AV.lit (.string (n)))), (1, (nm .i64 (p)))], []⟩
  have hpf := fit_113 hp3
  have hps := txt_sz2 hpf
  have hpo := okS_iff.2 (okS_txt hpf)
  have hfn := fit_numS (okS_iff.1 ho)
  refine awp_seq fun K0 hK0 => ?_
  refine awp_region rfl ?_
  refine o_as (nm .i64 (0)) rfl ?_
  refine o_as (AV.lit (.string (({data := #[]} : ByteArray)))) rfl ?_
  refine aops_end ?_
  refine hK0 _ ?_
  refine awp_seq fun K1 hK1 => ?_
  refine awp_region rfl ?_
  refine o_as (nm .i64 (0)) rfl ?_
  refine aops_end ?_
  refine hK1 _ ?_
  refine awp_block ?_
  refine awp_loopR (fun κ σ => ∃ (i : Nat), ∃ (s : ByteArray), ∃ (w : Nat), (spN p (numS n).toNat = ((spN p w).1 + i, (spN p w).2)) ∧ (numS s = ((w : Nat) : Int)) ∧ (okS s = true) ∧ (0 < w) ∧ (s.size ≤ 9223372036854775807) ∧ (2 ^ i * w ≤ (numS n).toNat) ∧ (w) = κ ∧ σ = ⟨[(0, (AV.lit (.string (s)))), (1, (nm .i64 (p))), (6, (nm .i64 (i)))], []⟩) ⟨_, _, ⟨0, n, (numS n).toNat, rfl, (by omega), ho, (by omega), hn, (by rw [Nat.pow_zero, Nat.one_mul]; exact Nat.le_refl _), rfl, rfl⟩, ?wk0⟩ ?rd0
  case wk0 =>
    exact Wk.sub (And.intro (by first | rfl | (simp)) (And.intro rfl (And.intro (by first | rfl | exact congrArg (nm _) (by omega) | exact nm_int (by omega) | exact nm_int (by simp [IntKind.wrap, IntKind.bits, IntKind.signed]; omega)) (trivial)))) (trivial)
  rintro κ _ ⟨i, s, w, hp, hw, hos, hw0, hs, hc, rfl, rfl⟩
  have hd := div_yes (a := s) (b := txt ((p : Nat) : Int)) ⟨hos, hpo⟩ (by rw [numS_txt]; omega)
  have hq : divQ s (txt ((p : Nat) : Int)) = txt ((w / p : Nat) : Int) := by rw [hd.1, numS_txt, hw]; rfl
  have hz : (divR s (txt ((p : Nat) : Int))).toList = ByteArray.toList ⟨#[48]⟩ ↔ w % p = 0 := by rw [hd.2.1, numS_txt, hw, str_eq, ← txt_zero]; exact ⟨fun e => by have q := txt_inj e; omega, fun e => by rw [show ((w : Nat) : Int) % ((p : Nat) : Int) = 0 by omega]⟩
  have hib := spl_bd hw0 hc hfn
  refine awp_seq fun K2 hK2 => ?_
  refine awp_block ?_
  refine awp_seq fun K3 hK3 => ?_
  refine awp_region rfl ?_
  refine o_mv (AV.lit (.string (s))) rfl ?_
  refine o_mv (nm .i64 (p)) rfl ?_
  refine o_ct (c_itoa (p) (by omega)) Gd.none Ys_tC23 rfl ?_
  refine o_ct (c_nDivide (s) (txt ((p : Nat) : Int)) (by first | assumption | decide | omega) (by first | assumption | decide | omega)) Gd.none Ys_tC49 rfl ?_
  refine o_mv (AV.tup [(AV.lit (.string (divQ (s) (txt ((p : Nat) : Int))))), (AV.lit (.string (divR (s) (txt ((p : Nat) : Int))))), (nm .i64 (divE (s) (txt ((p : Nat) : Int))))]) rfl ?_
  refine o_extract (AV.lit (.string (divQ (s) (txt ((p : Nat) : Int))))) Gd.none rfl rfl ?_
  refine n_as (v' := (AV.lit (.string (txt ((w / p : Nat) : Int))))) (by exact str_as2 hq) ?_
  refine o_extract (AV.lit (.string (divR (s) (txt ((p : Nat) : Int))))) Gd.none rfl rfl ?_
  refine o_extract (nm .i64 (divE (s) (txt ((p : Nat) : Int)))) Gd.none rfl rfl ?_
  refine o_as (AV.lit (.string (txt ((w / p : Nat) : Int)))) rfl ?_
  refine o_as (AV.lit (.string (divR (s) (txt ((p : Nat) : Int))))) rfl ?_
  refine o_as (nm .i64 (divE (s) (txt ((p : Nat) : Int)))) rfl ?_
  refine aops_end ?_
  refine hK3 _ ?_
  refine awp_seq fun K4 hK4 => ?_
  refine awp_seq fun K5 hK5 => ?_
  refine awp_region rfl ?_
  refine o_mv (AV.lit (.string (divR (s) (txt ((p : Nat) : Int))))) rfl ?_
  refine o_neqS (a := (divR (s) (txt ((p : Nat) : Int)))) (c := (({data := #[48]} : ByteArray))) Gd.none rfl rfl ?_
  refine n_as (v' := (bp (w % p ≠ 0))) (by exact bpc (not_congr hz)) ?_
  refine aops_end ?_
  refine hK5 _ ?_
  refine awp_condQ (q := w % p ≠ 0) rfl (fun h1 => ?_) (fun h1 => ?_)
  · refine awp_seq fun K6 hK6 => ?_
    refine awp_region rfl ?_
    refine o_mv (nm .i64 (i)) rfl ?_
    refine o_mv (AV.lit (.string (s))) rfl ?_
    refine o_as (nm .i64 (i)) rfl ?_
    refine o_as (AV.lit (.string (s))) rfl ?_
    refine aops_end ?_
    refine hK6 _ ?_
    refine awp_ret ?_
    refine post_ret ⟨[(nm .i64 (i)), (AV.lit (.string (s)))], And.intro (AV.le_refl _) (And.intro (AV.le_refl _) (trivial)), rfl, ?_⟩
    rw [hp, spN_no (by assumption)]; show _ = AV.tup [nm .i64 i, .lit (.string s)]; rw [show s = txt ((w : Nat) : Int) by rw [← hw]; exact (txt_numS (okS_iff.1 hos)).symm]; simp
  · refine awp_skip ?_
    refine hK4 _ ?_
    refine awp_region rfl ?_
    refine o_mv (AV.lit (.string (txt ((w / p : Nat) : Int)))) rfl ?_
    refine o_as (AV.lit (.string (txt ((w / p : Nat) : Int)))) rfl ?_
    refine aops_end ?_
    refine hK2 _ ?_
    refine awp_region rfl ?_
    refine o_mv (nm .i64 (i)) rfl ?_
    refine n_add (i) (1) Gd.none rfl rfl (by simp only [topOf]; omega) ?_
    refine o_as (nm .i64 ((i) + (1))) rfl ?_
    refine aops_end ?_
    have hm : w % p = 0 := Decidable.not_not.1 (by assumption)
    have hdl : w / p < w := Nat.div_lt_self hw0 (by omega)
    have hdp : 0 < w / p := Nat.div_pos (Nat.le_of_dvd hw0 (Nat.dvd_of_mod_eq_zero hm)) (by omega)
    have hFq : Fit ((w / p : Nat) : Int) := fit_le (y := numS s) (by rw [hw]; omega) (fit_numS (okS_iff.1 hos))
    refine ⟨_, _, ?lt, ⟨i + 1, txt ((w / p : Nat) : Int), w / p, (by rw [hp, spN_yes hp2 hw0 hm, Nat.add_assoc, Nat.add_comm 1 i]), (numS_txt _), (okS_iff.2 (okS_txt hFq)), hdp, (txt_sz2 hFq), (spl_step hp2 hm hc), rfl, rfl⟩, ?wk⟩
    case lt => omega
    case wk => exact Wk.sub (And.intro (by first | rfl | (simp)) (And.intro rfl (And.intro (by first | rfl | exact congrArg (nm _) (by omega) | exact nm_int (by omega) | exact nm_int (by simp [IntKind.wrap, IntKind.bits, IntKind.signed]; omega)) (trivial)))) (trivial)

end Go.Proofs.YtpamhblonmpniaaDoor

set_option linter.unusedVariables false
set_option linter.unusedSimpArgs false
namespace Go.Proofs.YtpamhblonmpniaaDoor
open Go Go.Ab Go.Mth
theorem Yw_tO27 : tyZero cx.P 27 = some [(Go.Value.int IntKind.i64 0), (Go.Value.slice none 0 0)] := by kernel_rfl
theorem Yw_tA24 : tyAgg cx.P 24 = some 2 := by kernel_rfl
theorem Yw_tC17 : callable cx.P 17 = true := by kernel_rfl
theorem Yw_tP27 : tyPlaces cx.P 27 = some (fun i => (#[(0, 1), (1, 1)] : Array (Nat × Nat))[i]?) := by kernel_rfl
theorem Yw_tZ27 : tySize cx.P 27 = some 2 := by kernel_rfl
theorem Yw_tA27 : tyAgg cx.P 27 = some 2 := by kernel_rfl
theorem Yw_tC30 : callable cx.P 30 = true := by kernel_rfl
theorem Yw_tF24_0 : tyField cx.P 24 0 = some (0, 3) := by kernel_rfl
theorem Yw_tS3 : tySc cx.P 3 = true := by kernel_rfl
theorem Yw_tC18 : callable cx.P 18 = true := by kernel_rfl
theorem Yw_tR53 : tyArr cx.P 53 = some (30, 3, 1) := by kernel_rfl
theorem Yw_tC31 : callable cx.P 31 = true := by kernel_rfl
theorem Yw_tF27_1 : tyField cx.P 27 1 = some (1, 25) := by kernel_rfl
theorem Yw_tS25 : tySc cx.P 25 = true := by kernel_rfl
theorem Yw_tE25 : tyElem cx.P 25 = some (3, 1, 8) := by kernel_rfl
theorem Yw_tO3 : tyZero cx.P 3 = some [(Go.Value.int IntKind.i64 0)] := by kernel_rfl
theorem Yw_tZ25 : tySize cx.P 25 = some 1 := by kernel_rfl
theorem Yw_tF24_1 : tyField cx.P 24 1 = some (1, 22) := by kernel_rfl
theorem Yw_tS22 : tySc cx.P 22 = true := by kernel_rfl
theorem Yw_tU22 : cx.P.underlying 22 = some (.slice 52) := by kernel_rfl
theorem Yw_tC21 : callable cx.P 21 = true := by kernel_rfl
theorem Yw_tC23 : callable cx.P 23 = true := by kernel_rfl
theorem Yw_tF27_0 : tyField cx.P 27 0 = some (0, 3) := by kernel_rfl
theorem Yw_tZ3 : tySize cx.P 3 = some 1 := by kernel_rfl
theorem Yw_tC22 : callable cx.P 22 = true := by kernel_rfl
theorem c_Decode (m : Mac) (n : ByteArray) (hn : n.size ≤ 9223372036854775807) : ECalls cx 13 [(macV m), (AV.lit (.string (n)))] (.tup [cfgV (decV m n), nm .i64 (decE m n)]) := by
  refine ecalls_of_awp Tryd.func13 (c := _) rfl (Nat.le_of_ble_eq_true rfl) ?_
  show awp cx 62 _ (postF cx Tryd.f13 _) ⟨[(0, (macV m)), (1, (AV.lit (.string (n))))], []⟩
  refine awp_seq fun K0 hK0 => ?_
  refine awp_region rfl ?_
  refine o_box 2 [(AV.lit (.int .i64 (m.regs))), (AV.sl 4 (gcells cI (m.code)))] Gd.none rfl rfl ?_
  refine o_alloc 3 [(nm .i64 (0)), (AV.lit (.slice none 0 0))] Gd.none Yw_tO27 rfl rfl rfl ?_
  refine o_as (nm .i64 (0)) rfl ?_
  refine aops_end ?_
  refine hK0 _ ?_
  refine awp_seq fun K1 hK1 => ?_
  refine awp_seq fun K2 hK2 => ?_
  refine awp_region rfl ?_
  refine o_loadA [(AV.lit (.int .i64 (m.regs))), (AV.sl 4 (gcells cI (m.code)))] Gd.none Yw_tA24 rfl rfl rfl rfl rfl ?_
  refine o_ct (c_fValid m) Gd.none Yw_tC17 rfl ?_
  refine o_notP (q := okMac m) Gd.none rfl ?_
  refine aops_end ?_
  refine hK2 _ ?_
  refine awp_condQ (q := ¬ (okMac m)) rfl (fun h1 => ?_) (fun h1 => ?_)
  · refine awp_seq fun K3 hK3 => ?_
    refine awp_region rfl ?_
    refine o_build [(nm .i64 (0)), (AV.lit (.slice none 0 0))] [] Gd.none Yw_tP27 Yw_tO27 rfl rfl rfl ?_
    refine o_store [(3, (AO.var 27 [(nm .i64 (0)), (AV.lit (.slice none 0 0))])), (2, (AO.var 24 [(AV.lit (.int .i64 (m.regs))), (AV.sl 4 (gcells cI (m.code)))]))] Gd.none Yw_tZ27 rfl rfl rfl rfl rfl rfl ?_
    refine o_as (nm .i64 (1)) rfl ?_
    refine aops_end ?_
    refine hK3 _ ?_
    refine awp_ret ?_
    refine post_ret ⟨[(AV.agg [(AV.lit (.int .i64 (0))), (AV.sl 1 (is .i64 ([])))]), (nm .i64 (1))], And.intro ⟨3, (AO.var 27 [(nm .i64 (0)), (AV.lit (.slice none 0 0))]), rfl, rfl, rfl, Or.inl ⟨Yw_tA27, AV.le_agg (LeL.cons (AV.le_refl _) (LeL.cons (AV.le_nil' (by decide) (by first | rfl | simp [digs_zero, ns, is])) (LeL.nil)))⟩⟩ (And.intro (AV.le_refl _) (trivial)), rfl, ?_⟩
    rw [decV, decE, if_neg h1, if_neg h1]; rfl
  · have hM : okMac m := Decidable.not_not.1 h1
    have hM2 := hM
    obtain ⟨o1, o2, o3, o4, o5⟩ := hM2
    refine awp_skip ?_
    refine hK1 _ ?_
    refine awp_seq fun K4 hK4 => ?_
    refine awp_seq fun K5 hK5 => ?_
    refine awp_region rfl ?_
    refine o_mv (AV.lit (.string (n))) rfl ?_
    refine o_ct (c_positive (n) (by first | assumption | decide | omega)) Gd.none Yw_tC30 rfl ?_
    refine o_as (nm .i64 (posE (n))) rfl ?_
    refine aops_end ?_
    refine hK5 _ ?_
    refine awp_seq fun K6 hK6 => ?_
    refine awp_region rfl ?_
    refine o_mv (nm .i64 (posE (n))) rfl ?_
    refine n_neq (posE (n)) (0) Gd.none rfl rfl ?_
    refine aops_end ?_
    refine hK6 _ ?_
    refine awp_condQ (q := (posE (n)) ≠ (0)) rfl (fun h2 => ?_) (fun h2 => ?_)
    · refine awp_seq fun K7 hK7 => ?_
      refine awp_region rfl ?_
      refine o_build [(nm .i64 (0)), (AV.lit (.slice none 0 0))] [] Gd.none Yw_tP27 Yw_tO27 rfl rfl rfl ?_
      refine o_mv (nm .i64 (posE (n))) rfl ?_
      refine o_store [(3, (AO.var 27 [(nm .i64 (0)), (AV.lit (.slice none 0 0))])), (2, (AO.var 24 [(AV.lit (.int .i64 (m.regs))), (AV.sl 4 (gcells cI (m.code)))]))] Gd.none Yw_tZ27 rfl rfl rfl rfl rfl rfl ?_
      refine o_as (nm .i64 (posE (n))) rfl ?_
      refine aops_end ?_
      refine hK7 _ ?_
      refine awp_ret ?_
      refine post_ret ⟨[(AV.agg [(AV.lit (.int .i64 (0))), (AV.sl 1 (is .i64 ([])))]), (nm .i64 (posE (n)))], And.intro ⟨3, (AO.var 27 [(nm .i64 (0)), (AV.lit (.slice none 0 0))]), rfl, rfl, rfl, Or.inl ⟨Yw_tA27, AV.le_agg (LeL.cons (AV.le_refl _) (LeL.cons (AV.le_nil' (by decide) (by first | rfl | simp [digs_zero, ns, is])) (LeL.nil)))⟩⟩ (And.intro (AV.le_refl _) (trivial)), rfl, ?_⟩
      rw [decV, decE, if_pos hM, if_pos hM, if_neg h2, if_neg h2]; rfl
    · have hP0 : posE n = 0 := Decidable.not_not.1 h2
      have hP := posE_0.1 hP0
      refine awp_skip ?_
      refine hK4 _ ?_
      refine awp_seq fun K8 hK8 => ?_
      refine awp_region rfl ?_
      refine o_alloc 4 [(nm .i64 (0)), (AV.lit (.slice none 0 0))] Gd.none Yw_tO27 rfl rfl rfl ?_
      refine aops_end ?_
      refine hK8 _ ?_
      refine awp_seq fun K9 hK9 => ?_
      refine awp_seq fun K10 hK10 => ?_
      refine awp_wk (σ' := ⟨[(0, (macV m)), (1, (AV.lit (.string (n)))), (2, (AV.ref 2 (0))), (4, (AV.ref 3 (0))), (5, (nm .i64 (0))), (11, (AV.agg [(AV.lit (.int .i64 (m.regs))), (AV.sl 4 (gcells cI (m.code)))])), (12, (bp (okMac m))), (13, (bp (¬ (okMac m)))), (15, (AV.lit (.string (n)))), (16, (nm .i64 (posE (n)))), (6, (nm .i64 (posE (n)))), (17, (nm .i64 (posE (n)))), (18, (bp ((posE (n)) ≠ (0)))), (7, (AV.ref 4 (0)))], [(702, (AO.row 3 1 (is .i64 ([])))), (4, (AO.var 27 [(nm .i64 (0)), (AV.row 702)])), (3, (AO.var 27 [(nm .i64 (0)), (AV.lit (.slice none 0 0))])), (2, (AO.var 24 [(AV.lit (.int .i64 (m.regs))), (AV.sl 4 (gcells cI (m.code)))]))]⟩) (Wk.trans (Wk.nilIn2 (i := 4) (id := 702) (ty := 27) (e := 3) (sz := 1) rfl rfl (by decide)) (Wk.sub (And.intro rfl (And.intro rfl (And.intro rfl (And.intro rfl (And.intro rfl (And.intro rfl (And.intro rfl (And.intro rfl (And.intro rfl (And.intro rfl (And.intro rfl (And.intro rfl (And.intro rfl (And.intro rfl (trivial))))))))))))))) (And.intro rfl (And.intro rfl (And.intro rfl (And.intro rfl (trivial))))))) ?_
      refine awp_region rfl ?_
      refine o_fieldRef 0 Gd.none Yw_tF24_0 rfl rfl ?_
      refine o_loadS (AV.lit (.int .i64 (m.regs))) Gd.none Yw_tS3 rfl rfl rfl ?_
      refine o_mv (nm .i64 (0)) rfl ?_
      refine aops_end ?_
      refine hK10 _ ?_
      refine awp_block ?_
      refine awp_loopR (fun κ σ => ∃ (i : Nat), ∃ (s : ByteArray), ∃ (w : Nat), ∃ (acc : List Int), (i ≤ m.regs.toNat) ∧ (numS s = ((w : Nat) : Int)) ∧ (okS s = true) ∧ (0 < w) ∧ (s.size ≤ 9223372036854775807) ∧ (acc.length = i) ∧ (dcL m.regs.toNat 0 (numS n).toNat = (acc ++ (dcL (m.regs.toNat - i) i w).1, (dcL (m.regs.toNat - i) i w).2)) ∧ (m.regs.toNat - i) = κ ∧ σ = ⟨[(1, (AV.lit (.string (s)))), (2, (AV.ref 2 (0))), (4, (AV.ref 3 (0))), (7, (AV.ref 4 (0))), (22, (AV.lit (.int .i64 (m.regs)))), (23, (nm .i64 (i)))], [(2, (AO.var 24 [(AV.lit (.int .i64 (m.regs))), (AV.sl 4 (gcells cI (m.code)))])), (3, (AO.var 27 [(nm .i64 (0)), (AV.lit (.slice none 0 0))])), (4, (AO.var 27 [(nm .i64 (0)), (AV.row 702)])), (702, (AO.row 3 1 (is .i64 (acc))))]⟩) ⟨_, _, ⟨0, n, (numS n).toNat, [], (by omega), (by omega), hP.1, (by omega), hn, rfl, rfl, rfl, rfl⟩, ?wk0⟩ ?rd0
      case wk0 =>
        exact Wk.sub (And.intro (by first | rfl | (simp)) (And.intro rfl (And.intro rfl (And.intro rfl (And.intro rfl (And.intro (by first | rfl | exact congrArg (nm _) (by omega) | exact nm_int (by omega) | exact nm_int (by simp [IntKind.wrap, IntKind.bits, IntKind.signed]; omega)) (trivial))))))) (And.intro rfl (And.intro rfl (And.intro rfl (And.intro (by first | rfl | exact row_ns (by simp)) (trivial)))))
      rintro κ _ ⟨i, s, w, acc, hi, hw, hos, hw0, hs, hal, hp, rfl, rfl⟩
      have hs0 : 0 < numS s := by omega
      have hb1 := p30_bd i
      have hFw := fit_numS (okS_iff.1 hos)
      refine awp_seq fun K11 hK11 => ?_
      refine awp_region rfl ?_
      refine o_lss (a := (((i : Nat) : Int))) (c := (m.regs)) Gd.none rfl rfl ?_
      refine aops_end ?_
      refine hK11 _ ?_
      refine awp_seq fun K12 hK12 => ?_
      refine awp_condQ (q := (((i : Nat) : Int)) < (m.regs)) rfl (fun h3 => ?_) (fun h3 => ?_)
      · have hb2 := p30_ge i (by omega)
        refine awp_skip ?_
        refine hK12 _ ?_
        refine awp_seq fun K13 hK13 => ?_
        refine awp_block ?_
        refine awp_seq fun K14 hK14 => ?_
        refine awp_region rfl ?_
        refine o_mv (nm .i64 (i)) rfl ?_
        refine o_as (nm .i64 (i)) rfl ?_
        refine aops_end ?_
        refine hK14 _ ?_
        refine awp_seq fun K15 hK15 => ?_
        refine awp_region rfl ?_
        refine o_as (nm .i64 (0)) rfl ?_
        refine aops_end ?_
        refine hK15 _ ?_
        refine awp_seq fun K16 hK16 => ?_
        refine awp_region rfl ?_
        refine o_mv (AV.lit (.string (s))) rfl ?_
        refine o_ct c_primes Gd.none Yw_tC18 rfl ?_
        refine o_mv (nm .i64 (i)) rfl ?_
        refine n_indexAgg (P30) (i) Gd.none Yw_tR53 Yw_tS3 rfl rfl (by rfl) (by omega) ?_
        refine o_ct (c_split (s) ((P30).getD (i) 0) (by assumption) (by assumption) (by assumption) (by omega) (by omega)) Gd.none Yw_tC31 rfl ?_
        refine o_mv (AV.tup [(nm .i64 ((spN ((P30).getD (i) 0) (numS (s)).toNat).1)), (AV.lit (.string (txt (((spN ((P30).getD (i) 0) (numS (s)).toNat).2 : Nat) : Int))))]) rfl ?_
        refine o_extract (nm .i64 ((spN ((P30).getD (i) 0) (numS (s)).toNat).1)) Gd.none rfl rfl ?_
        refine n_as (v' := (nm .i64 ((spN (P30.getD (i) 0) w).1))) (by rw [hw, Int.toNat_natCast]) ?_
        refine o_extract (AV.lit (.string (txt (((spN ((P30).getD (i) 0) (numS (s)).toNat).2 : Nat) : Int)))) Gd.none rfl rfl ?_
        refine n_as (v' := (AV.lit (.string (txt (((spN (P30.getD (i) 0) w).2 : Nat) : Int))))) (by rw [hw, Int.toNat_natCast]) ?_
        refine o_as (nm .i64 ((spN (P30.getD (i) 0) w).1)) rfl ?_
        refine o_as (AV.lit (.string (txt (((spN (P30.getD (i) 0) w).2 : Nat) : Int)))) rfl ?_
        refine aops_end ?_
        refine hK16 _ ?_
        refine awp_region rfl ?_
        refine o_fieldRef 1 Gd.none Yw_tF27_1 rfl rfl ?_
        refine o_loadS (AV.row 702) Gd.none Yw_tS25 rfl rfl rfl ?_
        refine o_mv (nm .i64 ((spN (P30.getD (i) 0) w).1)) rfl ?_
        refine o_buildSlice 101 (is .i64 ([(((spN (P30.getD (i) 0) w).1 : Nat) : Int)])) [(0, [(nm .i64 ((spN (P30.getD (i) 0) w).1))])] Gd.none Yw_tE25 rfl Yw_tO3 rfl rfl rfl rfl rfl rfl rfl ?_
        refine i_append 102 (acc) ([(((spN (P30.getD (i) 0) w).1 : Nat) : Int)]) [(101, (AO.row 3 1 (is .i64 ([(((spN (P30.getD (i) 0) w).1 : Nat) : Int)])))), (2, (AO.var 24 [(AV.lit (.int .i64 (m.regs))), (AV.sl 4 (gcells cI (m.code)))])), (3, (AO.var 27 [(nm .i64 (0)), (AV.lit (.slice none 0 0))])), (4, (AO.var 27 [(nm .i64 (0)), (AV.row 702)]))] Gd.none Yw_tE25 Yw_tO3 rfl rfl rfl rfl rfl (by simp only [List.length_append, List.length_cons, List.length_nil]; omega) (by decide) rfl rfl ?_
        refine o_fieldRef 1 Gd.none Yw_tF27_1 rfl rfl ?_
        refine o_store [(102, (AO.row 3 1 (is .i64 ((acc) ++ ([(((spN (P30.getD (i) 0) w).1 : Nat) : Int)]))))), (101, (AO.row 3 1 (is .i64 ([(((spN (P30.getD (i) 0) w).1 : Nat) : Int)])))), (2, (AO.var 24 [(AV.lit (.int .i64 (m.regs))), (AV.sl 4 (gcells cI (m.code)))])), (3, (AO.var 27 [(nm .i64 (0)), (AV.lit (.slice none 0 0))])), (4, (AO.var 27 [(nm .i64 (0)), (AV.row 102)]))] Gd.none Yw_tZ25 rfl rfl rfl rfl rfl rfl ?_
        refine aops_end ?_
        refine hK13 _ ?_
        refine awp_region rfl ?_
        refine n_add (i) (1) Gd.none rfl rfl (by simp only [topOf]; omega) ?_
        refine o_mv (nm .i64 ((i) + (1))) rfl ?_
        refine aops_end ?_
        have hsp := spN_pos (p30_ge i (by omega)) w w (Nat.le_refl _) hw0
        have hF2 : Fit (((spN (P30.getD (i) 0) w).2 : Nat) : Int) := fit_le (y := numS s) (by rw [hw]; omega) hFw
        refine ⟨_, _, ?lt, ⟨i + 1, txt (((spN (P30.getD (i) 0) w).2 : Nat) : Int), (spN (P30.getD (i) 0) w).2, acc ++ [(((spN (P30.getD (i) 0) w).1 : Nat) : Int)], (by omega), (numS_txt _), (okS_iff.2 (okS_txt hF2)), hsp.1, (txt_sz2 hF2), (by rw [List.length_append, hal]; rfl), (by rw [hp, dcL_step (show i < m.regs.toNat by omega), List.append_assoc]; rfl), rfl, rfl⟩, ?wk⟩
        case lt => omega
        case wk => exact Wk.trans (Wk.sub (σ' := ⟨[(1, (AV.lit (.string (txt (((spN (P30.getD (i) 0) w).2 : Nat) : Int))))), (2, (AV.ref 2 (0))), (4, (AV.ref 3 (0))), (7, (AV.ref 4 (0))), (22, (AV.lit (.int .i64 (m.regs)))), (23, (nm .i64 ((i) + (1))))], [(2, (AO.var 24 [(AV.lit (.int .i64 (m.regs))), (AV.sl 4 (gcells cI (m.code)))])), (3, (AO.var 27 [(nm .i64 (0)), (AV.lit (.slice none 0 0))])), (4, (AO.var 27 [(nm .i64 (0)), (AV.row 102)])), (102, (AO.row 3 1 (is .i64 ((acc) ++ ([(((spN (P30.getD (i) 0) w).1 : Nat) : Int)])))))]⟩) (And.intro rfl (And.intro rfl (And.intro rfl (And.intro rfl (And.intro rfl (And.intro rfl (trivial))))))) (And.intro rfl (And.intro rfl (And.intro rfl (And.intro rfl (trivial)))))) (Wk.trans (Wk.ren (id := 102) (id' := 702) rfl) (Wk.sub (And.intro (by first | rfl | (simp)) (And.intro rfl (And.intro rfl (And.intro rfl (And.intro rfl (And.intro (by first | rfl | exact congrArg (nm _) (by omega) | exact nm_int (by omega) | exact nm_int (by simp [IntKind.wrap, IntKind.bits, IntKind.signed]; omega)) (trivial))))))) (And.intro rfl (And.intro rfl (And.intro rfl (And.intro (by first | rfl | exact row_ns (by simp)) (trivial)))))))
      · refine awp_exit ?_
        refine hK9 _ ?_
        refine awp_seq fun K17 hK17 => ?_
        refine awp_seq fun K18 hK18 => ?_
        refine awp_region rfl ?_
        refine o_fieldRef 1 Gd.none Yw_tF24_1 rfl rfl ?_
        refine o_loadS (AV.sl 4 (gcells cI (m.code))) Gd.none Yw_tS22 rfl rfl rfl ?_
        refine g_len cI (m.code) cI_len Gd.none Yw_tU22 rfl ?_
        refine n_add ((m.code).length) (1) Gd.none rfl rfl (by simp only [topOf]; omega) ?_
        refine o_mv (nm .i64 (0)) rfl ?_
        refine aops_end ?_
        refine hK18 _ ?_
        refine awp_block ?_
        refine awp_loopR (fun κ σ => ∃ (t : Nat), ∃ (a : Int), (t ≤ m.code.length + 1) ∧ (∀ u, u < t → w = ownP m ((u : Nat) : Int) → ¬ smallR acc) ∧ (m.code.length + 1 - t) = κ ∧ σ = ⟨[(1, (AV.lit (.string (s)))), (2, (AV.ref 2 (0))), (4, (AV.ref 3 (0))), (7, (AV.ref 4 (0))), (44, (nm .i64 (m.code.length + 1))), (45, (nm .i64 (t)))], [(2, (AO.var 24 [(AV.lit (.int .i64 (m.regs))), (AV.sl 4 (gcells cI (m.code)))])), (3, (AO.var 27 [(nm .i64 (0)), (AV.lit (.slice none 0 0))])), (4, (AO.var 27 [(AV.lit (.int .i64 (a))), (AV.row 702)])), (702, (AO.row 3 1 (is .i64 (acc))))]⟩) ⟨_, _, ⟨0, 0, (by omega), (fun u hu => by omega), rfl, rfl⟩, ?wk1⟩ ?rd1
        case wk1 =>
          exact Wk.sub (And.intro rfl (And.intro rfl (And.intro rfl (And.intro rfl (And.intro (by first | rfl | exact congrArg (nm _) (by omega) | exact nm_int (by omega) | exact nm_int (by simp [IntKind.wrap, IntKind.bits, IntKind.signed]; omega)) (And.intro (by first | rfl | exact congrArg (nm _) (by omega) | exact nm_int (by omega) | exact nm_int (by simp [IntKind.wrap, IntKind.bits, IntKind.signed]; omega)) (trivial))))))) (And.intro rfl (And.intro rfl (And.intro rfl (And.intro rfl (trivial)))))
        rintro κ _ ⟨t, a, ht, hb, rfl, rfl⟩
        have hq : dcL m.regs.toNat 0 (numS n).toNat = (acc, w) := by rw [hp, show m.regs.toNat - i = 0 by omega]; simp [dcL]
        have hnn : ∀ z ∈ acc, 0 ≤ z := by have := dcL_nn m.regs.toNat 0 (numS n).toNat; rw [hq] at this; exact this
        have hob := ownP_bd m ((t : Nat) : Int)
        refine awp_seq fun K19 hK19 => ?_
        refine awp_region rfl ?_
        refine n_lss (t) (m.code.length + 1) Gd.none rfl rfl ?_
        refine aops_end ?_
        refine hK19 _ ?_
        refine awp_seq fun K20 hK20 => ?_
        refine awp_condQ (q := (t) < (m.code.length + 1)) rfl (fun h4 => ?_) (fun h4 => ?_)
        · refine awp_skip ?_
          refine hK20 _ ?_
          refine awp_seq fun K21 hK21 => ?_
          refine awp_block ?_
          refine awp_seq fun K22 hK22 => ?_
          refine awp_region rfl ?_
          refine o_mv (nm .i64 (t)) rfl ?_
          refine o_as (nm .i64 (t)) rfl ?_
          refine aops_end ?_
          refine hK22 _ ?_
          refine awp_seq fun K23 hK23 => ?_
          refine awp_region rfl ?_
          refine o_mv (AV.lit (.string (s))) rfl ?_
          refine o_loadA [(AV.lit (.int .i64 (m.regs))), (AV.sl 4 (gcells cI (m.code)))] Gd.none Yw_tA24 rfl rfl rfl rfl rfl ?_
          refine o_mv (nm .i64 (t)) rfl ?_
          refine o_ct (c_own m (((t : Nat) : Int)) (by omega) (by omega) (by omega) (by omega)) Gd.none Yw_tC21 rfl ?_
          refine o_ct (c_itoa (ownP m (((t : Nat) : Int))) (by omega)) Gd.none Yw_tC23 rfl ?_
          refine o_eqlS (a := (s)) (c := (txt ((ownP m (((t : Nat) : Int)) : Nat) : Int))) Gd.none rfl rfl ?_
          refine n_as (v' := (bp (w = ownP m ((t : Nat) : Int)))) (by exact bpc (own_eq hos hw)) ?_
          refine aops_end ?_
          refine hK23 _ ?_
          refine awp_condQ (q := w = ownP m ((t : Nat) : Int)) rfl (fun h5 => ?_) (fun h5 => ?_)
          · refine awp_seq fun K24 hK24 => ?_
            refine awp_region rfl ?_
            refine o_mv (nm .i64 (t)) rfl ?_
            refine o_fieldRef 0 Gd.none Yw_tF27_0 rfl rfl ?_
            refine o_store [(2, (AO.var 24 [(AV.lit (.int .i64 (m.regs))), (AV.sl 4 (gcells cI (m.code)))])), (3, (AO.var 27 [(nm .i64 (0)), (AV.lit (.slice none 0 0))])), (4, (AO.var 27 [(nm .i64 (t)), (AV.row 702)])), (702, (AO.row 3 1 (is .i64 (acc))))] Gd.none Yw_tZ3 rfl rfl rfl rfl rfl rfl ?_
            refine aops_end ?_
            refine hK24 _ ?_
            refine awp_seq fun K25 hK25 => ?_
            refine awp_region rfl ?_
            refine o_loadA [(AV.lit (.int .i64 (m.regs))), (AV.sl 4 (gcells cI (m.code)))] Gd.none Yw_tA24 rfl rfl rfl rfl rfl ?_
            refine o_loadA [(nm .i64 (t)), (AV.row 702)] Gd.none Yw_tA27 rfl rfl rfl rfl rfl ?_
            refine o_callB [(702, 1, (is .i64 (acc)))] [(AV.agg [(AV.lit (.int .i64 (m.regs))), (AV.sl 4 (gcells cI (m.code)))]), (AV.agg [(nm .i64 (t)), (AV.sl 1 (is .i64 (acc)))])] _ (.bool (decide (okCfg m (Cfg.mk (((t : Nat) : Int)) (acc))))) Gd.none Yw_tC22 rfl (And.intro ⟨_, rfl⟩ (trivial)) rfl rfl (LeL.cons (AV.le_refl _) (LeL.cons (AV.le_refl _) (LeL.nil))) (c_fFits m (Cfg.mk (((t : Nat) : Int)) (acc))) ?_
            refine aops_end ?_
            refine hK25 _ ?_
            refine awp_condQ (q := okCfg m (Cfg.mk (((t : Nat) : Int)) (acc))) rfl (fun h6 => ?_) (fun h6 => ?_)
            · refine awp_seq fun K26 hK26 => ?_
              refine awp_region rfl ?_
              refine o_loadA [(nm .i64 (t)), (AV.row 702)] Gd.none Yw_tA27 rfl rfl rfl rfl rfl ?_
              refine o_store [(2, (AO.var 24 [(AV.lit (.int .i64 (m.regs))), (AV.sl 4 (gcells cI (m.code)))])), (3, (AO.var 27 [(nm .i64 (t)), (AV.row 702)])), (4, (AO.var 27 [(nm .i64 (t)), (AV.row 702)])), (702, (AO.row 3 1 (is .i64 (acc))))] Gd.none Yw_tZ27 rfl rfl rfl rfl rfl rfl ?_
              refine o_as (nm .i64 (0)) rfl ?_
              refine aops_end ?_
              refine hK26 _ ?_
              refine awp_wk (σ' := ⟨[(4, (AV.ref 3 (0))), (5, (nm .i64 (0)))], [(3, (AO.var 27 [(nm .i64 (t)), (AV.row 702)])), (702, (AO.row 3 1 (is .i64 (acc))))]⟩) (Wk.sub (And.intro rfl (And.intro rfl (trivial))) (And.intro rfl (And.intro rfl (trivial)))) ?_
              refine awp_wk (σ' := ⟨[(4, (AV.ref 3 (0))), (5, (nm .i64 (0)))], [(3, (AO.var 27 [(nm .i64 (t)), (AV.sl 1 (is .i64 (acc)))]))]⟩) (Wk.freeze (id := 702) (e := 3) (sz := 1) (cs := (is .i64 (acc))) rfl) ?_
              refine awp_ret ?_
              refine post_ret ⟨[(AV.agg [(AV.lit (.int .i64 (((t : Nat) : Int)))), (AV.sl 1 (is .i64 (acc)))]), (nm .i64 (0))], And.intro ⟨3, (AO.var 27 [(nm .i64 (t)), (AV.sl 1 (is .i64 (acc)))]), rfl, rfl, rfl, Or.inl ⟨Yw_tA27, AV.le_agg (LeL.cons (AV.le_refl _) (LeL.cons (AV.le_refl _) (LeL.nil)))⟩⟩ (And.intro (AV.le_refl _) (trivial)), rfl, ?_⟩
              have hK : okCfg m (Cfg.mk ((t : Nat) : Int) acc) := (by assumption); have e := decB_yes hq (by omega) (by assumption) (fun z hz => (hK.2.2.2 z hz).2) hb; rw [decV, decE, if_pos hM, if_pos hM, if_pos hP0, if_pos hP0, e.1, if_pos e.2]; rfl
            · refine awp_skip ?_
              refine hK21 _ ?_
              refine awp_region rfl ?_
              refine n_add (t) (1) Gd.none rfl rfl (by simp only [topOf]; omega) ?_
              refine o_mv (nm .i64 ((t) + (1))) rfl ?_
              refine aops_end ?_
              refine ⟨_, _, ?lt, ⟨t + 1, ((t : Nat) : Int), (by omega), (fun u hu e => by rcases Nat.lt_or_ge u t with c | c; exact hb u c e; exact fun hsm => absurd (show okCfg m (Cfg.mk ((t : Nat) : Int) acc) from ⟨hM, ⟨by show 0 ≤ ((t : Nat) : Int); omega, by show ((t : Nat) : Int) ≤ _; omega⟩, by show (acc.length : Int) = m.regs; omega, fun z hz => ⟨hnn z hz, hsm z hz⟩⟩) (by assumption)), rfl, rfl⟩, ?wk⟩
              case lt => omega
              case wk => exact Wk.sub (And.intro rfl (And.intro rfl (And.intro rfl (And.intro rfl (And.intro rfl (And.intro (by first | rfl | exact congrArg (nm _) (by omega) | exact nm_int (by omega) | exact nm_int (by simp [IntKind.wrap, IntKind.bits, IntKind.signed]; omega)) (trivial))))))) (And.intro rfl (And.intro rfl (And.intro rfl (And.intro rfl (trivial)))))
          · refine awp_skip ?_
            refine hK21 _ ?_
            refine awp_region rfl ?_
            refine n_add (t) (1) Gd.none rfl rfl (by simp only [topOf]; omega) ?_
            refine o_mv (nm .i64 ((t) + (1))) rfl ?_
            refine aops_end ?_
            refine ⟨_, _, ?lt, ⟨t + 1, a, (by omega), (fun u hu e => by rcases Nat.lt_or_ge u t with c | c; exact hb u c e; exact absurd (show w = ownP m ((t : Nat) : Int) by rw [show t = u by omega]; exact e) (by assumption)), rfl, rfl⟩, ?wk⟩
            case lt => omega
            case wk => exact Wk.sub (And.intro rfl (And.intro rfl (And.intro rfl (And.intro rfl (And.intro rfl (And.intro (by first | rfl | exact congrArg (nm _) (by omega) | exact nm_int (by omega) | exact nm_int (by simp [IntKind.wrap, IntKind.bits, IntKind.signed]; omega)) (trivial))))))) (And.intro rfl (And.intro rfl (And.intro rfl (And.intro rfl (trivial)))))
        · refine awp_exit ?_
          refine hK17 _ ?_
          refine awp_seq fun K27 hK27 => ?_
          refine awp_region rfl ?_
          refine o_build [(nm .i64 (0)), (AV.lit (.slice none 0 0))] [] Gd.none Yw_tP27 Yw_tO27 rfl rfl rfl ?_
          refine o_store [(2, (AO.var 24 [(AV.lit (.int .i64 (m.regs))), (AV.sl 4 (gcells cI (m.code)))])), (3, (AO.var 27 [(nm .i64 (0)), (AV.lit (.slice none 0 0))])), (4, (AO.var 27 [(AV.lit (.int .i64 (a))), (AV.row 702)])), (702, (AO.row 3 1 (is .i64 (acc))))] Gd.none Yw_tZ27 rfl rfl rfl rfl rfl rfl ?_
          refine o_as (nm .i64 (4)) rfl ?_
          refine aops_end ?_
          refine hK27 _ ?_
          refine awp_ret ?_
          refine post_ret ⟨[(AV.agg [(AV.lit (.int .i64 (0))), (AV.sl 1 (is .i64 ([])))]), (nm .i64 (4))], And.intro ⟨3, (AO.var 27 [(nm .i64 (0)), (AV.lit (.slice none 0 0))]), rfl, rfl, rfl, Or.inl ⟨Yw_tA27, AV.le_agg (LeL.cons (AV.le_refl _) (LeL.cons (AV.le_nil' (by decide) (by first | rfl | simp [digs_zero, ns, is])) (LeL.nil)))⟩⟩ (And.intro (AV.le_refl _) (trivial)), rfl, ?_⟩
          have e := decB_no hq (fun u hu => hb u (by omega)); rw [decV, decE, if_pos hM, if_pos hM, if_pos hP0, if_pos hP0, decC_no e, if_neg e]; rfl

end Go.Proofs.YtpamhblonmpniaaDoor

set_option linter.unusedVariables false
set_option linter.unusedSimpArgs false
namespace Go.Proofs.YtpamhblonmpniaaDoor
open Go Go.Ab Go.Mth
theorem Yd_tC28 : callable cx.P 28 = true := by kernel_rfl
theorem Yd_tC29 : callable cx.P 29 = true := by kernel_rfl
theorem Yd_tE30 : tyElem cx.P 30 = some (50, 2, 32) := by kernel_rfl
theorem Yd_tF50_0 : tyField cx.P 50 0 = some (0, 9) := by kernel_rfl
theorem Yd_tS9 : tySc cx.P 9 = true := by kernel_rfl
theorem Yd_tC25 : callable cx.P 25 = true := by kernel_rfl
theorem c_Play (l : List Frc) (n : ByteArray) (k : Int) (hS : ∀ f ∈ l, f.num.size ≤ 9223372036854775807 ∧ f.den.size ≤ 9223372036854775807) (hn : n.size ≤ 9223372036854775807) : ECalls cx 10 [(AV.sl 2 (gcells cF (l))), (AV.lit (.string (n))), (AV.lit (.int .i64 (k)))] (.tup [.lit (.string (plyA l n k).1), nm .i64 (plyA l n k).2.1, nm .i64 (plyA l n k).2.2]) := by
  refine ecalls_of_awp Tryd.func10 (c := _) rfl (Nat.le_of_ble_eq_true rfl) ?_
  show awp cx 58 _ (postF cx Tryd.f10 _) ⟨[(0, (AV.sl 2 (gcells cF (l)))), (1, (AV.lit (.string (n)))), (2, (AV.lit (.int .i64 (k))))], []⟩
  refine awp_seq fun K0 hK0 => ?_
  refine awp_region rfl ?_
  refine o_as (AV.lit (.string (({data := #[]} : ByteArray)))) rfl ?_
  refine o_as (nm .i64 (0)) rfl ?_
  refine o_as (nm .i64 (0)) rfl ?_
  refine aops_end ?_
  refine hK0 _ ?_
  refine awp_seq fun K1 hK1 => ?_
  refine awp_seq fun K2 hK2 => ?_
  refine awp_region rfl ?_
  refine o_mv (AV.sl 2 (gcells cF (l))) rfl ?_
  refine o_mv (AV.lit (.string (n))) rfl ?_
  refine o_ct (c_asks (l) (n) (by assumption) (by first | assumption | decide | omega)) Gd.none Yd_tC28 rfl ?_
  refine o_as (nm .i64 (askE (l) (n))) rfl ?_
  refine aops_end ?_
  refine hK2 _ ?_
  refine awp_seq fun K3 hK3 => ?_
  refine awp_region rfl ?_
  refine o_mv (nm .i64 (askE (l) (n))) rfl ?_
  refine n_neq (askE (l) (n)) (0) Gd.none rfl rfl ?_
  refine aops_end ?_
  refine hK3 _ ?_
  refine awp_condQ (q := (askE (l) (n)) ≠ (0)) rfl (fun h1 => ?_) (fun h1 => ?_)
  · refine awp_seq fun K4 hK4 => ?_
    refine awp_region rfl ?_
    refine o_mv (nm .i64 (askE (l) (n))) rfl ?_
    refine o_as (AV.lit (.string (({data := #[]} : ByteArray)))) rfl ?_
    refine o_as (nm .i64 (0)) rfl ?_
    refine o_as (nm .i64 (askE (l) (n))) rfl ?_
    refine aops_end ?_
    refine hK4 _ ?_
    refine awp_ret ?_
    refine post_ret ⟨[(AV.lit (.string (({data := #[]} : ByteArray)))), (nm .i64 (0)), (nm .i64 (askE (l) (n)))], And.intro (AV.le_refl _) (And.intro (AV.le_refl _) (And.intro (AV.le_refl _) (trivial))), rfl, ?_⟩
    first | (rw [plyA_1 h1]; rfl) | (rw [plyA_2 hA0 (by omega)]; rfl) | (rw [hp, ply_stop (by omega) (by omega), txt_numS (okS_iff.1 ho)]; rfl) | (rw [hp, ply_big (by omega) (by omega) (tld_big h6), tld_3 (tld_big h6)]; rfl) | (rw [hp, show k.toNat - i = 0 by omega, show i = k.toNat by omega]; show AV.tup [.lit (.string (txt (numS s))), _, _] = _; rw [txt_numS (okS_iff.1 ho)]; rfl)
  · have hA0 := Decidable.not_not.1 h1
    have hA := askE_0.1 hA0
    have hA1 := hA.1
    have hA2 := hA.2.1
    refine awp_skip ?_
    refine hK1 _ ?_
    refine awp_seq fun K5 hK5 => ?_
    refine awp_seq fun K6 hK6 => ?_
    refine awp_region rfl ?_
    refine o_mv (AV.lit (.int .i64 (k))) rfl ?_
    refine o_lss (a := (k)) (c := (((0 : Nat) : Int))) Gd.none rfl rfl ?_
    refine o_mv (bp ((k) < (((0 : Nat) : Int)))) rfl ?_
    refine o_splitP (q := (k) < (((0 : Nat) : Int))) 23 rfl (fun h2 => ?_) (fun h2 => ?_)
    · refine o_skip rfl rfl (decide_eq_true h2) ?_
      refine o_skip rfl rfl (decide_eq_true h2) ?_
      refine o_pickT (AV.lit (.bool true)) Gd.none rfl (decide_eq_true h2) rfl ?_
      refine aops_end ?_
      refine hK6 _ ?_
      refine awp_condB (b := true) rfl (fun _ => ?_) (fun hh => absurd (hh.symm.trans rfl) (by decide))
      refine awp_seq fun K7 hK7 => ?_
      refine awp_region rfl ?_
      refine o_as (AV.lit (.string (({data := #[]} : ByteArray)))) rfl ?_
      refine o_as (nm .i64 (0)) rfl ?_
      refine o_as (nm .i64 (2)) rfl ?_
      refine aops_end ?_
      refine hK7 _ ?_
      refine awp_ret ?_
      refine post_ret ⟨[(AV.lit (.string (({data := #[]} : ByteArray)))), (nm .i64 (0)), (nm .i64 (2))], And.intro (AV.le_refl _) (And.intro (AV.le_refl _) (And.intro (AV.le_refl _) (trivial))), rfl, ?_⟩
      first | (rw [plyA_1 h1]; rfl) | (rw [plyA_2 hA0 (by omega)]; rfl) | (rw [hp, ply_stop (by omega) (by omega), txt_numS (okS_iff.1 ho)]; rfl) | (rw [hp, ply_big (by omega) (by omega) (tld_big h6), tld_3 (tld_big h6)]; rfl) | (rw [hp, show k.toNat - i = 0 by omega, show i = k.toNat by omega]; show AV.tup [.lit (.string (txt (numS s))), _, _] = _; rw [txt_numS (okS_iff.1 ho)]; rfl)
    · refine o_move (AV.lit (.int .i64 (k))) (Gd.yes rfl rfl (decide_eq_false h2)) rfl ?_
      refine o_gtr (a := (k)) (c := (((20000 : Nat) : Int))) (Gd.yes rfl rfl (decide_eq_false h2)) rfl rfl ?_
      refine o_pickF (bp ((((20000 : Nat) : Int)) < (k))) Gd.none rfl (decide_eq_false h2) rfl ?_
      refine aops_end ?_
      refine hK6 _ ?_
      refine awp_condQ (q := (((20000 : Nat) : Int)) < (k)) rfl (fun h3 => ?_) (fun h3 => ?_)
      · refine awp_seq fun K8 hK8 => ?_
        refine awp_region rfl ?_
        refine o_as (AV.lit (.string (({data := #[]} : ByteArray)))) rfl ?_
        refine o_as (nm .i64 (0)) rfl ?_
        refine o_as (nm .i64 (2)) rfl ?_
        refine aops_end ?_
        refine hK8 _ ?_
        refine awp_ret ?_
        refine post_ret ⟨[(AV.lit (.string (({data := #[]} : ByteArray)))), (nm .i64 (0)), (nm .i64 (2))], And.intro (AV.le_refl _) (And.intro (AV.le_refl _) (And.intro (AV.le_refl _) (trivial))), rfl, ?_⟩
        first | (rw [plyA_1 h1]; rfl) | (rw [plyA_2 hA0 (by omega)]; rfl) | (rw [hp, ply_stop (by omega) (by omega), txt_numS (okS_iff.1 ho)]; rfl) | (rw [hp, ply_big (by omega) (by omega) (tld_big h6), tld_3 (tld_big h6)]; rfl) | (rw [hp, show k.toNat - i = 0 by omega, show i = k.toNat by omega]; show AV.tup [.lit (.string (txt (numS s))), _, _] = _; rw [txt_numS (okS_iff.1 ho)]; rfl)
      · refine awp_skip ?_
        refine hK5 _ ?_
        refine awp_seq fun K9 hK9 => ?_
        refine awp_seq fun K10 hK10 => ?_
        refine awp_region rfl ?_
        refine o_mv (AV.lit (.int .i64 (k))) rfl ?_
        refine n_as (v' := (nm .i64 (k.toNat))) (nm_int (by omega)) ?_
        refine o_mv (nm .i64 (0)) rfl ?_
        refine aops_end ?_
        refine hK10 _ ?_
        refine awp_block ?_
        refine awp_loopR (fun κ σ => ∃ (i : Nat), ∃ (s : ByteArray), (i ≤ k.toNat) ∧ (plyA l n k = ply l (k.toNat - i) (numS s) i) ∧ (okS s = true) ∧ (0 < numS s) ∧ (s.size ≤ 9223372036854775807) ∧ (k.toNat - i) = κ ∧ σ = ⟨[(0, (AV.sl 2 (gcells cF (l)))), (1, (AV.lit (.string (s)))), (2, (AV.lit (.int .i64 (k)))), (27, (nm .i64 (k.toNat))), (28, (nm .i64 (i)))], []⟩) ⟨_, _, ⟨0, n, (by omega), (plyA_0 hA0 (by omega)), hA.2.1, hA.2.2, hn, rfl, rfl⟩, ?wk0⟩ ?rd0
        case wk0 =>
          exact Wk.sub (And.intro rfl (And.intro (by first | rfl | (simp)) (And.intro rfl (And.intro rfl (And.intro (by first | rfl | exact congrArg (nm _) (by omega) | exact nm_int (by omega) | exact nm_int (by simp [IntKind.wrap, IntKind.bits, IntKind.signed]; omega)) (trivial)))))) (trivial)
        rintro κ _ ⟨i, s, hi, hp, ho, hz, hs, rfl, rfl⟩
        refine awp_seq fun K11 hK11 => ?_
        refine awp_region rfl ?_
        refine n_lss (i) (k.toNat) Gd.none rfl rfl ?_
        refine aops_end ?_
        refine hK11 _ ?_
        refine awp_seq fun K12 hK12 => ?_
        refine awp_condQ (q := (i) < (k.toNat)) rfl (fun h4 => ?_) (fun h4 => ?_)
        · refine awp_skip ?_
          refine hK12 _ ?_
          refine awp_seq fun K13 hK13 => ?_
          refine awp_block ?_
          refine awp_seq fun K14 hK14 => ?_
          refine awp_region rfl ?_
          refine o_mv (nm .i64 (i)) rfl ?_
          refine o_as (nm .i64 (i)) rfl ?_
          refine aops_end ?_
          refine hK14 _ ?_
          refine awp_seq fun K15 hK15 => ?_
          refine awp_region rfl ?_
          refine o_mv (AV.sl 2 (gcells cF (l))) rfl ?_
          refine o_mv (AV.lit (.string (s))) rfl ?_
          refine o_ct (c_first (l) (s) (by assumption) (by assumption) (by assumption) (by first | assumption | decide | omega)) Gd.none Yd_tC29 rfl ?_
          refine o_mv (AV.tup [(AV.lit (.int .i64 (fstI (l) (numS (s))))), (AV.lit (.string (fstS (l) (numS (s)))))]) rfl ?_
          refine o_extract (AV.lit (.int .i64 (fstI (l) (numS (s))))) Gd.none rfl rfl ?_
          refine o_extract (AV.lit (.string (fstS (l) (numS (s))))) Gd.none rfl rfl ?_
          refine o_as (AV.lit (.int .i64 (fstI (l) (numS (s))))) rfl ?_
          refine o_as (AV.lit (.string (fstS (l) (numS (s))))) rfl ?_
          refine aops_end ?_
          refine hK15 _ ?_
          refine awp_seq fun K16 hK16 => ?_
          refine awp_seq fun K17 hK17 => ?_
          refine awp_region rfl ?_
          refine o_mv (AV.lit (.int .i64 (fstI (l) (numS (s))))) rfl ?_
          refine o_lss (a := (fstI (l) (numS (s)))) (c := (((0 : Nat) : Int))) Gd.none rfl rfl ?_
          refine aops_end ?_
          refine hK17 _ ?_
          refine awp_condQ (q := (fstI (l) (numS (s))) < (((0 : Nat) : Int))) rfl (fun h5 => ?_) (fun h5 => ?_)
          · refine awp_seq fun K18 hK18 => ?_
            refine awp_region rfl ?_
            refine o_mv (AV.lit (.string (s))) rfl ?_
            refine o_mv (nm .i64 (i)) rfl ?_
            refine o_as (AV.lit (.string (s))) rfl ?_
            refine o_as (nm .i64 (i)) rfl ?_
            refine o_as (nm .i64 (0)) rfl ?_
            refine aops_end ?_
            refine hK18 _ ?_
            refine awp_ret ?_
            refine post_ret ⟨[(AV.lit (.string (s))), (nm .i64 (i)), (nm .i64 (0))], And.intro (AV.le_refl _) (And.intro (AV.le_refl _) (And.intro (AV.le_refl _) (trivial))), rfl, ?_⟩
            first | (rw [plyA_1 h1]; rfl) | (rw [plyA_2 hA0 (by omega)]; rfl) | (rw [hp, ply_stop (by omega) (by omega), txt_numS (okS_iff.1 ho)]; rfl) | (rw [hp, ply_big (by omega) (by omega) (tld_big h6), tld_3 (tld_big h6)]; rfl) | (rw [hp, show k.toNat - i = 0 by omega, show i = k.toNat by omega]; show AV.tup [.lit (.string (txt (numS s))), _, _] = _; rw [txt_numS (okS_iff.1 ho)]; rfl)
          · have hf := fst_str hA1 (show 0 ≤ (fstI l (numS s)) by omega) hz (fit_numS (okS_iff.1 ho))
            have hd := fstI_bd (l := l) (z := numS s) (by omega)
            have hd1 := hd.1
            have hSi := (hS _ (gdm (d := default) hd1)).1
            have hr := (hA1.2 _ (gdm (d := default) hd1)).1
            have qs := txt_sz2 hf.2.1
            have hm := mul_str (a := txt (numS s / numS (l.getD (fstI l (numS s)).toNat default).den)) (b := (l.getD (fstI l (numS s)).toNat default).num) ⟨okS_iff.2 (okS_txt hf.2.1), hr.1⟩
            refine awp_skip ?_
            refine hK16 _ ?_
            refine awp_seq fun K19 hK19 => ?_
            refine awp_region rfl ?_
            refine o_mv (AV.lit (.string (fstS (l) (numS (s))))) rfl ?_
            refine n_as (v' := (AV.lit (.string (txt (numS s / numS (l.getD (fstI l (numS s)).toNat default).den))))) (by exact str_as2 hf.1) ?_
            refine o_mv (AV.sl 2 (gcells cF (l))) rfl ?_
            refine o_mv (AV.lit (.int .i64 (fstI (l) (numS (s))))) rfl ?_
            refine n_as (v' := (nm .i64 ((fstI l (numS s)).toNat))) (nm_int (by omega)) ?_
            refine g_index cF (l) ((fstI l (numS s)).toNat) cF_len rfl Gd.none Yd_tE30 rfl rfl (by omega) ?_
            refine g_field cF (l) ((fstI l (numS s)).toNat) cF_len Gd.none Yd_tF50_0 rfl (by omega) rfl ?_
            refine g_loadS cF (l) ((fstI l (numS s)).toNat) default (AV.lit (.string ((((l).getD ((fstI l (numS s)).toNat) default)).num))) cF_len Gd.none Yd_tS9 rfl (by omega) rfl ?_
            refine o_ct (c_nMul (txt (numS s / numS (l.getD (fstI l (numS s)).toNat default).den)) ((((l).getD ((fstI l (numS s)).toNat) default)).num) (by first | assumption | decide | omega) (by first | assumption | decide | omega)) Gd.none Yd_tC25 rfl ?_
            refine o_mv (AV.tup [(AV.lit (.string ((if okS (txt (numS s / numS (l.getD (fstI l (numS s)).toNat default).den)) && okS ((((l).getD ((fstI l (numS s)).toNat) default)).num) then (toldS (numS (txt (numS s / numS (l.getD (fstI l (numS s)).toNat default).den)) * numS ((((l).getD ((fstI l (numS s)).toNat) default)).num))) else (({ data := #[] } : ByteArray)))))), (nm .i64 ((if okS (txt (numS s / numS (l.getD (fstI l (numS s)).toNat default).den)) && okS ((((l).getD ((fstI l (numS s)).toNat) default)).num) then (toldE (numS (txt (numS s / numS (l.getD (fstI l (numS s)).toNat default).den)) * numS ((((l).getD ((fstI l (numS s)).toNat) default)).num))) else (1))))]) rfl ?_
            refine o_extract (AV.lit (.string ((if okS (txt (numS s / numS (l.getD (fstI l (numS s)).toNat default).den)) && okS ((((l).getD ((fstI l (numS s)).toNat) default)).num) then (toldS (numS (txt (numS s / numS (l.getD (fstI l (numS s)).toNat default).den)) * numS ((((l).getD ((fstI l (numS s)).toNat) default)).num))) else (({ data := #[] } : ByteArray)))))) Gd.none rfl rfl ?_
            refine n_as (v' := (AV.lit (.string (toldS (nxF l (numS s)))))) (by exact str_as2 (hm.1.trans (by rw [numS_txt]; rfl))) ?_
            refine o_extract (nm .i64 ((if okS (txt (numS s / numS (l.getD (fstI l (numS s)).toNat default).den)) && okS ((((l).getD ((fstI l (numS s)).toNat) default)).num) then (toldE (numS (txt (numS s / numS (l.getD (fstI l (numS s)).toNat default).den)) * numS ((((l).getD ((fstI l (numS s)).toNat) default)).num))) else (1)))) Gd.none rfl rfl ?_
            refine n_as (v' := (nm .i64 (toldE (nxF l (numS s))))) (by exact congrArg (nm _) (hm.2.trans (by rw [numS_txt]; rfl))) ?_
            refine o_as (AV.lit (.string (toldS (nxF l (numS s))))) rfl ?_
            refine o_as (nm .i64 (toldE (nxF l (numS s)))) rfl ?_
            refine aops_end ?_
            refine hK19 _ ?_
            refine awp_seq fun K20 hK20 => ?_
            refine awp_seq fun K21 hK21 => ?_
            refine awp_region rfl ?_
            refine o_mv (nm .i64 (toldE (nxF l (numS s)))) rfl ?_
            refine n_neq (toldE (nxF l (numS s))) (0) Gd.none rfl rfl ?_
            refine aops_end ?_
            refine hK21 _ ?_
            refine awp_condQ (q := (toldE (nxF l (numS s))) ≠ (0)) rfl (fun h6 => ?_) (fun h6 => ?_)
            · refine awp_seq fun K22 hK22 => ?_
              refine awp_region rfl ?_
              refine o_mv (nm .i64 (toldE (nxF l (numS s)))) rfl ?_
              refine o_as (AV.lit (.string (({data := #[]} : ByteArray)))) rfl ?_
              refine o_as (nm .i64 (0)) rfl ?_
              refine o_as (nm .i64 (toldE (nxF l (numS s)))) rfl ?_
              refine aops_end ?_
              refine hK22 _ ?_
              refine awp_ret ?_
              refine post_ret ⟨[(AV.lit (.string (({data := #[]} : ByteArray)))), (nm .i64 (0)), (nm .i64 (toldE (nxF l (numS s))))], And.intro (AV.le_refl _) (And.intro (AV.le_refl _) (And.intro (AV.le_refl _) (trivial))), rfl, ?_⟩
              first | (rw [plyA_1 h1]; rfl) | (rw [plyA_2 hA0 (by omega)]; rfl) | (rw [hp, ply_stop (by omega) (by omega), txt_numS (okS_iff.1 ho)]; rfl) | (rw [hp, ply_big (by omega) (by omega) (tld_big h6), tld_3 (tld_big h6)]; rfl) | (rw [hp, show k.toNat - i = 0 by omega, show i = k.toNat by omega]; show AV.tup [.lit (.string (txt (numS s))), _, _] = _; rw [txt_numS (okS_iff.1 ho)]; rfl)
            · have hF := tld_ok h6
              obtain ⟨w1, w2⟩ := told_fit hF
              refine awp_skip ?_
              refine hK20 _ ?_
              refine awp_region rfl ?_
              refine o_mv (AV.lit (.string (toldS (nxF l (numS s))))) rfl ?_
              refine o_as (AV.lit (.string (toldS (nxF l (numS s))))) rfl ?_
              refine aops_end ?_
              refine hK13 _ ?_
              refine awp_region rfl ?_
              refine n_add (i) (1) Gd.none rfl rfl (by simp only [topOf]; omega) ?_
              refine o_mv (nm .i64 ((i) + (1))) rfl ?_
              refine aops_end ?_
              refine ⟨_, _, ?lt, ⟨i + 1, toldS (nxF l (numS s)), (by omega), (by rw [hp, ply_next (by omega) (by omega) hF, w1, numS_txt]), (by rw [w1]; exact okS_iff.2 (okS_txt hF)), (by rw [w1, numS_txt]; exact Int.mul_pos hf.2.2 hr.2), (by rw [w1]; exact txt_sz2 hF), rfl, rfl⟩, ?wk⟩
              case lt => omega
              case wk => exact Wk.sub (And.intro rfl (And.intro (by first | rfl | (simp)) (And.intro rfl (And.intro rfl (And.intro (by first | rfl | exact congrArg (nm _) (by omega) | exact nm_int (by omega) | exact nm_int (by simp [IntKind.wrap, IntKind.bits, IntKind.signed]; omega)) (trivial)))))) (trivial)
        · refine awp_exit ?_
          refine hK9 _ ?_
          refine awp_seq fun K23 hK23 => ?_
          refine awp_region rfl ?_
          refine o_mv (AV.lit (.string (s))) rfl ?_
          refine o_mv (AV.lit (.int .i64 (k))) rfl ?_
          refine n_as (v' := (nm .i64 (k.toNat))) (nm_int (by omega)) ?_
          refine o_as (AV.lit (.string (s))) rfl ?_
          refine o_as (nm .i64 (k.toNat)) rfl ?_
          refine o_as (nm .i64 (0)) rfl ?_
          refine aops_end ?_
          refine hK23 _ ?_
          refine awp_ret ?_
          refine post_ret ⟨[(AV.lit (.string (s))), (nm .i64 (k.toNat)), (nm .i64 (0))], And.intro (AV.le_refl _) (And.intro (AV.le_refl _) (And.intro (AV.le_refl _) (trivial))), rfl, ?_⟩
          first | (rw [plyA_1 h1]; rfl) | (rw [plyA_2 hA0 (by omega)]; rfl) | (rw [hp, ply_stop (by omega) (by omega), txt_numS (okS_iff.1 ho)]; rfl) | (rw [hp, ply_big (by omega) (by omega) (tld_big h6), tld_3 (tld_big h6)]; rfl) | (rw [hp, show k.toNat - i = 0 by omega, show i = k.toNat by omega]; show AV.tup [.lit (.string (txt (numS s))), _, _] = _; rw [txt_numS (okS_iff.1 ho)]; rfl)

end Go.Proofs.YtpamhblonmpniaaDoor

set_option linter.unusedVariables false
set_option linter.unusedSimpArgs false
namespace Go.Proofs.YtpamhblonmpniaaDoor
open Go Go.Ab Go.Mth
theorem Ye_tA24 : tyAgg cx.P 24 = some 2 := by kernel_rfl
theorem Ye_tC17 : callable cx.P 17 = true := by kernel_rfl
theorem Ye_tF24_1 : tyField cx.P 24 1 = some (1, 22) := by kernel_rfl
theorem Ye_tS22 : tySc cx.P 22 = true := by kernel_rfl
theorem Ye_tU22 : cx.P.underlying 22 = some (.slice 52) := by kernel_rfl
theorem Ye_tE22 : tyElem cx.P 22 = some (52, 4, 32) := by kernel_rfl
theorem Ye_tA52 : tyAgg cx.P 52 = some 4 := by kernel_rfl
theorem Ye_tO52 : tyZero cx.P 52 = some [(Go.Value.int IntKind.i64 0), (Go.Value.int IntKind.i64 0), (Go.Value.int IntKind.i64 0), (Go.Value.int IntKind.i64 0)] := by kernel_rfl
theorem Ye_tZ52 : tySize cx.P 52 = some 4 := by kernel_rfl
theorem Ye_tC18 : callable cx.P 18 = true := by kernel_rfl
theorem Ye_tF52_1 : tyField cx.P 52 1 = some (1, 3) := by kernel_rfl
theorem Ye_tS3 : tySc cx.P 3 = true := by kernel_rfl
theorem Ye_tR53 : tyArr cx.P 53 = some (30, 3, 1) := by kernel_rfl
theorem Ye_tF52_0 : tyField cx.P 52 0 = some (0, 3) := by kernel_rfl
theorem Ye_tF52_2 : tyField cx.P 52 2 = some (2, 3) := by kernel_rfl
theorem Ye_tC20 : callable cx.P 20 = true := by kernel_rfl
theorem Ye_tC21 : callable cx.P 21 = true := by kernel_rfl
theorem Ye_tC19 : callable cx.P 19 = true := by kernel_rfl
theorem Ye_tE30 : tyElem cx.P 30 = some (50, 2, 32) := by kernel_rfl
theorem Ye_tO50 : tyZero cx.P 50 = some [(Go.Value.string {data := #[]}), (Go.Value.string {data := #[]})] := by kernel_rfl
theorem Ye_tF52_3 : tyField cx.P 52 3 = some (3, 3) := by kernel_rfl
theorem Ye_tA27 : tyAgg cx.P 27 = some 2 := by kernel_rfl
theorem Ye_tC22 : callable cx.P 22 = true := by kernel_rfl
theorem Ye_tF27_0 : tyField cx.P 27 0 = some (0, 3) := by kernel_rfl
theorem Ye_tC23 : callable cx.P 23 = true := by kernel_rfl
theorem Ye_tF27_1 : tyField cx.P 27 1 = some (1, 25) := by kernel_rfl
theorem Ye_tS25 : tySc cx.P 25 = true := by kernel_rfl
theorem Ye_tU25 : cx.P.underlying 25 = some (.slice 3) := by kernel_rfl
theorem Ye_tE25 : tyElem cx.P 25 = some (3, 1, 8) := by kernel_rfl
theorem Ye_tC24 : callable cx.P 24 = true := by kernel_rfl
theorem Ye_tC25 : callable cx.P 25 = true := by kernel_rfl
theorem c_Compile (m : Mac) : ECalls cx 7 [(macV m)] (.tup [.sl 2 (gcells cF (cmpR m)), nm .i64 (cmpE m)]) := by
  refine ecalls_of_awp Tryd.func7 (c := _) rfl (Nat.le_of_ble_eq_true rfl) ?_
  show awp cx 81 _ (postF cx Tryd.f7 _) ⟨[(0, (macV m))], []⟩
  refine awp_seq fun K0 hK0 => ?_
  refine awp_region rfl ?_
  refine o_box 2 [(AV.lit (.int .i64 (m.regs))), (AV.sl 4 (gcells cI (m.code)))] Gd.none rfl rfl ?_
  refine o_as (AV.lit (.slice none 0 0)) rfl ?_
  refine o_as (nm .i64 (0)) rfl ?_
  refine aops_end ?_
  refine hK0 _ ?_
  refine awp_seq fun K1 hK1 => ?_
  refine awp_seq fun K2 hK2 => ?_
  refine awp_region rfl ?_
  refine o_loadA [(AV.lit (.int .i64 (m.regs))), (AV.sl 4 (gcells cI (m.code)))] Gd.none Ye_tA24 rfl rfl rfl rfl rfl ?_
  refine o_ct (c_fValid m) Gd.none Ye_tC17 rfl ?_
  refine o_notP (q := okMac m) Gd.none rfl ?_
  refine aops_end ?_
  refine hK2 _ ?_
  refine awp_condQ (q := ¬ (okMac m)) rfl (fun h1 => ?_) (fun h1 => ?_)
  · refine awp_seq fun K3 hK3 => ?_
    refine awp_region rfl ?_
    refine o_as (AV.lit (.slice none 0 0)) rfl ?_
    refine o_as (nm .i64 (1)) rfl ?_
    refine aops_end ?_
    refine hK3 _ ?_
    refine awp_ret ?_
    refine post_ret ⟨[(AV.sl 2 (gcells cF ([]))), (nm .i64 (1))], And.intro (AV.le_nil' (by decide) (by first | rfl | simp [digs_zero, ns, is])) (And.intro (AV.le_refl _) (trivial)), rfl, ?_⟩
    rw [cmpR, cmpE, if_neg (by assumption), if_neg (by assumption)]; rfl
  · have hM := Decidable.not_not.1 h1
    have hM2 := hM
    obtain ⟨o1, o2, o3, o4, o5⟩ := hM2
    refine awp_skip ?_
    refine hK1 _ ?_
    refine awp_seq fun K4 hK4 => ?_
    refine awp_region rfl ?_
    refine o_as (AV.lit (.slice none 0 0)) rfl ?_
    refine aops_end ?_
    refine hK4 _ ?_
    refine awp_seq fun K5 hK5 => ?_
    refine awp_seq fun K6 hK6 => ?_
    refine awp_region rfl ?_
    refine o_fieldRef 1 Gd.none Ye_tF24_1 rfl rfl ?_
    refine o_loadS (AV.sl 4 (gcells cI (m.code))) Gd.none Ye_tS22 rfl rfl rfl ?_
    refine g_len cI (m.code) cI_len Gd.none Ye_tU22 rfl ?_
    refine o_mv (nm .i64 (0)) rfl ?_
    refine aops_end ?_
    refine hK6 _ ?_
    refine awp_block ?_
    refine awp_loopR (fun κ σ => ∃ (i : Nat), (i ≤ m.code.length) ∧ (m.code.length - i) = κ ∧ σ = ⟨[(1, (AV.ref 2 (0))), (4, (AV.row 50)), (13, (AV.sl 4 (gcells cI (m.code)))), (14, (nm .i64 (m.code.length))), (15, (nm .i64 (i)))], [(2, (AO.var 24 [(AV.lit (.int .i64 (m.regs))), (AV.sl 4 (gcells cI (m.code)))])), (50, (AO.row 50 2 (gcells cF (cmp1 m i))))]⟩) ⟨_, _, ⟨0, (by omega), rfl, rfl⟩, ?wk0⟩ ?rd0
    case wk0 =>
      exact Wk.trans (Wk.newNil (i := 4) (id := 503) (e := 50) (sz := 2) rfl rfl (by decide)) (Wk.trans (Wk.sub (σ' := ⟨[(1, (AV.ref 2 (0))), (4, (AV.row 503)), (13, (AV.sl 4 (gcells cI (m.code)))), (14, (nm .i64 ((m.code).length))), (15, (nm .i64 (0)))], [(2, (AO.var 24 [(AV.lit (.int .i64 (m.regs))), (AV.sl 4 (gcells cI (m.code)))])), (503, (AO.row 50 2 (gcells cF ([]))))]⟩) (And.intro rfl (And.intro rfl (And.intro rfl (And.intro rfl (And.intro rfl (trivial)))))) (And.intro rfl (And.intro rfl (trivial)))) (Wk.trans (Wk.ren (id := 503) (id' := 50) rfl) (Wk.sub (And.intro rfl (And.intro (by first | rfl | (simp)) (And.intro rfl (And.intro (by first | rfl | exact congrArg (nm _) (by omega) | exact nm_int (by omega) | exact nm_int (by simp [IntKind.wrap, IntKind.bits, IntKind.signed]; omega)) (And.intro (by first | rfl | exact congrArg (nm _) (by omega) | exact nm_int (by omega) | exact nm_int (by simp [IntKind.wrap, IntKind.bits, IntKind.signed]; omega)) (trivial)))))) (And.intro (by first | rfl | (exact row_gs (by first | exact cmp1_a rfl (by omega) | exact cmp1_b rfl (by omega) | rfl | (rw [show i = m.code.length by omega]; rfl)))) (And.intro (by first | rfl | exact row_ns (by simp) | (exact row_gs (by first | exact cmp1_a rfl (by omega) | exact cmp1_b rfl (by omega) | rfl | (rw [show i = m.code.length by omega]; rfl)))) (trivial))))))
    rintro κ _ ⟨i, hi, rfl, rfl⟩
    have hle := cmp1_len m i
    refine awp_seq fun K7 hK7 => ?_
    refine awp_region rfl ?_
    refine n_lss (i) (m.code.length) Gd.none rfl rfl ?_
    refine aops_end ?_
    refine hK7 _ ?_
    refine awp_seq fun K8 hK8 => ?_
    refine awp_condQ (q := (i) < (m.code.length)) rfl (fun h2 => ?_) (fun h2 => ?_)
    · have hx := o5 _ (gdm (d := default) h2)
      obtain ⟨⟨x1, x2, x3⟩, x4⟩ := hx
      unfold plc at x3 x4
      have b1 := p30_bd ((m.code).getD (i) default).reg.toNat
      have b2 := twnP_bd m ((m.code).getD (i) default).next
      have b3 := ownP_bd m ((i : Nat) : Int)
      have b4 := Nat.mul_le_mul b2 b1
      have b5 := Nat.mul_le_mul b3 b1
      have b6 := twnP_bd m ((m.code).getD (i) default).els
      refine awp_skip ?_
      refine hK8 _ ?_
      refine awp_seq fun K9 hK9 => ?_
      refine awp_block ?_
      refine awp_seq fun K10 hK10 => ?_
      refine awp_region rfl ?_
      refine o_mv (nm .i64 (i)) rfl ?_
      refine g_index cI (m.code) (i) cI_len rfl Gd.none Ye_tE22 rfl rfl (by omega) ?_
      refine g_loadA cI (m.code) (i) default cI_len Gd.none Ye_tA52 rfl (by omega) ?_
      refine o_alloc 101 [(nm .i64 (0)), (nm .i64 (0)), (nm .i64 (0)), (nm .i64 (0))] Gd.none Ye_tO52 rfl rfl rfl ?_
      refine o_as (nm .i64 (i)) rfl ?_
      refine o_store [(101, (AO.var 52 [(AV.lit (.int .i64 ((((m.code).getD (i) default)).kind))), (AV.lit (.int .i64 ((((m.code).getD (i) default)).reg))), (AV.lit (.int .i64 ((((m.code).getD (i) default)).next))), (AV.lit (.int .i64 ((((m.code).getD (i) default)).els)))])), (2, (AO.var 24 [(AV.lit (.int .i64 (m.regs))), (AV.sl 4 (gcells cI (m.code)))])), (50, (AO.row 50 2 (gcells cF (cmp1 m i))))] Gd.none Ye_tZ52 rfl rfl rfl rfl rfl rfl ?_
      refine aops_end ?_
      refine hK10 _ ?_
      refine awp_seq fun K11 hK11 => ?_
      refine awp_regionD rfl ?_
      refine o_ct c_primes Gd.none Ye_tC18 rfl ?_
      refine o_fieldRef 1 Gd.none Ye_tF52_1 rfl rfl ?_
      refine o_loadS (AV.lit (.int .i64 ((((m.code).getD (i) default)).reg))) Gd.none Ye_tS3 rfl rfl rfl ?_
      refine n_as (v' := (nm .i64 (((m.code).getD (i) default).reg.toNat))) (nm_int (by omega)) ?_
      refine n_indexAgg (P30) (((m.code).getD (i) default).reg.toNat) Gd.none Ye_tR53 Ye_tS3 rfl rfl (by rfl) (by omega) ?_
      refine o_as (nm .i64 ((P30).getD (((m.code).getD (i) default).reg.toNat) 0)) rfl ?_
      refine aops_end ⟨by kernel_rfl, ?_⟩
      refine hK11 _ ?_
      refine awp_seq fun K12 hK12 => ?_
      refine awp_seq fun K13 hK13 => ?_
      refine awp_region rfl ?_
      refine o_fieldRef 0 Gd.none Ye_tF52_0 rfl rfl ?_
      refine o_loadS (AV.lit (.int .i64 ((((m.code).getD (i) default)).kind))) Gd.none Ye_tS3 rfl rfl rfl ?_
      refine o_eql (a := ((((m.code).getD (i) default)).kind)) (c := (((0 : Nat) : Int))) Gd.none rfl rfl ?_
      refine aops_end ?_
      refine hK13 _ ?_
      refine awp_condQ (q := ((((m.code).getD (i) default)).kind) = (((0 : Nat) : Int))) rfl (fun h3 => ?_) (fun h3 => ?_)
      · refine awp_seq fun K14 hK14 => ?_
        refine awp_regionD rfl ?_
        refine o_mv (AV.row 50) rfl ?_
        refine o_loadA [(AV.lit (.int .i64 (m.regs))), (AV.sl 4 (gcells cI (m.code)))] Gd.none Ye_tA24 rfl rfl rfl rfl rfl ?_
        refine o_fieldRef 2 Gd.none Ye_tF52_2 rfl rfl ?_
        refine o_loadS (AV.lit (.int .i64 ((((m.code).getD (i) default)).next))) Gd.none Ye_tS3 rfl rfl rfl ?_
        refine o_ct (c_twin m ((((m.code).getD (i) default)).next) (by omega) (by omega) (by omega) (by omega)) Gd.none Ye_tC20 rfl ?_
        refine o_mv (nm .i64 ((P30).getD (((m.code).getD (i) default).reg.toNat) 0)) rfl ?_
        refine n_mul (twnP m ((((m.code).getD (i) default)).next)) ((P30).getD (((m.code).getD (i) default).reg.toNat) 0) Gd.none rfl rfl (by simp only [topOf]; omega) ?_
        refine o_loadA [(AV.lit (.int .i64 (m.regs))), (AV.sl 4 (gcells cI (m.code)))] Gd.none Ye_tA24 rfl rfl rfl rfl rfl ?_
        refine o_mv (nm .i64 (i)) rfl ?_
        refine o_ct (c_own m (((i : Nat) : Int)) (by omega) (by omega) (by omega) (by omega)) Gd.none Ye_tC21 rfl ?_
        refine o_ct (c_frac ((twnP m ((((m.code).getD (i) default)).next)) * ((P30).getD (((m.code).getD (i) default).reg.toNat) 0)) (ownP m (((i : Nat) : Int))) (by omega) (by omega)) Gd.none Ye_tC19 rfl ?_
        refine o_buildSlice 102 (gcells cF ([(Frc.mk (txt (((twnP m ((((m.code).getD (i) default)).next)) * ((P30).getD (((m.code).getD (i) default).reg.toNat) 0) : Nat) : Int)) (txt ((ownP m (((i : Nat) : Int)) : Nat) : Int)))])) [(0, [(AV.lit (.string (txt (((twnP m ((((m.code).getD (i) default)).next)) * ((P30).getD (((m.code).getD (i) default).reg.toNat) 0) : Nat) : Int)))), (AV.lit (.string (txt ((ownP m (((i : Nat) : Int)) : Nat) : Int))))])] Gd.none Ye_tE30 rfl Ye_tO50 rfl rfl rfl rfl rfl rfl rfl ?_
        refine g_append cF 103 (cmp1 m i) ([(Frc.mk (txt (((twnP m ((((m.code).getD (i) default)).next)) * ((P30).getD (((m.code).getD (i) default).reg.toNat) 0) : Nat) : Int)) (txt ((ownP m (((i : Nat) : Int)) : Nat) : Int)))]) [(102, (AO.row 50 2 (gcells cF ([(Frc.mk (txt (((twnP m ((((m.code).getD (i) default)).next)) * ((P30).getD (((m.code).getD (i) default).reg.toNat) 0) : Nat) : Int)) (txt ((ownP m (((i : Nat) : Int)) : Nat) : Int)))])))), (101, (AO.var 52 [(AV.lit (.int .i64 ((((m.code).getD (i) default)).kind))), (AV.lit (.int .i64 ((((m.code).getD (i) default)).reg))), (AV.lit (.int .i64 ((((m.code).getD (i) default)).next))), (AV.lit (.int .i64 ((((m.code).getD (i) default)).els)))])), (2, (AO.var 24 [(AV.lit (.int .i64 (m.regs))), (AV.sl 4 (gcells cI (m.code)))]))] cF_len rfl Gd.none Ye_tE30 Ye_tO50 rfl rfl rfl rfl rfl (by simp only [List.length_append, List.length_cons, List.length_nil]; omega) (by simp only [List.length_append, List.length_cons, List.length_nil]; omega) rfl rfl ?_
        refine o_as (AV.row 103) rfl ?_
        refine aops_end ⟨by kernel_rfl, ?_⟩
        refine hK14 _ ?_
        refine awp_exit ?_
        refine hK9 _ ?_
        refine awp_region rfl ?_
        refine n_add (i) (1) Gd.none rfl rfl (by simp only [topOf]; omega) ?_
        refine o_mv (nm .i64 ((i) + (1))) rfl ?_
        refine aops_end ?_
        refine ⟨_, _, ?lt, ⟨i + 1, (by omega), rfl, rfl⟩, ?wk⟩
        case lt => omega
        case wk => exact Wk.trans (Wk.sub (σ' := ⟨[(1, (AV.ref 2 (0))), (4, (AV.row 103)), (13, (AV.sl 4 (gcells cI (m.code)))), (14, (nm .i64 (m.code.length))), (15, (nm .i64 ((i) + (1))))], [(2, (AO.var 24 [(AV.lit (.int .i64 (m.regs))), (AV.sl 4 (gcells cI (m.code)))])), (103, (AO.row 50 2 (gcells cF ((cmp1 m i) ++ ([(Frc.mk (txt (((twnP m ((((m.code).getD (i) default)).next)) * ((P30).getD (((m.code).getD (i) default).reg.toNat) 0) : Nat) : Int)) (txt ((ownP m (((i : Nat) : Int)) : Nat) : Int)))])))))]⟩) (And.intro rfl (And.intro rfl (And.intro rfl (And.intro rfl (And.intro rfl (trivial)))))) (And.intro rfl (And.intro rfl (trivial)))) (Wk.trans (Wk.ren (id := 103) (id' := 50) rfl) (Wk.sub (And.intro rfl (And.intro (by first | rfl | (simp)) (And.intro rfl (And.intro rfl (And.intro (by first | rfl | exact congrArg (nm _) (by omega) | exact nm_int (by omega) | exact nm_int (by simp [IntKind.wrap, IntKind.bits, IntKind.signed]; omega)) (trivial)))))) (And.intro rfl (And.intro (by first | rfl | exact row_ns (by simp) | (exact row_gs (by first | exact cmp1_a rfl (by omega) | exact cmp1_b rfl (by omega) | rfl | (rw [show i = m.code.length by omega]; rfl)))) (trivial)))))
      · refine awp_skip ?_
        refine hK12 _ ?_
        refine awp_regionD rfl ?_
        refine o_mv (AV.row 50) rfl ?_
        refine o_loadA [(AV.lit (.int .i64 (m.regs))), (AV.sl 4 (gcells cI (m.code)))] Gd.none Ye_tA24 rfl rfl rfl rfl rfl ?_
        refine o_fieldRef 2 Gd.none Ye_tF52_2 rfl rfl ?_
        refine o_loadS (AV.lit (.int .i64 ((((m.code).getD (i) default)).next))) Gd.none Ye_tS3 rfl rfl rfl ?_
        refine o_ct (c_twin m ((((m.code).getD (i) default)).next) (by omega) (by omega) (by omega) (by omega)) Gd.none Ye_tC20 rfl ?_
        refine o_loadA [(AV.lit (.int .i64 (m.regs))), (AV.sl 4 (gcells cI (m.code)))] Gd.none Ye_tA24 rfl rfl rfl rfl rfl ?_
        refine o_mv (nm .i64 (i)) rfl ?_
        refine o_ct (c_own m (((i : Nat) : Int)) (by omega) (by omega) (by omega) (by omega)) Gd.none Ye_tC21 rfl ?_
        refine o_mv (nm .i64 ((P30).getD (((m.code).getD (i) default).reg.toNat) 0)) rfl ?_
        refine n_mul (ownP m (((i : Nat) : Int))) ((P30).getD (((m.code).getD (i) default).reg.toNat) 0) Gd.none rfl rfl (by simp only [topOf]; omega) ?_
        refine o_ct (c_frac (twnP m ((((m.code).getD (i) default)).next)) ((ownP m (((i : Nat) : Int))) * ((P30).getD (((m.code).getD (i) default).reg.toNat) 0)) (by omega) (by omega)) Gd.none Ye_tC19 rfl ?_
        refine o_loadA [(AV.lit (.int .i64 (m.regs))), (AV.sl 4 (gcells cI (m.code)))] Gd.none Ye_tA24 rfl rfl rfl rfl rfl ?_
        refine o_fieldRef 3 Gd.none Ye_tF52_3 rfl rfl ?_
        refine o_loadS (AV.lit (.int .i64 ((((m.code).getD (i) default)).els))) Gd.none Ye_tS3 rfl rfl rfl ?_
        refine o_ct (c_twin m ((((m.code).getD (i) default)).els) (by omega) (by omega) (by omega) (by omega)) Gd.none Ye_tC20 rfl ?_
        refine o_loadA [(AV.lit (.int .i64 (m.regs))), (AV.sl 4 (gcells cI (m.code)))] Gd.none Ye_tA24 rfl rfl rfl rfl rfl ?_
        refine o_mv (nm .i64 (i)) rfl ?_
        refine o_ct (c_own m (((i : Nat) : Int)) (by omega) (by omega) (by omega) (by omega)) Gd.none Ye_tC21 rfl ?_
        refine o_ct (c_frac (twnP m ((((m.code).getD (i) default)).els)) (ownP m (((i : Nat) : Int))) (by omega) (by omega)) Gd.none Ye_tC19 rfl ?_
        refine o_buildSlice 102 (gcells cF ([(Frc.mk (txt ((twnP m ((((m.code).getD (i) default)).next) : Nat) : Int)) (txt (((ownP m (((i : Nat) : Int))) * ((P30).getD (((m.code).getD (i) default).reg.toNat) 0) : Nat) : Int))), (Frc.mk (txt ((twnP m ((((m.code).getD (i) default)).els) : Nat) : Int)) (txt ((ownP m (((i : Nat) : Int)) : Nat) : Int)))])) [(0, [(AV.lit (.string (txt ((twnP m ((((m.code).getD (i) default)).next) : Nat) : Int)))), (AV.lit (.string (txt (((ownP m (((i : Nat) : Int))) * ((P30).getD (((m.code).getD (i) default).reg.toNat) 0) : Nat) : Int))))]), (1, [(AV.lit (.string (txt ((twnP m ((((m.code).getD (i) default)).els) : Nat) : Int)))), (AV.lit (.string (txt ((ownP m (((i : Nat) : Int)) : Nat) : Int))))])] Gd.none Ye_tE30 rfl Ye_tO50 rfl rfl rfl rfl rfl rfl rfl ?_
        refine g_append cF 103 (cmp1 m i) ([(Frc.mk (txt ((twnP m ((((m.code).getD (i) default)).next) : Nat) : Int)) (txt (((ownP m (((i : Nat) : Int))) * ((P30).getD (((m.code).getD (i) default).reg.toNat) 0) : Nat) : Int))), (Frc.mk (txt ((twnP m ((((m.code).getD (i) default)).els) : Nat) : Int)) (txt ((ownP m (((i : Nat) : Int)) : Nat) : Int)))]) [(102, (AO.row 50 2 (gcells cF ([(Frc.mk (txt ((twnP m ((((m.code).getD (i) default)).next) : Nat) : Int)) (txt (((ownP m (((i : Nat) : Int))) * ((P30).getD (((m.code).getD (i) default).reg.toNat) 0) : Nat) : Int))), (Frc.mk (txt ((twnP m ((((m.code).getD (i) default)).els) : Nat) : Int)) (txt ((ownP m (((i : Nat) : Int)) : Nat) : Int)))])))), (101, (AO.var 52 [(AV.lit (.int .i64 ((((m.code).getD (i) default)).kind))), (AV.lit (.int .i64 ((((m.code).getD (i) default)).reg))), (AV.lit (.int .i64 ((((m.code).getD (i) default)).next))), (AV.lit (.int .i64 ((((m.code).getD (i) default)).els)))])), (2, (AO.var 24 [(AV.lit (.int .i64 (m.regs))), (AV.sl 4 (gcells cI (m.code)))]))] cF_len rfl Gd.none Ye_tE30 Ye_tO50 rfl rfl rfl rfl rfl (by simp only [List.length_append, List.length_cons, List.length_nil]; omega) (by simp only [List.length_append, List.length_cons, List.length_nil]; omega) rfl rfl ?_
        refine o_as (AV.row 103) rfl ?_
        refine aops_end ⟨by kernel_rfl, ?_⟩
        refine hK9 _ ?_
        refine awp_region rfl ?_
        refine n_add (i) (1) Gd.none rfl rfl (by simp only [topOf]; omega) ?_
        refine o_mv (nm .i64 ((i) + (1))) rfl ?_
        refine aops_end ?_
        refine ⟨_, _, ?lt, ⟨i + 1, (by omega), rfl, rfl⟩, ?wk⟩
        case lt => omega
        case wk => exact Wk.trans (Wk.sub (σ' := ⟨[(1, (AV.ref 2 (0))), (4, (AV.row 103)), (13, (AV.sl 4 (gcells cI (m.code)))), (14, (nm .i64 (m.code.length))), (15, (nm .i64 ((i) + (1))))], [(2, (AO.var 24 [(AV.lit (.int .i64 (m.regs))), (AV.sl 4 (gcells cI (m.code)))])), (103, (AO.row 50 2 (gcells cF ((cmp1 m i) ++ ([(Frc.mk (txt ((twnP m ((((m.code).getD (i) default)).next) : Nat) : Int)) (txt (((ownP m (((i : Nat) : Int))) * ((P30).getD (((m.code).getD (i) default).reg.toNat) 0) : Nat) : Int))), (Frc.mk (txt ((twnP m ((((m.code).getD (i) default)).els) : Nat) : Int)) (txt ((ownP m (((i : Nat) : Int)) : Nat) : Int)))])))))]⟩) (And.intro rfl (And.intro rfl (And.intro rfl (And.intro rfl (And.intro rfl (trivial)))))) (And.intro rfl (And.intro rfl (trivial)))) (Wk.trans (Wk.ren (id := 103) (id' := 50) rfl) (Wk.sub (And.intro rfl (And.intro (by first | rfl | (simp)) (And.intro rfl (And.intro rfl (And.intro (by first | rfl | exact congrArg (nm _) (by omega) | exact nm_int (by omega) | exact nm_int (by simp [IntKind.wrap, IntKind.bits, IntKind.signed]; omega)) (trivial)))))) (And.intro rfl (And.intro (by first | rfl | exact row_ns (by simp) | (exact row_gs (by first | exact cmp1_a rfl (by omega) | exact cmp1_b rfl (by omega) | rfl | (rw [show i = m.code.length by omega]; rfl)))) (trivial)))))
    · refine awp_exit ?_
      refine hK5 _ ?_
      refine awp_seq fun K15 hK15 => ?_
      refine awp_seq fun K16 hK16 => ?_
      refine awp_region rfl ?_
      refine o_fieldRef 1 Gd.none Ye_tF24_1 rfl rfl ?_
      refine o_loadS (AV.sl 4 (gcells cI (m.code))) Gd.none Ye_tS22 rfl rfl rfl ?_
      refine g_len cI (m.code) cI_len Gd.none Ye_tU22 rfl ?_
      refine n_add ((m.code).length) (1) Gd.none rfl rfl (by simp only [topOf]; omega) ?_
      refine o_mv (nm .i64 (0)) rfl ?_
      refine aops_end ?_
      refine hK16 _ ?_
      refine awp_block ?_
      refine awp_loopR (fun κ σ => ∃ (j : Nat), (j ≤ m.code.length + 1) ∧ (m.code.length + 1 - j) = κ ∧ σ = ⟨[(1, (AV.ref 2 (0))), (4, (AV.row 50)), (65, (nm .i64 (m.code.length + 1))), (66, (nm .i64 (j)))], [(2, (AO.var 24 [(AV.lit (.int .i64 (m.regs))), (AV.sl 4 (gcells cI (m.code)))])), (50, (AO.row 50 2 (gcells cF (cmp2 m j))))]⟩) ⟨_, _, ⟨0, (by omega), rfl, rfl⟩, ?wk1⟩ ?rd1
      case wk1 =>
        exact Wk.sub (And.intro rfl (And.intro rfl (And.intro (by first | rfl | exact congrArg (nm _) (by omega) | exact nm_int (by omega) | exact nm_int (by simp [IntKind.wrap, IntKind.bits, IntKind.signed]; omega)) (And.intro (by first | rfl | exact congrArg (nm _) (by omega) | exact nm_int (by omega) | exact nm_int (by simp [IntKind.wrap, IntKind.bits, IntKind.signed]; omega)) (trivial))))) (And.intro rfl (And.intro (by first | rfl | exact row_ns (by simp) | (exact row_gs (by first | exact cmp1_a rfl (by omega) | exact cmp1_b rfl (by omega) | rfl | (rw [show i = m.code.length by omega]; rfl)))) (trivial)))
      rintro κ _ ⟨j, hj, rfl, rfl⟩
      have hle := cmp2_len m j
      refine awp_seq fun K17 hK17 => ?_
      refine awp_region rfl ?_
      refine n_lss (j) (m.code.length + 1) Gd.none rfl rfl ?_
      refine aops_end ?_
      refine hK17 _ ?_
      refine awp_seq fun K18 hK18 => ?_
      refine awp_condQ (q := (j) < (m.code.length + 1)) rfl (fun h4 => ?_) (fun h4 => ?_)
      · have b7 := ownP_bd m ((j : Nat) : Int)
        have b8 := twnP_bd m ((j : Nat) : Int)
        refine awp_skip ?_
        refine hK18 _ ?_
        refine awp_seq fun K19 hK19 => ?_
        refine awp_block ?_
        refine awp_seq fun K20 hK20 => ?_
        refine awp_region rfl ?_
        refine o_mv (nm .i64 (j)) rfl ?_
        refine o_as (nm .i64 (j)) rfl ?_
        refine aops_end ?_
        refine hK20 _ ?_
        refine awp_regionD rfl ?_
        refine o_mv (AV.row 50) rfl ?_
        refine o_loadA [(AV.lit (.int .i64 (m.regs))), (AV.sl 4 (gcells cI (m.code)))] Gd.none Ye_tA24 rfl rfl rfl rfl rfl ?_
        refine o_mv (nm .i64 (j)) rfl ?_
        refine o_ct (c_own m (((j : Nat) : Int)) (by omega) (by omega) (by omega) (by omega)) Gd.none Ye_tC21 rfl ?_
        refine o_loadA [(AV.lit (.int .i64 (m.regs))), (AV.sl 4 (gcells cI (m.code)))] Gd.none Ye_tA24 rfl rfl rfl rfl rfl ?_
        refine o_mv (nm .i64 (j)) rfl ?_
        refine o_ct (c_twin m (((j : Nat) : Int)) (by omega) (by omega) (by omega) (by omega)) Gd.none Ye_tC20 rfl ?_
        refine o_ct (c_frac (ownP m (((j : Nat) : Int))) (twnP m (((j : Nat) : Int))) (by omega) (by omega)) Gd.none Ye_tC19 rfl ?_
        refine o_buildSlice 201 (gcells cF ([(Frc.mk (txt ((ownP m (((j : Nat) : Int)) : Nat) : Int)) (txt ((twnP m (((j : Nat) : Int)) : Nat) : Int)))])) [(0, [(AV.lit (.string (txt ((ownP m (((j : Nat) : Int)) : Nat) : Int)))), (AV.lit (.string (txt ((twnP m (((j : Nat) : Int)) : Nat) : Int))))])] Gd.none Ye_tE30 rfl Ye_tO50 rfl rfl rfl rfl rfl rfl rfl ?_
        refine g_append cF 202 (cmp2 m j) ([(Frc.mk (txt ((ownP m (((j : Nat) : Int)) : Nat) : Int)) (txt ((twnP m (((j : Nat) : Int)) : Nat) : Int)))]) [(201, (AO.row 50 2 (gcells cF ([(Frc.mk (txt ((ownP m (((j : Nat) : Int)) : Nat) : Int)) (txt ((twnP m (((j : Nat) : Int)) : Nat) : Int)))])))), (2, (AO.var 24 [(AV.lit (.int .i64 (m.regs))), (AV.sl 4 (gcells cI (m.code)))]))] cF_len rfl Gd.none Ye_tE30 Ye_tO50 rfl rfl rfl rfl rfl (by simp only [List.length_append, List.length_cons, List.length_nil]; omega) (by simp only [List.length_append, List.length_cons, List.length_nil]; omega) rfl rfl ?_
        refine o_as (AV.row 202) rfl ?_
        refine aops_end ⟨by kernel_rfl, ?_⟩
        refine hK19 _ ?_
        refine awp_region rfl ?_
        refine n_add (j) (1) Gd.none rfl rfl (by simp only [topOf]; omega) ?_
        refine o_mv (nm .i64 ((j) + (1))) rfl ?_
        refine aops_end ?_
        refine ⟨_, _, ?lt, ⟨j + 1, (by omega), rfl, rfl⟩, ?wk⟩
        case lt => omega
        case wk => exact Wk.trans (Wk.sub (σ' := ⟨[(1, (AV.ref 2 (0))), (4, (AV.row 202)), (65, (nm .i64 (m.code.length + 1))), (66, (nm .i64 ((j) + (1))))], [(2, (AO.var 24 [(AV.lit (.int .i64 (m.regs))), (AV.sl 4 (gcells cI (m.code)))])), (202, (AO.row 50 2 (gcells cF ((cmp2 m j) ++ ([(Frc.mk (txt ((ownP m (((j : Nat) : Int)) : Nat) : Int)) (txt ((twnP m (((j : Nat) : Int)) : Nat) : Int)))])))))]⟩) (And.intro rfl (And.intro rfl (And.intro rfl (And.intro rfl (trivial))))) (And.intro rfl (And.intro rfl (trivial)))) (Wk.trans (Wk.ren (id := 202) (id' := 50) rfl) (Wk.sub (And.intro rfl (And.intro (by first | rfl | (simp)) (And.intro rfl (And.intro (by first | rfl | exact congrArg (nm _) (by omega) | exact nm_int (by omega) | exact nm_int (by simp [IntKind.wrap, IntKind.bits, IntKind.signed]; omega)) (trivial))))) (And.intro rfl (And.intro (by first | rfl | exact row_ns (by simp) | (exact row_gs (by first | exact cmp1_a rfl (by omega) | exact cmp1_b rfl (by omega) | rfl | (rw [show i = m.code.length by omega]; rfl)))) (trivial)))))
      · refine awp_exit ?_
        refine hK15 _ ?_
        refine awp_seq fun K21 hK21 => ?_
        refine awp_region rfl ?_
        refine o_mv (AV.row 50) rfl ?_
        refine o_as (AV.row 50) rfl ?_
        refine o_as (nm .i64 (0)) rfl ?_
        refine aops_end ?_
        refine hK21 _ ?_
        refine awp_wk (σ' := ⟨[(2, (AV.row 50)), (3, (nm .i64 (0)))], [(50, (AO.row 50 2 (gcells cF (cmp2 m j))))]⟩) (Wk.sub (And.intro rfl (And.intro rfl (trivial))) (And.intro rfl (trivial))) ?_
        refine awp_wk (σ' := ⟨[(2, (AV.sl 2 (gcells cF (cmp2 m j)))), (3, (nm .i64 (0)))], []⟩) (Wk.freeze (id := 50) (e := 50) (sz := 2) (cs := (gcells cF (cmp2 m j))) rfl) ?_
        refine awp_ret ?_
        refine post_ret ⟨[(AV.sl 2 (gcells cF (cmp2 m j))), (nm .i64 (0))], And.intro (AV.le_refl _) (And.intro (AV.le_refl _) (trivial)), rfl, ?_⟩
        rw [cmpR, cmpE, if_pos hM, if_pos hM, show m.code.length + 1 = j by omega]; rfl

theorem c_Encode (m : Mac) (c : Cfg) : ECalls cx 8 [(macV m), (cfgV c)] (.tup [.lit (.string (encS m c)), nm .i64 (encE m c)]) := by
  refine ecalls_of_awp Tryd.func8 (c := _) rfl (Nat.le_of_ble_eq_true rfl) ?_
  show awp cx 50 _ (postF cx Tryd.f8 _) ⟨[(0, (macV m)), (1, (cfgV c))], []⟩
  refine awp_seq fun K0 hK0 => ?_
  refine awp_region rfl ?_
  refine o_box 2 [(AV.lit (.int .i64 (m.regs))), (AV.sl 4 (gcells cI (m.code)))] Gd.none rfl rfl ?_
  refine o_box 3 [(AV.lit (.int .i64 (c.at'))), (AV.sl 1 (is .i64 (c.regs)))] Gd.none rfl rfl ?_
  refine o_as (AV.lit (.string (({data := #[]} : ByteArray)))) rfl ?_
  refine o_as (nm .i64 (0)) rfl ?_
  refine aops_end ?_
  refine hK0 _ ?_
  refine awp_seq fun K1 hK1 => ?_
  refine awp_seq fun K2 hK2 => ?_
  refine awp_region rfl ?_
  refine o_loadA [(AV.lit (.int .i64 (m.regs))), (AV.sl 4 (gcells cI (m.code)))] Gd.none Ye_tA24 rfl rfl rfl rfl rfl ?_
  refine o_loadA [(AV.lit (.int .i64 (c.at'))), (AV.sl 1 (is .i64 (c.regs)))] Gd.none Ye_tA27 rfl rfl rfl rfl rfl ?_
  refine o_ct (c_fFits m c) Gd.none Ye_tC22 rfl ?_
  refine o_notP (q := okCfg m c) Gd.none rfl ?_
  refine aops_end ?_
  refine hK2 _ ?_
  refine awp_condQ (q := ¬ (okCfg m c)) rfl (fun h1 => ?_) (fun h1 => ?_)
  · refine awp_seq fun K3 hK3 => ?_
    refine awp_region rfl ?_
    refine o_as (AV.lit (.string (({data := #[]} : ByteArray)))) rfl ?_
    refine o_as (nm .i64 (1)) rfl ?_
    refine aops_end ?_
    refine hK3 _ ?_
    refine awp_ret ?_
    refine post_ret ⟨[(AV.lit (.string (({data := #[]} : ByteArray)))), (nm .i64 (1))], And.intro (AV.le_refl _) (And.intro (AV.le_refl _) (trivial)), rfl, ?_⟩
    first | (rw [encS, encE, if_neg (by assumption), if_neg (by assumption)]; rfl) | (have hN : ¬ Fit (numC m c) := (by rw [hp, hdr]; intro hf; first | exact tld_big (by assumption) (fit_mul_le pp pr (fit_mul_le hz (Int.mul_pos pp pr) hf).2).1 | exact tld_big (by assumption) (fit_mul_le (Int.mul_pos hz pp) pr (by rw [Int.mul_assoc]; exact hf)).1); rw [encS, encE, if_pos hC, if_pos hC, tld_3 hN, show toldS (numC m c) = { data := #[] } from if_neg hN]; rw [tld_3 (tld_big (by assumption))]; rfl) | (have hE : numC m c = numS s := (by rw [hp, List.drop_of_length_le (by omega)]; exact Int.mul_one _); have hf := fit_numS (okS_iff.1 ho); rw [encS, encE, if_pos hC, if_pos hC, hE, (told_fit hf).1, (told_fit hf).2, txt_numS (okS_iff.1 ho)]; rfl)
  · have hC := Decidable.not_not.1 h1
    have hC2 := hC
    obtain ⟨⟨o1, o2, o3, o4, o5⟩, q1, q2, q3⟩ := hC2
    unfold plc at q1
    have b0 := ownP_bd m c.at'
    have os := txt_sz2 (fit_113 b0)
    have ow : 2 ≤ ownP m c.at' := p30_ge _ (by omega)
    refine awp_skip ?_
    refine hK1 _ ?_
    refine awp_seq fun K4 hK4 => ?_
    refine awp_region rfl ?_
    refine o_loadA [(AV.lit (.int .i64 (m.regs))), (AV.sl 4 (gcells cI (m.code)))] Gd.none Ye_tA24 rfl rfl rfl rfl rfl ?_
    refine o_fieldRef 0 Gd.none Ye_tF27_0 rfl rfl ?_
    refine o_loadS (AV.lit (.int .i64 (c.at'))) Gd.none Ye_tS3 rfl rfl rfl ?_
    refine o_ct (c_own m (c.at') (by omega) (by omega) (by omega) (by omega)) Gd.none Ye_tC21 rfl ?_
    refine o_ct (c_itoa (ownP m (c.at')) (by omega)) Gd.none Ye_tC23 rfl ?_
    refine o_as (AV.lit (.string (txt ((ownP m (c.at') : Nat) : Int)))) rfl ?_
    refine aops_end ?_
    refine hK4 _ ?_
    refine awp_seq fun K5 hK5 => ?_
    refine awp_seq fun K6 hK6 => ?_
    refine awp_region rfl ?_
    refine o_fieldRef 1 Gd.none Ye_tF27_1 rfl rfl ?_
    refine o_loadS (AV.sl 1 (is .i64 (c.regs))) Gd.none Ye_tS25 rfl rfl rfl ?_
    refine i_len (c.regs) Gd.none Ye_tU25 rfl ?_
    refine o_mv (nm .i64 (0)) rfl ?_
    refine aops_end ?_
    refine hK6 _ ?_
    refine awp_block ?_
    refine awp_loopR (fun κ σ => ∃ (i : Nat), ∃ (s : ByteArray), (i ≤ c.regs.length) ∧ (numC m c = numS s * prdZ i (c.regs.drop i)) ∧ (okS s = true) ∧ (0 < numS s) ∧ (s.size ≤ 9223372036854775807) ∧ (c.regs.length - i) = κ ∧ σ = ⟨[(6, (AV.lit (.string (s)))), (21, (AV.sl 1 (is .i64 (c.regs)))), (22, (nm .i64 (c.regs.length))), (23, (nm .i64 (i)))], []⟩) ⟨_, _, ⟨0, txt ((ownP m c.at' : Nat) : Int), (by omega), (by rw [numS_txt]; rfl), (okS_iff.2 (okS_txt (fit_113 b0))), (by rw [numS_txt]; omega), os, rfl, rfl⟩, ?wk0⟩ ?rd0
    case wk0 =>
      exact Wk.sub (And.intro (by first | rfl | (simp)) (And.intro rfl (And.intro (by first | rfl | exact congrArg (nm _) (by omega) | exact nm_int (by omega) | exact nm_int (by simp [IntKind.wrap, IntKind.bits, IntKind.signed]; omega)) (And.intro (by first | rfl | exact congrArg (nm _) (by omega) | exact nm_int (by omega) | exact nm_int (by simp [IntKind.wrap, IntKind.bits, IntKind.signed]; omega)) (trivial))))) (trivial)
    rintro κ _ ⟨i, s, hi, hp, ho, hz, hs, rfl, rfl⟩
    refine awp_seq fun K7 hK7 => ?_
    refine awp_region rfl ?_
    refine n_lss (i) (c.regs.length) Gd.none rfl rfl ?_
    refine aops_end ?_
    refine hK7 _ ?_
    refine awp_seq fun K8 hK8 => ?_
    refine awp_condQ (q := (i) < (c.regs.length)) rfl (fun h2 => ?_) (fun h2 => ?_)
    · have hr := q3 _ (gdm (d := 0) h2)
      unfold regP at hr
      have b1 := p30_bd i
      have ps := txt_sz2 (fit_113 b1)
      have hw := pow_str b1 hr
      have p2 := p30_ge i (by omega)
      have pp : 0 < (((P30.getD (i) 0 : Nat) : Int) ^ ((c.regs).getD (i) 0).toNat) := Int.pow_pos (by omega)
      have tz := told_sz (((P30.getD (i) 0 : Nat) : Int) ^ ((c.regs).getD (i) 0).toNat)
      have hdr := prd_drop (j := i) h2
      have pr := prd_pos (c.regs.drop (i + 1)) (i + 1) (by rw [List.length_drop]; omega)
      refine awp_skip ?_
      refine hK8 _ ?_
      refine awp_seq fun K9 hK9 => ?_
      refine awp_block ?_
      refine awp_seq fun K10 hK10 => ?_
      refine awp_region rfl ?_
      refine o_mv (nm .i64 (i)) rfl ?_
      refine i_index (c.regs) (i) Gd.none Ye_tE25 rfl rfl (by omega) ?_
      refine i_loadI (c.regs) (i) Gd.none Ye_tS3 rfl (by omega) ?_
      refine o_as (nm .i64 (i)) rfl ?_
      refine o_as (AV.lit (.int .i64 ((c.regs).getD (i) 0))) rfl ?_
      refine aops_end ?_
      refine hK10 _ ?_
      refine awp_seq fun K11 hK11 => ?_
      refine awp_region rfl ?_
      refine o_ct c_primes Gd.none Ye_tC18 rfl ?_
      refine o_mv (nm .i64 (i)) rfl ?_
      refine n_indexAgg (P30) (i) Gd.none Ye_tR53 Ye_tS3 rfl rfl (by rfl) (by omega) ?_
      refine o_ct (c_itoa ((P30).getD (i) 0) (by omega)) Gd.none Ye_tC23 rfl ?_
      refine o_mv (AV.lit (.int .i64 ((c.regs).getD (i) 0))) rfl ?_
      refine o_ct (c_nPower (txt (((P30).getD (i) 0 : Nat) : Int)) ((c.regs).getD (i) 0) (by first | assumption | decide | omega)) Gd.none Ye_tC24 rfl ?_
      refine o_mv (AV.tup [(AV.lit (.string (powS (txt (((P30).getD (i) 0 : Nat) : Int)) ((c.regs).getD (i) 0)))), (nm .i64 (powE (txt (((P30).getD (i) 0 : Nat) : Int)) ((c.regs).getD (i) 0)))]) rfl ?_
      refine o_extract (AV.lit (.string (powS (txt (((P30).getD (i) 0 : Nat) : Int)) ((c.regs).getD (i) 0)))) Gd.none rfl rfl ?_
      refine n_as (v' := (AV.lit (.string (toldS (((P30.getD (i) 0 : Nat) : Int) ^ ((c.regs).getD (i) 0).toNat))))) (by exact str_as2 hw.1) ?_
      refine o_extract (nm .i64 (powE (txt (((P30).getD (i) 0 : Nat) : Int)) ((c.regs).getD (i) 0))) Gd.none rfl rfl ?_
      refine n_as (v' := (nm .i64 (toldE (((P30.getD (i) 0 : Nat) : Int) ^ ((c.regs).getD (i) 0).toNat)))) (by exact congrArg (nm _) hw.2) ?_
      refine o_as (AV.lit (.string (toldS (((P30.getD (i) 0 : Nat) : Int) ^ ((c.regs).getD (i) 0).toNat)))) rfl ?_
      refine o_as (nm .i64 (toldE (((P30.getD (i) 0 : Nat) : Int) ^ ((c.regs).getD (i) 0).toNat))) rfl ?_
      refine aops_end ?_
      refine hK11 _ ?_
      refine awp_seq fun K12 hK12 => ?_
      refine awp_seq fun K13 hK13 => ?_
      refine awp_region rfl ?_
      refine o_mv (nm .i64 (toldE (((P30.getD (i) 0 : Nat) : Int) ^ ((c.regs).getD (i) 0).toNat))) rfl ?_
      refine n_eql (toldE (((P30.getD (i) 0 : Nat) : Int) ^ ((c.regs).getD (i) 0).toNat)) (0) Gd.none rfl rfl ?_
      refine aops_end ?_
      refine hK13 _ ?_
      refine awp_condQ (q := (toldE (((P30.getD (i) 0 : Nat) : Int) ^ ((c.regs).getD (i) 0).toNat)) = (0)) rfl (fun h3 => ?_) (fun h3 => ?_)
      · have hF : Fit (((P30.getD (i) 0 : Nat) : Int) ^ ((c.regs).getD (i) 0).toNat) := tld_ok (fun e => e (by assumption))
        obtain ⟨w1, w2⟩ := told_fit hF
        have hm := mul_str (a := s) (b := toldS (((P30.getD (i) 0 : Nat) : Int) ^ ((c.regs).getD (i) 0).toNat)) ⟨ho, by rw [w1]; exact okS_iff.2 (okS_txt hF)⟩
        have hn1 : numS (toldS (((P30.getD (i) 0 : Nat) : Int) ^ ((c.regs).getD (i) 0).toNat)) = (((P30.getD (i) 0 : Nat) : Int) ^ ((c.regs).getD (i) 0).toNat) := by rw [w1, numS_txt]
        refine awp_region rfl ?_
        refine o_mv (AV.lit (.string (s))) rfl ?_
        refine o_mv (AV.lit (.string (toldS (((P30.getD (i) 0 : Nat) : Int) ^ ((c.regs).getD (i) 0).toNat)))) rfl ?_
        refine o_ct (c_nMul (s) (toldS (((P30.getD (i) 0 : Nat) : Int) ^ ((c.regs).getD (i) 0).toNat)) (by first | assumption | decide | omega) (by first | assumption | decide | omega)) Gd.none Ye_tC25 rfl ?_
        refine o_mv (AV.tup [(AV.lit (.string ((if okS (s) && okS (toldS (((P30.getD (i) 0 : Nat) : Int) ^ ((c.regs).getD (i) 0).toNat)) then (toldS (numS (s) * numS (toldS (((P30.getD (i) 0 : Nat) : Int) ^ ((c.regs).getD (i) 0).toNat)))) else (({ data := #[] } : ByteArray)))))), (nm .i64 ((if okS (s) && okS (toldS (((P30.getD (i) 0 : Nat) : Int) ^ ((c.regs).getD (i) 0).toNat)) then (toldE (numS (s) * numS (toldS (((P30.getD (i) 0 : Nat) : Int) ^ ((c.regs).getD (i) 0).toNat)))) else (1))))]) rfl ?_
        refine o_extract (AV.lit (.string ((if okS (s) && okS (toldS (((P30.getD (i) 0 : Nat) : Int) ^ ((c.regs).getD (i) 0).toNat)) then (toldS (numS (s) * numS (toldS (((P30.getD (i) 0 : Nat) : Int) ^ ((c.regs).getD (i) 0).toNat)))) else (({ data := #[] } : ByteArray)))))) Gd.none rfl rfl ?_
        refine n_as (v' := (AV.lit (.string (toldS (numS s * (((P30.getD (i) 0 : Nat) : Int) ^ ((c.regs).getD (i) 0).toNat)))))) (by exact str_as2 (hm.1.trans (by rw [hn1]))) ?_
        refine o_extract (nm .i64 ((if okS (s) && okS (toldS (((P30.getD (i) 0 : Nat) : Int) ^ ((c.regs).getD (i) 0).toNat)) then (toldE (numS (s) * numS (toldS (((P30.getD (i) 0 : Nat) : Int) ^ ((c.regs).getD (i) 0).toNat)))) else (1)))) Gd.none rfl rfl ?_
        refine n_as (v' := (nm .i64 (toldE (numS s * (((P30.getD (i) 0 : Nat) : Int) ^ ((c.regs).getD (i) 0).toNat))))) (by exact congrArg (nm _) (hm.2.trans (by rw [hn1]))) ?_
        refine o_as (AV.lit (.string (toldS (numS s * (((P30.getD (i) 0 : Nat) : Int) ^ ((c.regs).getD (i) 0).toNat))))) rfl ?_
        refine o_as (nm .i64 (toldE (numS s * (((P30.getD (i) 0 : Nat) : Int) ^ ((c.regs).getD (i) 0).toNat)))) rfl ?_
        refine aops_end ?_
        refine hK12 _ ?_
        refine awp_seq fun K14 hK14 => ?_
        refine awp_region rfl ?_
        refine o_mv (nm .i64 (toldE (numS s * (((P30.getD (i) 0 : Nat) : Int) ^ ((c.regs).getD (i) 0).toNat)))) rfl ?_
        refine n_neq (toldE (numS s * (((P30.getD (i) 0 : Nat) : Int) ^ ((c.regs).getD (i) 0).toNat))) (0) Gd.none rfl rfl ?_
        refine aops_end ?_
        refine hK14 _ ?_
        refine awp_condQ (q := (toldE (numS s * (((P30.getD (i) 0 : Nat) : Int) ^ ((c.regs).getD (i) 0).toNat))) ≠ (0)) rfl (fun h4 => ?_) (fun h4 => ?_)
        · refine awp_seq fun K15 hK15 => ?_
          refine awp_region rfl ?_
          refine o_mv (nm .i64 (toldE (numS s * (((P30.getD (i) 0 : Nat) : Int) ^ ((c.regs).getD (i) 0).toNat)))) rfl ?_
          refine o_as (AV.lit (.string (({data := #[]} : ByteArray)))) rfl ?_
          refine o_as (nm .i64 (toldE (numS s * (((P30.getD (i) 0 : Nat) : Int) ^ ((c.regs).getD (i) 0).toNat)))) rfl ?_
          refine aops_end ?_
          refine hK15 _ ?_
          refine awp_ret ?_
          refine post_ret ⟨[(AV.lit (.string (({data := #[]} : ByteArray)))), (nm .i64 (toldE (numS s * (((P30.getD (i) 0 : Nat) : Int) ^ ((c.regs).getD (i) 0).toNat))))], And.intro (AV.le_refl _) (And.intro (AV.le_refl _) (trivial)), rfl, ?_⟩
          first | (rw [encS, encE, if_neg (by assumption), if_neg (by assumption)]; rfl) | (have hN : ¬ Fit (numC m c) := (by rw [hp, hdr]; intro hf; first | exact tld_big (by assumption) (fit_mul_le pp pr (fit_mul_le hz (Int.mul_pos pp pr) hf).2).1 | exact tld_big (by assumption) (fit_mul_le (Int.mul_pos hz pp) pr (by rw [Int.mul_assoc]; exact hf)).1); rw [encS, encE, if_pos hC, if_pos hC, tld_3 hN, show toldS (numC m c) = { data := #[] } from if_neg hN]; rw [tld_3 (tld_big (by assumption))]; rfl) | (have hE : numC m c = numS s := (by rw [hp, List.drop_of_length_le (by omega)]; exact Int.mul_one _); have hf := fit_numS (okS_iff.1 ho); rw [encS, encE, if_pos hC, if_pos hC, hE, (told_fit hf).1, (told_fit hf).2, txt_numS (okS_iff.1 ho)]; rfl)
        · refine awp_skip ?_
          refine hK9 _ ?_
          refine awp_region rfl ?_
          refine n_add (i) (1) Gd.none rfl rfl (by simp only [topOf]; omega) ?_
          refine o_mv (nm .i64 ((i) + (1))) rfl ?_
          refine aops_end ?_
          have hG := tld_ok (by assumption)
          obtain ⟨v1, v2⟩ := told_fit hG
          refine ⟨_, _, ?lt, ⟨i + 1, toldS (numS s * (((P30.getD (i) 0 : Nat) : Int) ^ ((c.regs).getD (i) 0).toNat)), (by omega), (by rw [hp, hdr, v1, numS_txt, Int.mul_assoc]), (by rw [v1]; exact okS_iff.2 (okS_txt hG)), (by rw [v1, numS_txt]; exact Int.mul_pos hz pp), (told_sz _), rfl, rfl⟩, ?wk⟩
          case lt => omega
          case wk => exact Wk.sub (And.intro (by first | rfl | (simp)) (And.intro rfl (And.intro rfl (And.intro (by first | rfl | exact congrArg (nm _) (by omega) | exact nm_int (by omega) | exact nm_int (by simp [IntKind.wrap, IntKind.bits, IntKind.signed]; omega)) (trivial))))) (trivial)
      · refine awp_skip ?_
        refine hK12 _ ?_
        refine awp_seq fun K16 hK16 => ?_
        refine awp_region rfl ?_
        refine o_mv (nm .i64 (toldE (((P30.getD (i) 0 : Nat) : Int) ^ ((c.regs).getD (i) 0).toNat))) rfl ?_
        refine n_neq (toldE (((P30.getD (i) 0 : Nat) : Int) ^ ((c.regs).getD (i) 0).toNat)) (0) Gd.none rfl rfl ?_
        refine aops_end ?_
        refine hK16 _ ?_
        refine awp_condB (b := decide ((toldE (((P30.getD (i) 0 : Nat) : Int) ^ ((c.regs).getD (i) 0).toNat)) ≠ (0))) rfl (fun _ => ?_) (fun hh => absurd (hh.symm.trans (decide_eq_true h3)) (by decide))
        refine awp_seq fun K17 hK17 => ?_
        refine awp_region rfl ?_
        refine o_mv (nm .i64 (toldE (((P30.getD (i) 0 : Nat) : Int) ^ ((c.regs).getD (i) 0).toNat))) rfl ?_
        refine o_as (AV.lit (.string (({data := #[]} : ByteArray)))) rfl ?_
        refine o_as (nm .i64 (toldE (((P30.getD (i) 0 : Nat) : Int) ^ ((c.regs).getD (i) 0).toNat))) rfl ?_
        refine aops_end ?_
        refine hK17 _ ?_
        refine awp_ret ?_
        refine post_ret ⟨[(AV.lit (.string (({data := #[]} : ByteArray)))), (nm .i64 (toldE (((P30.getD (i) 0 : Nat) : Int) ^ ((c.regs).getD (i) 0).toNat)))], And.intro (AV.le_refl _) (And.intro (AV.le_refl _) (trivial)), rfl, ?_⟩
        first | (rw [encS, encE, if_neg (by assumption), if_neg (by assumption)]; rfl) | (have hN : ¬ Fit (numC m c) := (by rw [hp, hdr]; intro hf; first | exact tld_big (by assumption) (fit_mul_le pp pr (fit_mul_le hz (Int.mul_pos pp pr) hf).2).1 | exact tld_big (by assumption) (fit_mul_le (Int.mul_pos hz pp) pr (by rw [Int.mul_assoc]; exact hf)).1); rw [encS, encE, if_pos hC, if_pos hC, tld_3 hN, show toldS (numC m c) = { data := #[] } from if_neg hN]; rw [tld_3 (tld_big (by assumption))]; rfl) | (have hE : numC m c = numS s := (by rw [hp, List.drop_of_length_le (by omega)]; exact Int.mul_one _); have hf := fit_numS (okS_iff.1 ho); rw [encS, encE, if_pos hC, if_pos hC, hE, (told_fit hf).1, (told_fit hf).2, txt_numS (okS_iff.1 ho)]; rfl)
    · refine awp_exit ?_
      refine hK5 _ ?_
      refine awp_seq fun K18 hK18 => ?_
      refine awp_region rfl ?_
      refine o_mv (AV.lit (.string (s))) rfl ?_
      refine o_as (AV.lit (.string (s))) rfl ?_
      refine o_as (nm .i64 (0)) rfl ?_
      refine aops_end ?_
      refine hK18 _ ?_
      refine awp_ret ?_
      refine post_ret ⟨[(AV.lit (.string (s))), (nm .i64 (0))], And.intro (AV.le_refl _) (And.intro (AV.le_refl _) (trivial)), rfl, ?_⟩
      first | (rw [encS, encE, if_neg (by assumption), if_neg (by assumption)]; rfl) | (have hN : ¬ Fit (numC m c) := (by rw [hp, hdr]; intro hf; first | exact tld_big (by assumption) (fit_mul_le pp pr (fit_mul_le hz (Int.mul_pos pp pr) hf).2).1 | exact tld_big (by assumption) (fit_mul_le (Int.mul_pos hz pp) pr (by rw [Int.mul_assoc]; exact hf)).1); rw [encS, encE, if_pos hC, if_pos hC, tld_3 hN, show toldS (numC m c) = { data := #[] } from if_neg hN]; rw [tld_3 (tld_big (by assumption))]; rfl) | (have hE : numC m c = numS s := (by rw [hp, List.drop_of_length_le (by omega)]; exact Int.mul_one _); have hf := fit_numS (okS_iff.1 ho); rw [encS, encE, if_pos hC, if_pos hC, hE, (told_fit hf).1, (told_fit hf).2, txt_numS (okS_iff.1 ho)]; rfl)

end Go.Proofs.YtpamhblonmpniaaDoor

set_option linter.unusedVariables false
set_option linter.unusedSimpArgs false
namespace Go.Proofs.YtpamhblonmpniaaDoor
open Go Go.Ab Go.Mth
theorem fieldsFrac : Tryd.prog.fieldsOf 50 = #[{ name := "Num", type := 9, offset := 0, embedded := false, tag := "", pkgPath := "", byteOffset := 0 }, { name := "Den", type := 9, offset := 1, embedded := false, tag := "", pkgPath := "", byteOffset := 16 }] := by kernel_rfl
theorem eq_api_Frac (a1 a2 b1 b2 : ByteArray) : AggEq cx.P 50 [.string a1, .string a2] [.string b1, .string b2] (decide (a1 = b1 ∧ a2 = b2)) := by
  refine ⟨by kernel_rfl, fun w => ?_⟩
  have hS : Tryd.prog.underlying 50 = some (.struct (Tryd.prog.fieldsOf 50)) := by kernel_rfl
  show (Op.equalIn 10000 50 _ _).run Tryd.prog w = _
  rw [show (10000 : Nat) = 9998 + 1 + 1 from rfl, run_equalIn_agg w (9998 + 1) _ _ _ hS (by kernel_rfl), fieldsFrac]
  have uS : Tryd.prog.underlying 9 = some .string := by kernel_rfl
  simp only [Op.eqFields, part_str uS, Sem.run_bind, Sem.run_ite, run_equalIn_string _ _ _ _ _ uS]
  by_cases h1 : a1 = b1 <;> by_cases h2 : a2 = b2 <;> simp [ba_eq, run_equalIn_string _ _ _ _ _ uS, h1, h2]
end Go.Proofs.YtpamhblonmpniaaDoor

set_option linter.unusedVariables false
set_option linter.unusedSimpArgs false
namespace Go.Proofs.YtpamhblonmpniaaDoor
open Go Go.Ab Go.Mth
theorem Yf_tO24 : tyZero cx.P 24 = some [(Go.Value.int IntKind.i64 0), (Go.Value.slice none 0 0)] := by kernel_rfl
theorem Yf_tP52 : tyPlaces cx.P 52 = some (fun i => (#[(0, 1), (1, 1), (2, 1), (3, 1)] : Array (Nat × Nat))[i]?) := by kernel_rfl
theorem Yf_tO52 : tyZero cx.P 52 = some [(Go.Value.int IntKind.i64 0), (Go.Value.int IntKind.i64 0), (Go.Value.int IntKind.i64 0), (Go.Value.int IntKind.i64 0)] := by kernel_rfl
theorem Yf_tE22 : tyElem cx.P 22 = some (52, 4, 32) := by kernel_rfl
theorem Yf_tP24 : tyPlaces cx.P 24 = some (fun i => (#[(0, 1), (1, 1)] : Array (Nat × Nat))[i]?) := by kernel_rfl
theorem Yf_tZ24 : tySize cx.P 24 = some 2 := by kernel_rfl
theorem Yf_tA24 : tyAgg cx.P 24 = some 2 := by kernel_rfl
theorem Yf_tU30 : cx.P.underlying 30 = some (.slice 50) := by kernel_rfl
theorem Yf_tE30 : tyElem cx.P 30 = some (50, 2, 32) := by kernel_rfl
theorem Yf_tA50 : tyAgg cx.P 50 = some 2 := by kernel_rfl
theorem Yf_tC15 : callable cx.P 15 = true := by kernel_rfl
theorem Yf_tC7 : callable cx.P 7 = true := by kernel_rfl
theorem Yf_tE25 : tyElem cx.P 25 = some (3, 1, 8) := by kernel_rfl
theorem Yf_tO3 : tyZero cx.P 3 = some [(Go.Value.int IntKind.i64 0)] := by kernel_rfl
theorem Yf_tP27 : tyPlaces cx.P 27 = some (fun i => (#[(0, 1), (1, 1)] : Array (Nat × Nat))[i]?) := by kernel_rfl
theorem Yf_tO27 : tyZero cx.P 27 = some [(Go.Value.int IntKind.i64 0), (Go.Value.slice none 0 0)] := by kernel_rfl
theorem Yf_tC8 : callable cx.P 8 = true := by kernel_rfl
theorem Yf_tC10 : callable cx.P 10 = true := by kernel_rfl
theorem Yf_tP50 : tyPlaces cx.P 50 = some (fun i => (#[(0, 1), (1, 1)] : Array (Nat × Nat))[i]?) := by kernel_rfl
theorem Yf_tO50 : tyZero cx.P 50 = some [(Go.Value.string {data := #[]}), (Go.Value.string {data := #[]})] := by kernel_rfl
theorem Yf_tC16 : callable cx.P 16 = true := by kernel_rfl
theorem c_adder  : ECalls cx 15 [] (macV adM) := by
  refine ecalls_of_awp Tryd.func15 (c := _) rfl (Nat.le_of_ble_eq_true rfl) ?_
  show awp cx 5 _ (postF cx Tryd.f15 _) ⟨[], []⟩
  refine awp_seq fun K0 hK0 => ?_
  refine awp_region rfl ?_
  refine o_alloc 2 [(nm .i64 (0)), (AV.lit (.slice none 0 0))] Gd.none Yf_tO24 rfl rfl rfl ?_
  refine aops_end ?_
  refine hK0 _ ?_
  refine awp_seq fun K1 hK1 => ?_
  refine awp_region rfl ?_
  refine o_build [(nm .i64 (1)), (nm .i64 (0)), (nm .i64 (1)), (nm .i64 (2))] [(0, [(nm .i64 (1))]), (2, [(nm .i64 (1))]), (3, [(nm .i64 (2))])] Gd.none Yf_tP52 Yf_tO52 rfl rfl rfl ?_
  refine o_build [(nm .i64 (0)), (nm .i64 (1)), (nm .i64 (0)), (nm .i64 (0))] [(0, [(nm .i64 (0))]), (1, [(nm .i64 (1))])] Gd.none Yf_tP52 Yf_tO52 rfl rfl rfl ?_
  refine o_buildSlice 3 (gcells cI ([(Ins.mk (((1 : Nat) : Int)) (((0 : Nat) : Int)) (((1 : Nat) : Int)) (((2 : Nat) : Int))), (Ins.mk (((0 : Nat) : Int)) (((1 : Nat) : Int)) (((0 : Nat) : Int)) (((0 : Nat) : Int)))])) [(0, [(nm .i64 (1)), (nm .i64 (0)), (nm .i64 (1)), (nm .i64 (2))]), (1, [(nm .i64 (0)), (nm .i64 (1)), (nm .i64 (0)), (nm .i64 (0))])] Gd.none Yf_tE22 rfl Yf_tO52 rfl rfl rfl rfl rfl rfl rfl ?_
  refine o_build [(nm .i64 (2)), (AV.row 3)] [(0, [(nm .i64 (2))]), (1, [(AV.row 3)])] Gd.none Yf_tP24 Yf_tO24 rfl rfl rfl ?_
  refine o_store [(3, (AO.row 52 4 (gcells cI ([(Ins.mk (((1 : Nat) : Int)) (((0 : Nat) : Int)) (((1 : Nat) : Int)) (((2 : Nat) : Int))), (Ins.mk (((0 : Nat) : Int)) (((1 : Nat) : Int)) (((0 : Nat) : Int)) (((0 : Nat) : Int)))])))), (2, (AO.var 24 [(nm .i64 (2)), (AV.row 3)]))] Gd.none Yf_tZ24 rfl rfl rfl rfl rfl rfl ?_
  refine aops_end ?_
  refine hK1 _ ?_
  refine awp_wk (σ' := ⟨[(0, (AV.ref 2 (0)))], [(2, (AO.var 24 [(nm .i64 (2)), (AV.row 3)])), (3, (AO.row 52 4 (gcells cI ([(Ins.mk (((1 : Nat) : Int)) (((0 : Nat) : Int)) (((1 : Nat) : Int)) (((2 : Nat) : Int))), (Ins.mk (((0 : Nat) : Int)) (((1 : Nat) : Int)) (((0 : Nat) : Int)) (((0 : Nat) : Int)))]))))]⟩) (Wk.sub (And.intro rfl (trivial)) (And.intro rfl (And.intro rfl (trivial)))) ?_
  refine awp_wk (σ' := ⟨[(0, (AV.ref 2 (0)))], [(2, (AO.var 24 [(nm .i64 (2)), (AV.sl 4 (gcells cI ([(Ins.mk (((1 : Nat) : Int)) (((0 : Nat) : Int)) (((1 : Nat) : Int)) (((2 : Nat) : Int))), (Ins.mk (((0 : Nat) : Int)) (((1 : Nat) : Int)) (((0 : Nat) : Int)) (((0 : Nat) : Int)))])))]))]⟩) (Wk.freeze (id := 3) (e := 52) (sz := 4) (cs := (gcells cI ([(Ins.mk (((1 : Nat) : Int)) (((0 : Nat) : Int)) (((1 : Nat) : Int)) (((2 : Nat) : Int))), (Ins.mk (((0 : Nat) : Int)) (((1 : Nat) : Int)) (((0 : Nat) : Int)) (((0 : Nat) : Int)))]))) rfl) ?_
  refine awp_ret ?_
  refine post_ret ⟨[(AV.agg [(nm .i64 (2)), (AV.sl 4 (gcells cI ([(Ins.mk (((1 : Nat) : Int)) (((0 : Nat) : Int)) (((1 : Nat) : Int)) (((2 : Nat) : Int))), (Ins.mk (((0 : Nat) : Int)) (((1 : Nat) : Int)) (((0 : Nat) : Int)) (((0 : Nat) : Int)))])))])], And.intro ⟨2, (AO.var 24 [(nm .i64 (2)), (AV.sl 4 (gcells cI ([(Ins.mk (((1 : Nat) : Int)) (((0 : Nat) : Int)) (((1 : Nat) : Int)) (((2 : Nat) : Int))), (Ins.mk (((0 : Nat) : Int)) (((1 : Nat) : Int)) (((0 : Nat) : Int)) (((0 : Nat) : Int)))])))]), rfl, rfl, rfl, Or.inl ⟨Yf_tA24, AV.le_refl _⟩⟩ (trivial), rfl, ?_⟩
  rfl

theorem c_vSameList (l : List Frc) (hb : l.length ≤ 4398046511104) : ECalls cx 16 [(AV.sl 2 (gcells cF (l))), (AV.sl 2 (gcells cF (l)))] (.lit (.bool true)) := by
  refine ecalls_of_awp Tryd.func16 (c := _) rfl (Nat.le_of_ble_eq_true rfl) ?_
  show awp cx 26 _ (postF cx Tryd.f16 _) ⟨[(0, (AV.sl 2 (gcells cF (l)))), (1, (AV.sl 2 (gcells cF (l))))], []⟩
  refine awp_seq fun K0 hK0 => ?_
  refine awp_region rfl ?_
  refine o_as (AV.lit (.bool false)) rfl ?_
  refine aops_end ?_
  refine hK0 _ ?_
  refine awp_seq fun K1 hK1 => ?_
  refine awp_seq fun K2 hK2 => ?_
  refine awp_region rfl ?_
  refine o_mv (AV.sl 2 (gcells cF (l))) rfl ?_
  refine g_len cF (l) cF_len Gd.none Yf_tU30 rfl ?_
  refine o_mv (AV.sl 2 (gcells cF (l))) rfl ?_
  refine g_len cF (l) cF_len Gd.none Yf_tU30 rfl ?_
  refine n_neq ((l).length) ((l).length) Gd.none rfl rfl ?_
  refine aops_end ?_
  refine hK2 _ ?_
  refine awp_condB (b := decide (((l).length) ≠ ((l).length))) rfl (fun hh => absurd (hh.symm.trans (decide_eq_false (fun h => h rfl))) (by decide)) (fun _ => ?_)
  refine awp_skip ?_
  refine hK1 _ ?_
  refine awp_seq fun K3 hK3 => ?_
  refine awp_seq fun K4 hK4 => ?_
  refine awp_region rfl ?_
  refine o_as (nm .i64 (0)) rfl ?_
  refine aops_end ?_
  refine hK4 _ ?_
  refine awp_block ?_
  refine awp_loopR (fun κ σ => ∃ (i : Nat), (i ≤ l.length) ∧ (l.length - i) = κ ∧ σ = ⟨[(0, (AV.sl 2 (gcells cF (l)))), (1, (AV.sl 2 (gcells cF (l)))), (5, (nm .i64 (i)))], []⟩) ⟨_, _, ⟨0, (by omega), rfl, rfl⟩, ?wk0⟩ ?rd0
  case wk0 =>
    exact Wk.sub (And.intro rfl (And.intro rfl (And.intro (by first | rfl | exact congrArg (nm _) (by omega) | exact nm_int (by omega) | exact nm_int (by simp [IntKind.wrap, IntKind.bits, IntKind.signed]; omega)) (trivial)))) (trivial)
  rintro κ _ ⟨i, hi, rfl, rfl⟩
  refine awp_seq fun K5 hK5 => ?_
  refine awp_seq fun K6 hK6 => ?_
  refine awp_region rfl ?_
  refine o_mv (nm .i64 (i)) rfl ?_
  refine o_mv (AV.sl 2 (gcells cF (l))) rfl ?_
  refine g_len cF (l) cF_len Gd.none Yf_tU30 rfl ?_
  refine n_lss (i) ((l).length) Gd.none rfl rfl ?_
  refine aops_end ?_
  refine hK6 _ ?_
  refine awp_condQ (q := (i) < ((l).length)) rfl (fun h1 => ?_) (fun h1 => ?_)
  · refine awp_skip ?_
    refine hK5 _ ?_
    refine awp_seq fun K7 hK7 => ?_
    refine awp_block ?_
    refine awp_seq fun K8 hK8 => ?_
    refine awp_regionD rfl ?_
    refine o_mv (AV.sl 2 (gcells cF (l))) rfl ?_
    refine o_mv (nm .i64 (i)) rfl ?_
    refine g_index cF (l) (i) cF_len rfl Gd.none Yf_tE30 rfl rfl (by omega) ?_
    refine g_loadA cF (l) (i) default cF_len Gd.none Yf_tA50 rfl (by omega) ?_
    refine o_mv (AV.sl 2 (gcells cF (l))) rfl ?_
    refine o_mv (nm .i64 (i)) rfl ?_
    refine g_index cF (l) (i) cF_len rfl Gd.none Yf_tE30 rfl rfl (by omega) ?_
    refine g_loadA cF (l) (i) default cF_len Gd.none Yf_tA50 rfl (by omega) ?_
    refine o_neqA [.string ((((l).getD (i) default)).num), .string ((((l).getD (i) default)).den)] [.string ((((l).getD (i) default)).num), .string ((((l).getD (i) default)).den)] (((((l).getD (i) default)).num) = ((((l).getD (i) default)).num) ∧ ((((l).getD (i) default)).den) = ((((l).getD (i) default)).den)) Gd.none rfl rfl (eq_api_Frac _ _ _ _) ?_
    refine aops_end ⟨by kernel_rfl, ?_⟩
    refine hK8 _ ?_
    refine awp_condB (b := decide (¬ (((((l).getD (i) default)).num) = ((((l).getD (i) default)).num) ∧ ((((l).getD (i) default)).den) = ((((l).getD (i) default)).den)))) rfl (fun hh => absurd (hh.symm.trans (decide_eq_false (fun h => h ⟨rfl, rfl⟩))) (by decide)) (fun _ => ?_)
    refine awp_skip ?_
    refine hK7 _ ?_
    refine awp_region rfl ?_
    refine o_mv (nm .i64 (i)) rfl ?_
    refine n_add (i) (1) Gd.none rfl rfl (by simp only [topOf]; omega) ?_
    refine o_as (nm .i64 ((i) + (1))) rfl ?_
    refine aops_end ?_
    refine ⟨_, _, ?lt, ⟨i + 1, (by omega), rfl, rfl⟩, ?wk⟩
    case lt => omega
    case wk => exact Wk.sub (And.intro rfl (And.intro rfl (And.intro (by first | rfl | exact congrArg (nm _) (by omega) | exact nm_int (by omega) | exact nm_int (by simp [IntKind.wrap, IntKind.bits, IntKind.signed]; omega)) (trivial)))) (trivial)
  · refine awp_exit ?_
    refine hK3 _ ?_
    refine awp_seq fun K9 hK9 => ?_
    refine awp_region rfl ?_
    refine o_as (AV.lit (.bool true)) rfl ?_
    refine aops_end ?_
    refine hK9 _ ?_
    refine awp_ret ?_
    refine post_ret ⟨[(AV.lit (.bool true))], And.intro (AV.le_refl _) (trivial), rfl, ?_⟩
    rfl

theorem c_awake10  : ECalls cx 6 [] (.lit (.bool true)) := by
  refine ecalls_of_awp Tryd.func6 (c := _) rfl (Nat.le_of_ble_eq_true rfl) ?_
  show awp cx 59 _ (postF cx Tryd.f6 _) ⟨[], []⟩
  refine awp_seq fun K0 hK0 => ?_
  refine awp_region rfl ?_
  refine o_as (AV.lit (.bool false)) rfl ?_
  refine aops_end ?_
  refine hK0 _ ?_
  refine awp_seq fun K1 hK1 => ?_
  refine awp_region rfl ?_
  refine o_ct c_adder Gd.none Yf_tC15 rfl ?_
  refine o_ct (c_Compile adM) Gd.none Yf_tC7 rfl ?_
  refine o_mv (AV.tup [(AV.sl 2 (gcells cF (cmpR adM))), (nm .i64 (cmpE adM))]) rfl ?_
  refine o_extract (AV.sl 2 (gcells cF (cmpR adM))) Gd.none rfl rfl ?_
  refine n_as (v' := (AV.sl 2 (gcells cF ([(Frc.mk (({data := #[49, 51]} : ByteArray)) (({data := #[49, 48]} : ByteArray))), (Frc.mk (({data := #[49, 57]} : ByteArray)) (({data := #[53]} : ByteArray))), (Frc.mk (({data := #[50, 49]} : ByteArray)) (({data := #[49, 49]} : ByteArray))), (Frc.mk (({data := #[53]} : ByteArray)) (({data := #[55]} : ByteArray))), (Frc.mk (({data := #[49, 49]} : ByteArray)) (({data := #[49, 51]} : ByteArray))), (Frc.mk (({data := #[49, 55]} : ByteArray)) (({data := #[49, 57]} : ByteArray)))])))) (by exact congrArg (fun l => AV.sl 2 (gcells cF l)) ex_cmp.1) ?_
  refine o_extract (nm .i64 (cmpE adM)) Gd.none rfl rfl ?_
  refine n_as (v' := (nm .i64 (0))) (by exact congrArg (nm _) ex_cmp.2) ?_
  refine o_as (AV.sl 2 (gcells cF ([(Frc.mk (({data := #[49, 51]} : ByteArray)) (({data := #[49, 48]} : ByteArray))), (Frc.mk (({data := #[49, 57]} : ByteArray)) (({data := #[53]} : ByteArray))), (Frc.mk (({data := #[50, 49]} : ByteArray)) (({data := #[49, 49]} : ByteArray))), (Frc.mk (({data := #[53]} : ByteArray)) (({data := #[55]} : ByteArray))), (Frc.mk (({data := #[49, 49]} : ByteArray)) (({data := #[49, 51]} : ByteArray))), (Frc.mk (({data := #[49, 55]} : ByteArray)) (({data := #[49, 57]} : ByteArray)))]))) rfl ?_
  refine o_as (nm .i64 (0)) rfl ?_
  refine aops_end ?_
  refine hK1 _ ?_
  refine awp_seq fun K2 hK2 => ?_
  refine awp_region rfl ?_
  refine o_ct c_adder Gd.none Yf_tC15 rfl ?_
  refine o_buildSlice 2 (is .i64 ([((2 : Nat) : Int), ((1 : Nat) : Int)])) [(0, [(nm .i64 (2))]), (1, [(nm .i64 (1))])] Gd.none Yf_tE25 rfl Yf_tO3 rfl rfl rfl rfl rfl rfl rfl ?_
  refine o_build [(nm .i64 (0)), (AV.row 2)] [(1, [(AV.row 2)])] Gd.none Yf_tP27 Yf_tO27 rfl rfl rfl ?_
  refine o_callG [(2, 1, (is .i64 ([((2 : Nat) : Int), ((1 : Nat) : Int)])))] [(macV adM), (AV.agg [(nm .i64 (0)), (AV.sl 1 (is .i64 ([((2 : Nat) : Int), ((1 : Nat) : Int)])))])] _ (AV.tup [(AV.lit (.string (encS adM exC))), (nm .i64 (encE adM exC))]) [] Gd.none Yf_tC8 rfl (And.intro ⟨_, rfl⟩ (trivial)) rfl rfl (LeL.cons (AV.le_refl _) (LeL.cons (AV.le_refl _) (LeL.nil))) (c_Encode adM exC) rfl ?_
  refine o_mv (AV.tup [(AV.lit (.string (encS adM exC))), (nm .i64 (encE adM exC))]) rfl ?_
  refine o_extract (AV.lit (.string (encS adM exC))) Gd.none rfl rfl ?_
  refine n_as (v' := (AV.lit (.string (({data := #[54, 48]} : ByteArray))))) (by exact str_as2 ex_enc.1) ?_
  refine o_extract (nm .i64 (encE adM exC)) Gd.none rfl rfl ?_
  refine n_as (v' := (nm .i64 (0))) (by exact congrArg (nm _) ex_enc.2) ?_
  refine o_as (AV.lit (.string (({data := #[54, 48]} : ByteArray)))) rfl ?_
  refine o_as (nm .i64 (0)) rfl ?_
  refine aops_end ?_
  refine hK2 _ ?_
  refine awp_seq fun K3 hK3 => ?_
  refine awp_region rfl ?_
  refine o_mv (AV.sl 2 (gcells cF ([(Frc.mk (({data := #[49, 51]} : ByteArray)) (({data := #[49, 48]} : ByteArray))), (Frc.mk (({data := #[49, 57]} : ByteArray)) (({data := #[53]} : ByteArray))), (Frc.mk (({data := #[50, 49]} : ByteArray)) (({data := #[49, 49]} : ByteArray))), (Frc.mk (({data := #[53]} : ByteArray)) (({data := #[55]} : ByteArray))), (Frc.mk (({data := #[49, 49]} : ByteArray)) (({data := #[49, 51]} : ByteArray))), (Frc.mk (({data := #[49, 55]} : ByteArray)) (({data := #[49, 57]} : ByteArray)))]))) rfl ?_
  refine o_ct (c_Play ([(Frc.mk (({data := #[49, 51]} : ByteArray)) (({data := #[49, 48]} : ByteArray))), (Frc.mk (({data := #[49, 57]} : ByteArray)) (({data := #[53]} : ByteArray))), (Frc.mk (({data := #[50, 49]} : ByteArray)) (({data := #[49, 49]} : ByteArray))), (Frc.mk (({data := #[53]} : ByteArray)) (({data := #[55]} : ByteArray))), (Frc.mk (({data := #[49, 49]} : ByteArray)) (({data := #[49, 51]} : ByteArray))), (Frc.mk (({data := #[49, 55]} : ByteArray)) (({data := #[49, 57]} : ByteArray)))]) (({data := #[54, 48]} : ByteArray)) ((4 : Int)) (by first | assumption | exact ex_sz) (by first | assumption | decide | omega)) Gd.none Yf_tC10 rfl ?_
  refine o_mv (AV.tup [(AV.lit (.string ((plyA ([(Frc.mk (({data := #[49, 51]} : ByteArray)) (({data := #[49, 48]} : ByteArray))), (Frc.mk (({data := #[49, 57]} : ByteArray)) (({data := #[53]} : ByteArray))), (Frc.mk (({data := #[50, 49]} : ByteArray)) (({data := #[49, 49]} : ByteArray))), (Frc.mk (({data := #[53]} : ByteArray)) (({data := #[55]} : ByteArray))), (Frc.mk (({data := #[49, 49]} : ByteArray)) (({data := #[49, 51]} : ByteArray))), (Frc.mk (({data := #[49, 55]} : ByteArray)) (({data := #[49, 57]} : ByteArray)))]) (({data := #[54, 48]} : ByteArray)) ((4 : Int))).1))), (nm .i64 ((plyA ([(Frc.mk (({data := #[49, 51]} : ByteArray)) (({data := #[49, 48]} : ByteArray))), (Frc.mk (({data := #[49, 57]} : ByteArray)) (({data := #[53]} : ByteArray))), (Frc.mk (({data := #[50, 49]} : ByteArray)) (({data := #[49, 49]} : ByteArray))), (Frc.mk (({data := #[53]} : ByteArray)) (({data := #[55]} : ByteArray))), (Frc.mk (({data := #[49, 49]} : ByteArray)) (({data := #[49, 51]} : ByteArray))), (Frc.mk (({data := #[49, 55]} : ByteArray)) (({data := #[49, 57]} : ByteArray)))]) (({data := #[54, 48]} : ByteArray)) ((4 : Int))).2.1)), (nm .i64 ((plyA ([(Frc.mk (({data := #[49, 51]} : ByteArray)) (({data := #[49, 48]} : ByteArray))), (Frc.mk (({data := #[49, 57]} : ByteArray)) (({data := #[53]} : ByteArray))), (Frc.mk (({data := #[50, 49]} : ByteArray)) (({data := #[49, 49]} : ByteArray))), (Frc.mk (({data := #[53]} : ByteArray)) (({data := #[55]} : ByteArray))), (Frc.mk (({data := #[49, 49]} : ByteArray)) (({data := #[49, 51]} : ByteArray))), (Frc.mk (({data := #[49, 55]} : ByteArray)) (({data := #[49, 57]} : ByteArray)))]) (({data := #[54, 48]} : ByteArray)) ((4 : Int))).2.2))]) rfl ?_
  refine o_extract (AV.lit (.string ((plyA ([(Frc.mk (({data := #[49, 51]} : ByteArray)) (({data := #[49, 48]} : ByteArray))), (Frc.mk (({data := #[49, 57]} : ByteArray)) (({data := #[53]} : ByteArray))), (Frc.mk (({data := #[50, 49]} : ByteArray)) (({data := #[49, 49]} : ByteArray))), (Frc.mk (({data := #[53]} : ByteArray)) (({data := #[55]} : ByteArray))), (Frc.mk (({data := #[49, 49]} : ByteArray)) (({data := #[49, 51]} : ByteArray))), (Frc.mk (({data := #[49, 55]} : ByteArray)) (({data := #[49, 57]} : ByteArray)))]) (({data := #[54, 48]} : ByteArray)) ((4 : Int))).1))) Gd.none rfl rfl ?_
  refine n_as (v' := (AV.lit (.string (({data := #[57, 48]} : ByteArray))))) (by exact str_as2 (congrArg Prod.fst ex_play)) ?_
  refine o_extract (nm .i64 ((plyA ([(Frc.mk (({data := #[49, 51]} : ByteArray)) (({data := #[49, 48]} : ByteArray))), (Frc.mk (({data := #[49, 57]} : ByteArray)) (({data := #[53]} : ByteArray))), (Frc.mk (({data := #[50, 49]} : ByteArray)) (({data := #[49, 49]} : ByteArray))), (Frc.mk (({data := #[53]} : ByteArray)) (({data := #[55]} : ByteArray))), (Frc.mk (({data := #[49, 49]} : ByteArray)) (({data := #[49, 51]} : ByteArray))), (Frc.mk (({data := #[49, 55]} : ByteArray)) (({data := #[49, 57]} : ByteArray)))]) (({data := #[54, 48]} : ByteArray)) ((4 : Int))).2.1)) Gd.none rfl rfl ?_
  refine n_as (v' := (nm .i64 (4))) (by exact congrArg (nm _) (congrArg (fun x => x.2.1) ex_play)) ?_
  refine o_extract (nm .i64 ((plyA ([(Frc.mk (({data := #[49, 51]} : ByteArray)) (({data := #[49, 48]} : ByteArray))), (Frc.mk (({data := #[49, 57]} : ByteArray)) (({data := #[53]} : ByteArray))), (Frc.mk (({data := #[50, 49]} : ByteArray)) (({data := #[49, 49]} : ByteArray))), (Frc.mk (({data := #[53]} : ByteArray)) (({data := #[55]} : ByteArray))), (Frc.mk (({data := #[49, 49]} : ByteArray)) (({data := #[49, 51]} : ByteArray))), (Frc.mk (({data := #[49, 55]} : ByteArray)) (({data := #[49, 57]} : ByteArray)))]) (({data := #[54, 48]} : ByteArray)) ((4 : Int))).2.2)) Gd.none rfl rfl ?_
  refine n_as (v' := (nm .i64 (0))) (by exact congrArg (nm _) (congrArg (fun x => x.2.2) ex_play)) ?_
  refine o_as (AV.lit (.string (({data := #[57, 48]} : ByteArray)))) rfl ?_
  refine o_as (nm .i64 (4)) rfl ?_
  refine o_as (nm .i64 (0)) rfl ?_
  refine aops_end ?_
  refine hK3 _ ?_
  refine awp_seq fun K4 hK4 => ?_
  refine awp_region rfl ?_
  refine o_mv (nm .i64 (0)) rfl ?_
  refine n_eql (0) (0) Gd.none rfl rfl ?_
  refine o_mv (bp ((0) = (0))) rfl ?_
  refine o_move (nm .i64 (0)) (Gd.yes rfl rfl (decide_eq_true (by decide))) rfl ?_
  refine n_eql (0) (0) (Gd.yes rfl rfl (decide_eq_true (by decide))) rfl rfl ?_
  refine o_pickT (bp ((0) = (0))) Gd.none rfl (decide_eq_true (by decide)) rfl ?_
  refine o_mv (bp ((0) = (0))) rfl ?_
  refine o_move (nm .i64 (0)) (Gd.yes rfl rfl (decide_eq_true (by decide))) rfl ?_
  refine n_eql (0) (0) (Gd.yes rfl rfl (decide_eq_true (by decide))) rfl rfl ?_
  refine o_pickT (bp ((0) = (0))) Gd.none rfl (decide_eq_true (by decide)) rfl ?_
  refine o_mv (bp ((0) = (0))) rfl ?_
  refine o_move (AV.lit (.string (({data := #[54, 48]} : ByteArray)))) (Gd.yes rfl rfl (decide_eq_true (by decide))) rfl ?_
  refine o_eqlS (a := (({data := #[54, 48]} : ByteArray))) (c := (({data := #[54, 48]} : ByteArray))) (Gd.yes rfl rfl (decide_eq_true (by decide))) rfl rfl ?_
  refine o_pickT (bp ((({data := #[54, 48]} : ByteArray)).toList = (({data := #[54, 48]} : ByteArray)).toList)) Gd.none rfl (decide_eq_true (by decide)) rfl ?_
  refine o_mv (bp ((({data := #[54, 48]} : ByteArray)).toList = (({data := #[54, 48]} : ByteArray)).toList)) rfl ?_
  refine o_move (AV.lit (.string (({data := #[57, 48]} : ByteArray)))) (Gd.yes rfl rfl (decide_eq_true rfl)) rfl ?_
  refine o_eqlS (a := (({data := #[57, 48]} : ByteArray))) (c := (({data := #[57, 48]} : ByteArray))) (Gd.yes rfl rfl (decide_eq_true rfl)) rfl rfl ?_
  refine o_pickT (bp ((({data := #[57, 48]} : ByteArray)).toList = (({data := #[57, 48]} : ByteArray)).toList)) Gd.none rfl (decide_eq_true rfl) rfl ?_
  refine o_mv (bp ((({data := #[57, 48]} : ByteArray)).toList = (({data := #[57, 48]} : ByteArray)).toList)) rfl ?_
  refine o_move (nm .i64 (4)) (Gd.yes rfl rfl (decide_eq_true rfl)) rfl ?_
  refine n_eql (4) (4) (Gd.yes rfl rfl (decide_eq_true rfl)) rfl rfl ?_
  refine o_pickT (bp ((4) = (4))) Gd.none rfl (decide_eq_true rfl) rfl ?_
  refine o_mv (bp ((4) = (4))) rfl ?_
  refine o_move (AV.sl 2 (gcells cF ([(Frc.mk (({data := #[49, 51]} : ByteArray)) (({data := #[49, 48]} : ByteArray))), (Frc.mk (({data := #[49, 57]} : ByteArray)) (({data := #[53]} : ByteArray))), (Frc.mk (({data := #[50, 49]} : ByteArray)) (({data := #[49, 49]} : ByteArray))), (Frc.mk (({data := #[53]} : ByteArray)) (({data := #[55]} : ByteArray))), (Frc.mk (({data := #[49, 49]} : ByteArray)) (({data := #[49, 51]} : ByteArray))), (Frc.mk (({data := #[49, 55]} : ByteArray)) (({data := #[49, 57]} : ByteArray)))]))) (Gd.yes rfl rfl (decide_eq_true (by decide))) rfl ?_
  refine o_build [(AV.lit (.string (({data := #[49, 51]} : ByteArray)))), (AV.lit (.string (({data := #[49, 48]} : ByteArray))))] [(0, [(AV.lit (.string (({data := #[49, 51]} : ByteArray))))]), (1, [(AV.lit (.string (({data := #[49, 48]} : ByteArray))))])] (Gd.yes rfl rfl (decide_eq_true (by decide))) Yf_tP50 Yf_tO50 rfl rfl rfl ?_
  refine o_build [(AV.lit (.string (({data := #[49, 57]} : ByteArray)))), (AV.lit (.string (({data := #[53]} : ByteArray))))] [(0, [(AV.lit (.string (({data := #[49, 57]} : ByteArray))))]), (1, [(AV.lit (.string (({data := #[53]} : ByteArray))))])] (Gd.yes rfl rfl (decide_eq_true (by decide))) Yf_tP50 Yf_tO50 rfl rfl rfl ?_
  refine o_build [(AV.lit (.string (({data := #[50, 49]} : ByteArray)))), (AV.lit (.string (({data := #[49, 49]} : ByteArray))))] [(0, [(AV.lit (.string (({data := #[50, 49]} : ByteArray))))]), (1, [(AV.lit (.string (({data := #[49, 49]} : ByteArray))))])] (Gd.yes rfl rfl (decide_eq_true (by decide))) Yf_tP50 Yf_tO50 rfl rfl rfl ?_
  refine o_build [(AV.lit (.string (({data := #[53]} : ByteArray)))), (AV.lit (.string (({data := #[55]} : ByteArray))))] [(0, [(AV.lit (.string (({data := #[53]} : ByteArray))))]), (1, [(AV.lit (.string (({data := #[55]} : ByteArray))))])] (Gd.yes rfl rfl (decide_eq_true (by decide))) Yf_tP50 Yf_tO50 rfl rfl rfl ?_
  refine o_build [(AV.lit (.string (({data := #[49, 49]} : ByteArray)))), (AV.lit (.string (({data := #[49, 51]} : ByteArray))))] [(0, [(AV.lit (.string (({data := #[49, 49]} : ByteArray))))]), (1, [(AV.lit (.string (({data := #[49, 51]} : ByteArray))))])] (Gd.yes rfl rfl (decide_eq_true (by decide))) Yf_tP50 Yf_tO50 rfl rfl rfl ?_
  refine o_build [(AV.lit (.string (({data := #[49, 55]} : ByteArray)))), (AV.lit (.string (({data := #[49, 57]} : ByteArray))))] [(0, [(AV.lit (.string (({data := #[49, 55]} : ByteArray))))]), (1, [(AV.lit (.string (({data := #[49, 57]} : ByteArray))))])] (Gd.yes rfl rfl (decide_eq_true (by decide))) Yf_tP50 Yf_tO50 rfl rfl rfl ?_
  refine o_buildSlice 3 (gcells cF ([(Frc.mk (({data := #[49, 51]} : ByteArray)) (({data := #[49, 48]} : ByteArray))), (Frc.mk (({data := #[49, 57]} : ByteArray)) (({data := #[53]} : ByteArray))), (Frc.mk (({data := #[50, 49]} : ByteArray)) (({data := #[49, 49]} : ByteArray))), (Frc.mk (({data := #[53]} : ByteArray)) (({data := #[55]} : ByteArray))), (Frc.mk (({data := #[49, 49]} : ByteArray)) (({data := #[49, 51]} : ByteArray))), (Frc.mk (({data := #[49, 55]} : ByteArray)) (({data := #[49, 57]} : ByteArray)))])) [(0, [(AV.lit (.string (({data := #[49, 51]} : ByteArray)))), (AV.lit (.string (({data := #[49, 48]} : ByteArray))))]), (1, [(AV.lit (.string (({data := #[49, 57]} : ByteArray)))), (AV.lit (.string (({data := #[53]} : ByteArray))))]), (2, [(AV.lit (.string (({data := #[50, 49]} : ByteArray)))), (AV.lit (.string (({data := #[49, 49]} : ByteArray))))]), (3, [(AV.lit (.string (({data := #[53]} : ByteArray)))), (AV.lit (.string (({data := #[55]} : ByteArray))))]), (4, [(AV.lit (.string (({data := #[49, 49]} : ByteArray)))), (AV.lit (.string (({data := #[49, 51]} : ByteArray))))]), (5, [(AV.lit (.string (({data := #[49, 55]} : ByteArray)))), (AV.lit (.string (({data := #[49, 57]} : ByteArray))))])] (Gd.yes rfl rfl (decide_eq_true (by decide))) Yf_tE30 rfl Yf_tO50 rfl rfl rfl rfl rfl rfl rfl ?_
  refine o_callG [(3, 2, (gcells cF ([(Frc.mk (({data := #[49, 51]} : ByteArray)) (({data := #[49, 48]} : ByteArray))), (Frc.mk (({data := #[49, 57]} : ByteArray)) (({data := #[53]} : ByteArray))), (Frc.mk (({data := #[50, 49]} : ByteArray)) (({data := #[49, 49]} : ByteArray))), (Frc.mk (({data := #[53]} : ByteArray)) (({data := #[55]} : ByteArray))), (Frc.mk (({data := #[49, 49]} : ByteArray)) (({data := #[49, 51]} : ByteArray))), (Frc.mk (({data := #[49, 55]} : ByteArray)) (({data := #[49, 57]} : ByteArray)))])))] [(AV.sl 2 (gcells cF ([(Frc.mk (({data := #[49, 51]} : ByteArray)) (({data := #[49, 48]} : ByteArray))), (Frc.mk (({data := #[49, 57]} : ByteArray)) (({data := #[53]} : ByteArray))), (Frc.mk (({data := #[50, 49]} : ByteArray)) (({data := #[49, 49]} : ByteArray))), (Frc.mk (({data := #[53]} : ByteArray)) (({data := #[55]} : ByteArray))), (Frc.mk (({data := #[49, 49]} : ByteArray)) (({data := #[49, 51]} : ByteArray))), (Frc.mk (({data := #[49, 55]} : ByteArray)) (({data := #[49, 57]} : ByteArray)))]))), (AV.sl 2 (gcells cF ([(Frc.mk (({data := #[49, 51]} : ByteArray)) (({data := #[49, 48]} : ByteArray))), (Frc.mk (({data := #[49, 57]} : ByteArray)) (({data := #[53]} : ByteArray))), (Frc.mk (({data := #[50, 49]} : ByteArray)) (({data := #[49, 49]} : ByteArray))), (Frc.mk (({data := #[53]} : ByteArray)) (({data := #[55]} : ByteArray))), (Frc.mk (({data := #[49, 49]} : ByteArray)) (({data := #[49, 51]} : ByteArray))), (Frc.mk (({data := #[49, 55]} : ByteArray)) (({data := #[49, 57]} : ByteArray)))])))] _ (AV.lit (.bool true)) [] (Gd.yes rfl rfl (decide_eq_true (by decide))) Yf_tC16 rfl (And.intro ⟨_, rfl⟩ (trivial)) rfl rfl (LeL.cons (AV.le_refl _) (LeL.cons (AV.le_refl _) (LeL.nil))) (c_vSameList ([(Frc.mk (({data := #[49, 51]} : ByteArray)) (({data := #[49, 48]} : ByteArray))), (Frc.mk (({data := #[49, 57]} : ByteArray)) (({data := #[53]} : ByteArray))), (Frc.mk (({data := #[50, 49]} : ByteArray)) (({data := #[49, 49]} : ByteArray))), (Frc.mk (({data := #[53]} : ByteArray)) (({data := #[55]} : ByteArray))), (Frc.mk (({data := #[49, 49]} : ByteArray)) (({data := #[49, 51]} : ByteArray))), (Frc.mk (({data := #[49, 55]} : ByteArray)) (({data := #[49, 57]} : ByteArray)))]) (by first | assumption | omega | decide)) rfl ?_
  refine o_pickT (AV.lit (.bool true)) Gd.none rfl (decide_eq_true (by decide)) rfl ?_
  refine o_as (AV.lit (.bool true)) rfl ?_
  refine aops_end ?_
  refine hK4 _ ?_
  refine awp_ret ?_
  refine post_ret ⟨[(AV.lit (.bool true))], And.intro (AV.le_refl _) (trivial), rfl, ?_⟩
  rfl

end Go.Proofs.YtpamhblonmpniaaDoor

set_option linter.unusedVariables false
set_option linter.unusedSimpArgs false
namespace Go.Mth
open Go Go.Ab
theorem dec_pos {m : Mac} {n : ByteArray} (hM : okMac m) (ho : okS n = true) (h : 0 < numS n) : decE m n = (if decB m (numS n).toNat then 0 else 4) ∧ decV m n = decC m (numS n).toNat := by
  have e : posE n = 0 := posE_0.2 ⟨ho, h⟩
  unfold decE decV
  rw [if_pos hM, if_pos hM, if_pos e, if_pos e]
  exact ⟨rfl, rfl⟩
end Go.Mth

set_option linter.unusedVariables false
set_option linter.unusedSimpArgs false
namespace Go.Mth
open Go Go.Ab
theorem spN_pow {p r : Nat} (hp : 2 ≤ p) (hr : 0 < r) (hn : ¬ r % p = 0) : ∀ k : Nat, spN p (p ^ k * r) = (k, r)
  | 0 => by rw [Nat.pow_zero, Nat.one_mul, spN_no hn]
  | k + 1 => by
    have e : p ^ (k + 1) * r = p * (p ^ k * r) := by rw [Nat.pow_succ, Nat.mul_comm (p ^ k) p, Nat.mul_assoc]
    have h0 : 0 < p * (p ^ k * r) := Nat.mul_pos (by omega) (Nat.mul_pos (Nat.pow_pos (by omega)) hr)
    rw [e, spN_yes hp h0 (Nat.mul_mod_right _ _), Nat.mul_div_cancel_left _ (by omega), spN_pow hp hr hn k]
def prN : Nat → List Int → Nat
  | _, [] => 1
  | i, n :: r => (P30.getD i 0) ^ n.toNat * prN (i + 1) r
theorem prN_Z : ∀ (l : List Int) (i : Nat), prdZ i l = ((prN i l : Nat) : Int)
  | [], _ => rfl
  | n :: r, i => by
    show ((P30.getD i 0 : Nat) : Int) ^ n.toNat * prdZ (i + 1) r = _
    rw [prN_Z r (i + 1), prN, Int.natCast_mul, Int.natCast_pow]
theorem cop30 {i j : Nat} (hi : i < 30) (hj : j < 30) (h : i ≠ j) : Nat.Coprime (P30.getD i 0) (P30.getD j 0) := p30_cop i hi j hj h
theorem cop_prN {q : Nat} : ∀ (l : List Int) (i : Nat), q < i → i + l.length ≤ 30 → Nat.Coprime (P30.getD q 0) (prN i l)
  | [], _, _, _ => Nat.coprime_one_right _
  | n :: r, i, h, hl => by
    have hl' : i + 1 + r.length ≤ 30 := by simp at hl; omega
    exact Nat.Coprime.mul_right (Nat.Coprime.pow_right _ (cop30 (by omega) (by omega) (by omega))) (cop_prN r (i + 1) (by omega) hl')
theorem prN_pos : ∀ (l : List Int) (i : Nat), i + l.length ≤ 30 → 0 < prN i l
  | [], _, _ => Nat.one_pos
  | n :: r, i, h => by
    have hl' : i + 1 + r.length ≤ 30 := by simp at h; omega
    exact Nat.mul_pos (Nat.pow_pos (by have := p30_ge i (by omega); omega)) (prN_pos r (i + 1) hl')
theorem not_mod {p r : Nat} (hp : 2 ≤ p) (h : Nat.Coprime p r) : ¬ r % p = 0 := fun e => by
  have d := Nat.dvd_of_mod_eq_zero e
  have : Nat.gcd p r = p := Nat.gcd_eq_left d
  rw [Nat.Coprime, this] at h
  omega
theorem dcL_num {r : Nat} (hr : 0 < r) : ∀ (l : List Int) (i : Nat), i + l.length ≤ 30 → (∀ n ∈ l, 0 ≤ n) → (∀ j, i ≤ j → j < i + l.length → Nat.Coprime (P30.getD j 0) r) → dcL l.length i (prN i l * r) = (l, r)
  | [], i, _, _, _ => by show ([], prN i [] * r) = _; rw [prN, Nat.one_mul]
  | n :: l, i, h, hn, hc => by
    have hl' : i + 1 + l.length ≤ 30 := by simp at h; omega
    have hp := p30_ge i (by omega)
    have c1 : Nat.Coprime (P30.getD i 0) (prN (i + 1) l * r) := Nat.Coprime.mul_right (cop_prN l (i + 1) (by omega) hl') (hc i (Nat.le_refl _) (by simp))
    have e : spN (P30.getD i 0) (prN i (n :: l) * r) = (n.toNat, prN (i + 1) l * r) := by
      rw [prN, Nat.mul_assoc]
      exact spN_pow hp (Nat.mul_pos (prN_pos l (i + 1) hl') hr) (not_mod hp c1) _
    have ih := dcL_num hr l (i + 1) hl' (fun x hx => hn x (by simp [hx])) (fun j h1 h2 => hc j (by omega) (by simp; omega))
    show ((((spN (P30.getD i 0) (prN i (n :: l) * r)).1 : Nat) : Int) :: (dcL l.length (i + 1) (spN (P30.getD i 0) (prN i (n :: l) * r)).2).1, (dcL l.length (i + 1) (spN (P30.getD i 0) (prN i (n :: l) * r)).2).2) = _
    rw [e, ih]
    show (((n.toNat : Nat) : Int) :: l, r) = _
    rw [Int.toNat_of_nonneg (hn n (by simp))]
theorem numC_N (m : Mac) (c : Cfg) : numC m c = ((prN 0 c.regs * ownP m c.at' : Nat) : Int) := by
  unfold numC
  rw [prN_Z, Int.natCast_mul, Int.mul_comm]
end Go.Mth

set_option linter.unusedVariables false
set_option linter.unusedSimpArgs false
namespace Go.Mth
open Go Go.Ab
theorem encS_sz (m : Mac) (c : Cfg) : (encS m c).size ≤ 9223372036854775807 := by
  unfold encS
  split
  · exact told_sz _
  · exact (by decide : (0 : Nat) ≤ 9223372036854775807)
theorem numC_pos {m : Mac} {c : Cfg} (h : okCfg m c) : 0 < numC m c := by
  obtain ⟨⟨o1, o2, o3, o4, o5⟩, q1, q2, q3⟩ := h
  unfold plc at q1
  have ow : 2 ≤ ownP m c.at' := p30_ge _ (by omega)
  exact Int.mul_pos (by omega) (prd_pos c.regs 0 (by omega))
end Go.Mth

set_option linter.unusedVariables false
set_option linter.unusedSimpArgs false
namespace Go.Mth
open Go Go.Ab
theorem cop_gen {q : Nat} (hq : q < 30) : ∀ (l : List Int) (i : Nat), i + l.length ≤ 30 → (∀ j, j < l.length → q = i + j → (l.getD j 0).toNat = 0) → Nat.Coprime (P30.getD q 0) (prN i l)
  | [], _, _, _ => Nat.coprime_one_right _
  | n :: r, i, hl, h => by
    have hl' : i + 1 + r.length ≤ 30 := by simp at hl; omega
    have ih := cop_gen hq r (i + 1) hl' fun j hj e => by have := h (j + 1) (by simp; omega) (by omega); simpa using this
    refine Nat.Coprime.mul_right ?_ ih
    by_cases e : q = i
    · have h0 : n.toNat = 0 := by have := h 0 (by simp) (by omega); simpa using this
      rw [h0, Nat.pow_zero]
      exact Nat.coprime_one_right _
    · exact Nat.Coprime.pow_right _ (cop30 hq (by omega) e)
theorem dvd_prN {q : Nat} : ∀ (l : List Int) (i j : Nat), j < l.length → q = i + j → 0 < (l.getD j 0).toNat → P30.getD q 0 ∣ prN i l
  | [], _, j, h, _, _ => by simp at h
  | n :: r, i, 0, _, e, h => by
    rw [e, Nat.add_zero]
    have h' : 0 < n.toNat := by simpa using h
    have e2 : prN i (n :: r) = P30.getD i 0 ^ ((n.toNat - 1) + 1) * prN (i + 1) r := by rw [prN, show (n.toNat - 1) + 1 = n.toNat by omega]
    rw [e2, Nat.pow_succ]
    exact Nat.dvd_trans (Nat.dvd_mul_left _ _) (Nat.dvd_mul_right _ _)
  | n :: r, i, j + 1, hj, e, h => by
    exact Nat.dvd_trans (dvd_prN r (i + 1) j (by simpa using hj) (by omega) (by simpa using h)) (Nat.dvd_mul_left _ _)
theorem num_dvd {m : Mac} {c : Cfg} (h : okCfg m c) {q : Nat} (hq : q < 30) : P30.getD q 0 ∣ (numC m c).toNat ↔ q = (m.regs + 2 * c.at').toNat ∨ (q < c.regs.length ∧ 0 < c.regs.getD q 0) := by
  obtain ⟨⟨o1, o2, o3, o4, o5⟩, q1, q2, q3⟩ := h
  unfold plc at q1
  rw [numC_N, Int.toNat_natCast]
  constructor
  · intro d
    refine Decidable.byContradiction fun hn => ?_
    have hn1 : q ≠ (m.regs + 2 * c.at').toNat := fun e => hn (.inl e)
    have c1 : Nat.Coprime (P30.getD q 0) (prN 0 c.regs) := cop_gen hq c.regs 0 (by omega) fun j hj e => by
      have : ¬ 0 < c.regs.getD q 0 := fun g => hn (.inr ⟨by omega, g⟩)
      rw [show j = q by omega]
      omega
    have c2 : Nat.Coprime (P30.getD q 0) (ownP m c.at') := cop30 hq (by omega) hn1
    exact not_mod (p30_ge q hq) (Nat.Coprime.mul_right c1 c2) (Nat.mod_eq_zero_of_dvd d)
  · rintro (e | ⟨a, b⟩)
    · rw [e]
      exact Nat.dvd_mul_left _ _
    · exact Nat.dvd_trans (dvd_prN c.regs 0 q a (by omega) (by omega)) (Nat.dvd_mul_right _ _)
theorem hit_num {m : Mac} {c : Cfg} (h : okCfg m c) (a b : Nat) : hitP (numC m c) (frc a b) ↔ b ∣ (numC m c).toNat := by
  have h0 := numC_pos h
  rw [hit_frc, ← Int.dvd_iff_emod_eq_zero, ← Int.natCast_dvd_natCast, Int.toNat_of_nonneg (by omega)]
theorem hit_own {m : Mac} {c : Cfg} (h : okCfg m c) {s a : Nat} (hs : s ≤ m.code.length) : hitP (numC m c) (frc a (ownP m ((s : Nat) : Int))) ↔ ((s : Nat) : Int) = c.at' := by
  obtain ⟨⟨o1, o2, o3, o4, o5⟩, q1, q2, q3⟩ := id h
  unfold plc at q1
  rw [hit_num h]
  have := num_dvd h (q := (m.regs + 2 * ((s : Nat) : Int)).toNat) (by omega)
  rw [show ownP m ((s : Nat) : Int) = P30.getD (m.regs + 2 * ((s : Nat) : Int)).toNat 0 from rfl, this]
  constructor
  · rintro (e | ⟨e, _⟩) <;> omega
  · intro e; exact .inl (by omega)
theorem hit_twn {m : Mac} {c : Cfg} (h : okCfg m c) {s a : Nat} (hs : s ≤ m.code.length) : ¬ hitP (numC m c) (frc a (twnP m ((s : Nat) : Int))) := by
  obtain ⟨⟨o1, o2, o3, o4, o5⟩, q1, q2, q3⟩ := id h
  unfold plc at q1
  rw [hit_num h]
  have := num_dvd h (q := (m.regs + 2 * ((s : Nat) : Int) + 1).toNat) (by omega)
  rw [show twnP m ((s : Nat) : Int) = P30.getD (m.regs + 2 * ((s : Nat) : Int) + 1).toNat 0 from rfl, this]
  rintro (e | ⟨e, _⟩) <;> omega
theorem hit_dec {m : Mac} {c : Cfg} (h : okCfg m c) {s a : Nat} {x : Ins} (hs : s ≤ m.code.length) (hx : 0 ≤ x.reg ∧ x.reg < m.regs) : hitP (numC m c) (frc a (ownP m ((s : Nat) : Int) * rgP x)) ↔ ((s : Nat) : Int) = c.at' ∧ 0 < c.regs.getD x.reg.toNat 0 := by
  obtain ⟨⟨o1, o2, o3, o4, o5⟩, q1, q2, q3⟩ := id h
  unfold plc at q1
  have e1 := hit_own h (s := s) (a := a) hs
  rw [hit_num h] at e1 ⊢
  have e2 := num_dvd h (q := x.reg.toNat) (by omega)
  have e3 : rgP x ∣ (numC m c).toNat ↔ 0 < c.regs.getD x.reg.toNat 0 := by
    rw [show rgP x = P30.getD x.reg.toNat 0 from rfl, e2]
    constructor
    · rintro (e | ⟨_, e⟩)
      · omega
      · exact e
    · intro e; exact .inr ⟨by omega, e⟩
  have co : Nat.Coprime (ownP m ((s : Nat) : Int)) (rgP x) := cop30 (by omega) (by omega) (by omega)
  rw [← e1, ← e3]
  constructor
  · intro d
    exact ⟨Nat.dvd_trans (Nat.dvd_mul_right _ _) d, Nat.dvd_trans (Nat.dvd_mul_left _ _) d⟩
  · rintro ⟨a1, a2⟩
    exact Nat.Coprime.mul_dvd_of_dvd_of_dvd co a1 a2
end Go.Mth

set_option linter.unusedVariables false
set_option linter.unusedSimpArgs false
namespace Go.Mth
open Go Go.Ab
theorem fst_app {A B : List Frc} {f : Frc} {z : Int} (hA : ∀ g ∈ A, ¬ hitP z g) (hf : hitP z f) : fstI (A ++ f :: B) z = (A.length : Int) ∧ (A ++ f :: B).getD A.length default = f := by
  have e : (A ++ f :: B).getD A.length default = f := by
    rw [List.getD_eq_getElem?_getD, List.getElem?_append_right (Nat.le_refl _), Nat.sub_self]; rfl
  refine ⟨ixP_hit (d := default) (by simp) (by rw [e]; exact hf) fun k hk => ?_, e⟩
  rw [List.getD_eq_getElem?_getD, List.getElem?_append_left hk, List.getElem?_eq_getElem hk]
  exact hA _ (List.getElem_mem hk)
theorem fst_no {A : List Frc} {z : Int} (hA : ∀ g ∈ A, ¬ hitP z g) : fstI A z = -1 := if_neg fun ⟨g, hg, hh⟩ => hA g hg hh
theorem cmp1_split (m : Mac) : ∀ (d i : Nat), ∃ U, cmp1 m (i + d) = cmp1 m i ++ U
  | 0, i => ⟨[], by simp⟩
  | d + 1, i => by
    obtain ⟨U, hU⟩ := cmp1_split m d i
    exact ⟨U ++ insF m (i + d) (m.code.getD (i + d) default), by rw [show i + (d + 1) = (i + d) + 1 by omega, cmp1, hU, List.append_assoc]⟩
theorem cmp2_split (m : Mac) : ∀ i, ∃ U, cmp2 m i = cmp1 m m.code.length ++ U
  | 0 => ⟨[], by simp [cmp2]⟩
  | i + 1 => by
    obtain ⟨U, hU⟩ := cmp2_split m i
    exact ⟨U ++ [frc (ownP m ((i : Nat) : Int)) (twnP m ((i : Nat) : Int))], by rw [cmp2, hU, List.append_assoc]⟩
theorem cmpR_split {m : Mac} (hM : okMac m) {s : Nat} (hs : s < m.code.length) : ∃ U, cmpR m = cmp1 m s ++ (insF m s (m.code.getD s default) ++ U) := by
  obtain ⟨U, hU⟩ := cmp2_split m (m.code.length + 1)
  obtain ⟨V, hV⟩ := cmp1_split m (m.code.length - (s + 1)) (s + 1)
  rw [show s + 1 + (m.code.length - (s + 1)) = m.code.length by omega] at hV
  refine ⟨V ++ U, ?_⟩
  rw [show cmpR m = cmp2 m (m.code.length + 1) from if_pos hM, hU, hV, cmp1]
  simp only [List.append_assoc]
theorem ins_miss {m : Mac} {c : Cfg} (h : okCfg m c) {s : Nat} (hs : s < m.code.length) (hn : ((s : Nat) : Int) ≠ c.at') : ∀ g ∈ insF m s (m.code.getD s default), ¬ hitP (numC m c) g := by
  have hx : insP m (m.code.getD s default) := h.1.2.2.2.2 _ (gdm hs)
  intro g hg
  unfold insF at hg
  split at hg
  · rw [List.mem_singleton] at hg
    rw [hg, hit_own h (by omega)]
    exact hn
  · simp only [List.mem_cons, List.not_mem_nil, or_false] at hg
    rcases hg with rfl | rfl
    · rw [hit_dec h (by omega) ⟨hx.1.1, hx.1.2.1⟩]
      exact fun e => hn e.1
    · rw [hit_own h (by omega)]
      exact hn
theorem cmp1_miss {m : Mac} {c : Cfg} (h : okCfg m c) : ∀ s : Nat, s ≤ m.code.length → ((s : Nat) : Int) ≤ c.at' → ∀ g ∈ cmp1 m s, ¬ hitP (numC m c) g
  | 0, _, _, g, hg => by simp [cmp1] at hg
  | s + 1, h1, h2, g, hg => by
    rw [cmp1] at hg
    rcases List.mem_append.1 hg with hg | hg
    · exact cmp1_miss h s (by omega) (by omega) g hg
    · exact ins_miss h (by omega) (by omega) g hg
def frcC (m : Mac) (c : Cfg) : Frc := if (insAt m c).kind = 0 then frc (twnP m (insAt m c).next * rgP (insAt m c)) (ownP m c.at') else if 0 < regAt m c then frc (twnP m (insAt m c).next) (ownP m c.at' * rgP (insAt m c)) else frc (twnP m (insAt m c).els) (ownP m c.at')
theorem fst_cfg {m : Mac} {c : Cfg} (h : okCfg m c) (hn : ¬ c.at' = (m.code.length : Int)) : 0 ≤ fstI (cmpR m) (numC m c) ∧ (cmpR m).getD (fstI (cmpR m) (numC m c)).toNat default = frcC m c := by
  obtain ⟨a1, a2, a3, a4, a5⟩ := okC_at h hn
  have q1 := h.2.1
  unfold plc at q1
  obtain ⟨U, hU⟩ := cmpR_split h.1 a1
  have hm := cmp1_miss h c.at'.toNat (by omega) (by omega)
  have es : ((c.at'.toNat : Nat) : Int) = c.at' := Int.toNat_of_nonneg q1.1
  have ho : ∀ a, hitP (numC m c) (frc a (ownP m c.at')) := fun a => by
    have := (hit_own h (s := c.at'.toNat) (a := a) (by omega)).2 es
    rwa [es] at this
  have hd : ∀ a, hitP (numC m c) (frc a (ownP m c.at' * rgP (insAt m c))) ↔ 0 < regAt m c := fun a => by
    have := hit_dec h (s := c.at'.toNat) (a := a) (x := insAt m c) (by omega) ⟨a2.1.1, a2.1.2.1⟩
    rw [es] at this
    rw [this]
    exact ⟨fun e => e.2, fun e => ⟨rfl, e⟩⟩
  have fin : ∀ (A B : List Frc) (f : Frc), cmpR m = A ++ f :: B → (∀ g ∈ A, ¬ hitP (numC m c) g) → hitP (numC m c) f → 0 ≤ fstI (cmpR m) (numC m c) ∧ (cmpR m).getD (fstI (cmpR m) (numC m c)).toNat default = f := fun A B f e hA hf => by
    obtain ⟨e1, e2⟩ := fst_app (B := B) hA hf
    rw [e, e1, Int.toNat_natCast]
    exact ⟨Int.natCast_nonneg _, e2⟩
  have hi : insF m c.at'.toNat (m.code.getD c.at'.toNat default) = insF m c.at'.toNat (insAt m c) := rfl
  rw [hi] at hU
  unfold frcC
  by_cases k : (insAt m c).kind = 0
  · rw [if_pos k]
    refine fin _ U _ (by rw [hU, insF, if_pos k, es]; rfl) hm (ho _)
  · rw [if_neg k]
    by_cases g : 0 < regAt m c
    · rw [if_pos g]
      exact fin _ _ _ (by rw [hU, insF, if_neg k, es]; rfl) hm ((hd _).2 g)
    · rw [if_neg g]
      refine fin (cmp1 m c.at'.toNat ++ [frc (twnP m (insAt m c).next) (ownP m c.at' * rgP (insAt m c))]) U _ (by rw [hU, insF, if_neg k, es]; simp) (fun f hf => ?_) (ho _)
      rcases List.mem_append.1 hf with hf | hf
      · exact hm f hf
      · rw [List.mem_singleton] at hf
        rw [hf, hd]
        exact g
theorem fst_end {m : Mac} {c : Cfg} (h : okCfg m c) (hn : c.at' = (m.code.length : Int)) : fstI (cmpR m) (numC m c) = -1 := by
  refine fst_no fun g hg => ?_
  rw [show cmpR m = cmp2 m (m.code.length + 1) from if_pos h.1] at hg
  have : ∀ i, i ≤ m.code.length + 1 → ∀ g ∈ cmp2 m i, ¬ hitP (numC m c) g := by
    intro i
    induction i with
    | zero => intro _ g hg; exact cmp1_miss h m.code.length (Nat.le_refl _) (by omega) g hg
    | succ i ih =>
      intro hi g hg
      rw [cmp2] at hg
      rcases List.mem_append.1 hg with hg | hg
      · exact ih (by omega) g hg
      · rw [List.mem_singleton] at hg
        rw [hg]
        exact hit_twn h (by omega)
  exact this _ (Nat.le_refl _) g hg
end Go.Mth

set_option linter.unusedVariables false
set_option linter.unusedSimpArgs false
namespace Go.Mth
open Go Go.Ab
theorem prN_inc : ∀ (l : List Int) (i j : Nat), j < l.length → 0 ≤ l.getD j 0 → prN i (l.set j (l.getD j 0 + 1)) = prN i l * P30.getD (i + j) 0
  | [], _, j, h, _ => by simp at h
  | n :: r, i, 0, _, h => by
    have h' : 0 ≤ n := by simpa using h
    show P30.getD i 0 ^ (n + 1).toNat * prN (i + 1) r = P30.getD i 0 ^ n.toNat * prN (i + 1) r * P30.getD (i + 0) 0
    rw [show (n + 1).toNat = n.toNat + 1 by omega, Nat.pow_succ, Nat.add_zero, Nat.mul_assoc, Nat.mul_comm (P30.getD i 0), Nat.mul_assoc]
    rfl
  | n :: r, i, j + 1, hj, h => by
    have ih := prN_inc r (i + 1) j (by simpa using hj) (by simpa using h)
    show P30.getD i 0 ^ n.toNat * prN (i + 1) (r.set j (r.getD j 0 + 1)) = P30.getD i 0 ^ n.toNat * prN (i + 1) r * P30.getD (i + (j + 1)) 0
    rw [ih, show i + 1 + j = i + (j + 1) by omega, Nat.mul_assoc]
theorem prN_dec {l : List Int} {i j : Nat} (hj : j < l.length) (h : 0 < l.getD j 0) : prN i l = prN i (l.set j (l.getD j 0 - 1)) * P30.getD (i + j) 0 := by
  have e := prN_inc (l.set j (l.getD j 0 - 1)) i j (by simpa using hj) (by rw [getD_set hj]; omega)
  rw [getD_set hj, List.set_set, show l.getD j 0 - 1 + 1 = l.getD j 0 by omega] at e
  rw [← e]
  congr 1
  refine (List.ext_getElem (by simp) fun k h1 h2 => ?_)
  rw [List.getElem_set]
  split
  · rename_i hk; subst hk; rw [List.getD_eq_getElem?_getD, List.getElem?_eq_getElem hj]; rfl
  · rfl
def half (m : Mac) (c : Cfg) : Nat := prN 0 c.regs * twnP m c.at'
theorem step_half {m : Mac} {c : Cfg} (h : okCfg m c) (he : stpE m c = 0) : nxF (cmpR m) (numC m c) = ((half m (stpC m c) : Nat) : Int) := by
  have hn : ¬ c.at' = (m.code.length : Int) := fun e => by rw [stp_e e] at he; cases he
  obtain ⟨a1, a2, a3, a4, a5⟩ := okC_at h hn
  have q1 := h.2.1
  unfold plc at q1
  have ow : 0 < ownP m c.at' := by have := p30_ge (m.regs + 2 * c.at').toNat (by have := h.1.2.1; have := h.1.2.2.2.1; omega); unfold ownP; omega
  have rp : 0 < rgP (insAt m c) := by have := p30_ge (insAt m c).reg.toNat (by have := h.1.2.1; have := a2.1; omega); unfold rgP; omega
  obtain ⟨_, e2⟩ := fst_cfg h hn
  have key : ∀ (a b q : Nat), 0 < b → prN 0 c.regs * ownP m c.at' = b * q → numC m c / ((b : Nat) : Int) * ((a : Nat) : Int) = ((q * a : Nat) : Int) := fun a b q hb e => by
    rw [numC_N, e, Int.natCast_mul, Int.natCast_mul, Int.mul_ediv_cancel_left _ (by omega)]
  unfold nxF
  rw [e2]
  unfold frcC
  by_cases k : (insAt m c).kind = 0
  · rw [if_pos k]
    have hk : ¬ regAt m c = 1000 := fun e => by rw [stp_d hn k e] at he; cases he
    rw [(stp_a hn k hk).2]
    show numC m c / numS (txt _) * numS (txt _) = _
    rw [numS_txt, numS_txt, key _ _ (prN 0 c.regs) ow (Nat.mul_comm _ _)]
    congr 1
    show prN 0 c.regs * (twnP m (insAt m c).next * rgP (insAt m c)) = prN 0 (c.regs.set _ _) * twnP m (insAt m c).next
    rw [show c.regs.set (insAt m c).reg.toNat (regAt m c + 1) = c.regs.set (insAt m c).reg.toNat (c.regs.getD (insAt m c).reg.toNat 0 + 1) from rfl, prN_inc c.regs 0 _ a3 a4, Nat.zero_add, Nat.mul_comm (twnP m _), ← Nat.mul_assoc]
    rfl
  · rw [if_neg k]
    by_cases g : 0 < regAt m c
    · rw [if_pos g, (stp_b hn k g).2]
      show numC m c / numS (txt _) * numS (txt _) = _
      have e5 := prN_dec (i := 0) a3 g
      rw [Nat.zero_add] at e5
      rw [numS_txt, numS_txt, key _ _ (prN 0 (c.regs.set (insAt m c).reg.toNat (regAt m c - 1))) (Nat.mul_pos ow rp) (by rw [e5]; show _ * rgP (insAt m c) * ownP m c.at' = _; rw [Nat.mul_assoc, Nat.mul_comm (rgP (insAt m c)), Nat.mul_comm]; rfl)]
      rfl
    · rw [if_neg g, (stp_c hn k g).2]
      show numC m c / numS (txt _) * numS (txt _) = _
      rw [numS_txt, numS_txt, key _ _ (prN 0 c.regs) ow (Nat.mul_comm _ _)]
      rfl
end Go.Mth

set_option linter.unusedVariables false
set_option linter.unusedSimpArgs false
namespace Go.Mth
open Go Go.Ab
theorem half_dvd {m : Mac} {c : Cfg} (h : okCfg m c) {q : Nat} (hq : q < 30) : P30.getD q 0 ∣ half m c ↔ q = (m.regs + 2 * c.at' + 1).toNat ∨ (q < c.regs.length ∧ 0 < c.regs.getD q 0) := by
  obtain ⟨⟨o1, o2, o3, o4, o5⟩, q1, q2, q3⟩ := h
  unfold plc at q1
  unfold half
  constructor
  · intro d
    refine Decidable.byContradiction fun hn => ?_
    have hn1 : q ≠ (m.regs + 2 * c.at' + 1).toNat := fun e => hn (.inl e)
    have c1 : Nat.Coprime (P30.getD q 0) (prN 0 c.regs) := cop_gen hq c.regs 0 (by omega) fun j hj e => by
      have : ¬ 0 < c.regs.getD q 0 := fun g => hn (.inr ⟨by omega, g⟩)
      rw [show j = q by omega]
      omega
    have c2 : Nat.Coprime (P30.getD q 0) (twnP m c.at') := cop30 hq (by omega) hn1
    exact not_mod (p30_ge q hq) (Nat.Coprime.mul_right c1 c2) (Nat.mod_eq_zero_of_dvd d)
  · rintro (e | ⟨a, b⟩)
    · rw [e]
      exact Nat.dvd_mul_left _ _
    · exact Nat.dvd_trans (dvd_prN c.regs 0 q a (by omega) (by omega)) (Nat.dvd_mul_right _ _)
theorem hit_half {m : Mac} {c : Cfg} (a b : Nat) : hitP ((half m c : Nat) : Int) (frc a b) ↔ b ∣ half m c := by
  rw [hit_frc, ← Int.dvd_iff_emod_eq_zero, Int.natCast_dvd_natCast]
theorem half_own {m : Mac} {c : Cfg} (h : okCfg m c) {s a : Nat} (hs : s ≤ m.code.length) : ¬ hitP ((half m c : Nat) : Int) (frc a (ownP m ((s : Nat) : Int))) := by
  obtain ⟨⟨o1, o2, o3, o4, o5⟩, q1, q2, q3⟩ := id h
  unfold plc at q1
  rw [hit_half]
  have := half_dvd h (q := (m.regs + 2 * ((s : Nat) : Int)).toNat) (by omega)
  rw [show ownP m ((s : Nat) : Int) = P30.getD (m.regs + 2 * ((s : Nat) : Int)).toNat 0 from rfl, this]
  rintro (e | ⟨e, _⟩) <;> omega
theorem half_twn {m : Mac} {c : Cfg} (h : okCfg m c) {s a : Nat} (hs : s ≤ m.code.length) : hitP ((half m c : Nat) : Int) (frc a (twnP m ((s : Nat) : Int))) ↔ ((s : Nat) : Int) = c.at' := by
  obtain ⟨⟨o1, o2, o3, o4, o5⟩, q1, q2, q3⟩ := id h
  unfold plc at q1
  rw [hit_half]
  have := half_dvd h (q := (m.regs + 2 * ((s : Nat) : Int) + 1).toNat) (by omega)
  rw [show twnP m ((s : Nat) : Int) = P30.getD (m.regs + 2 * ((s : Nat) : Int) + 1).toNat 0 from rfl, this]
  constructor
  · rintro (e | ⟨e, _⟩) <;> omega
  · intro e; exact .inl (by omega)
theorem half_mul {m : Mac} {c : Cfg} (h : okCfg m c) {s a b : Nat} (hs : s ≤ m.code.length) : ¬ hitP ((half m c : Nat) : Int) (frc a (ownP m ((s : Nat) : Int) * b)) := fun e => by
  rw [hit_half] at e
  exact half_own h (a := a) hs ((hit_half _ _).2 (Nat.dvd_trans (Nat.dvd_mul_right _ _) e))
theorem half_cmp1 {m : Mac} {c : Cfg} (h : okCfg m c) : ∀ s : Nat, s ≤ m.code.length → ∀ g ∈ cmp1 m s, ¬ hitP ((half m c : Nat) : Int) g
  | 0, _, g, hg => by simp [cmp1] at hg
  | s + 1, h1, g, hg => by
    rw [cmp1] at hg
    rcases List.mem_append.1 hg with hg | hg
    · exact half_cmp1 h s (by omega) g hg
    · unfold insF at hg
      split at hg
      · rw [List.mem_singleton] at hg
        rw [hg]
        exact half_own h (by omega)
      · simp only [List.mem_cons, List.not_mem_nil, or_false] at hg
        rcases hg with rfl | rfl
        · exact half_mul h (by omega)
        · exact half_own h (by omega)
theorem half_cmp2 {m : Mac} {c : Cfg} (h : okCfg m c) : ∀ s : Nat, ((s : Nat) : Int) ≤ c.at' → ∀ g ∈ cmp2 m s, ¬ hitP ((half m c : Nat) : Int) g
  | 0, _, g, hg => half_cmp1 h _ (Nat.le_refl _) g hg
  | s + 1, h1, g, hg => by
    have q1 := h.2.1
    unfold plc at q1
    rw [cmp2] at hg
    rcases List.mem_append.1 hg with hg | hg
    · exact half_cmp2 h s (by omega) g hg
    · rw [List.mem_singleton] at hg
      rw [hg, half_twn h (by omega)]
      omega
theorem cmp2_more (m : Mac) : ∀ (d i : Nat), ∃ U, cmp2 m (i + d) = cmp2 m i ++ U
  | 0, i => ⟨[], by simp⟩
  | d + 1, i => by
    obtain ⟨U, hU⟩ := cmp2_more m d i
    exact ⟨U ++ [frc (ownP m ((i + d : Nat) : Int)) (twnP m ((i + d : Nat) : Int))], by rw [show i + (d + 1) = (i + d) + 1 by omega, cmp2, hU, List.append_assoc]⟩
theorem step_whole {m : Mac} {c : Cfg} (h : okCfg m c) : 0 ≤ fstI (cmpR m) ((half m c : Nat) : Int) ∧ nxF (cmpR m) ((half m c : Nat) : Int) = numC m c := by
  have q1 := h.2.1
  have o4 := h.1.2.2.2.1
  have o2 := h.1.2.1
  have o1 := h.1.1
  unfold plc at q1
  obtain ⟨U, hU⟩ := cmp2_more m (m.code.length - c.at'.toNat) (c.at'.toNat + 1)
  rw [show c.at'.toNat + 1 + (m.code.length - c.at'.toNat) = m.code.length + 1 by omega, show cmp2 m (c.at'.toNat + 1) = cmp2 m c.at'.toNat ++ [frc (ownP m ((c.at'.toNat : Nat) : Int)) (twnP m ((c.at'.toNat : Nat) : Int))] from rfl, List.append_assoc] at hU
  have es : ((c.at'.toNat : Nat) : Int) = c.at' := Int.toNat_of_nonneg q1.1
  obtain ⟨e1, e2⟩ := fst_app (B := U) (half_cmp2 h c.at'.toNat (by omega)) ((half_twn h (s := c.at'.toNat) (a := ownP m ((c.at'.toNat : Nat) : Int)) (by omega)).2 es)
  have eR : cmpR m = cmp2 m c.at'.toNat ++ frc (ownP m ((c.at'.toNat : Nat) : Int)) (twnP m ((c.at'.toNat : Nat) : Int)) :: U := (if_pos h.1).trans hU
  have tp : 0 < twnP m c.at' := by have := p30_ge (m.regs + 2 * c.at' + 1).toNat (by omega); unfold twnP; omega
  rw [← eR] at e1 e2
  refine ⟨by rw [e1]; exact Int.natCast_nonneg _, ?_⟩
  unfold nxF
  rw [e1, Int.toNat_natCast, e2, es]
  show ((half m c : Nat) : Int) / numS (txt _) * numS (txt _) = _
  rw [numS_txt, numS_txt, numC_N]
  unfold half
  rw [Int.natCast_mul, Int.natCast_mul, Int.mul_ediv_cancel _ (by omega)]
theorem half_none {m : Mac} {c : Cfg} (h : okCfg m c) : ¬ decB m (half m c) := by
  have hC := h
  obtain ⟨⟨o1, o2, o3, o4, o5⟩, q1, q2, q3⟩ := h
  unfold plc at q1
  have tw : 2 ≤ twnP m c.at' := p30_ge _ (by omega)
  have hq : dcL m.regs.toNat 0 (half m c) = (c.regs, twnP m c.at') := by
    rw [show m.regs.toNat = c.regs.length by omega]
    refine dcL_num (by omega) c.regs 0 (by omega) (fun n hn => (q3 n hn).1) fun j _ hj => ?_
    exact cop30 (by omega) (by omega) (by omega)
  refine decB_no hq fun u hu e _ => ?_
  have c1 := cop30 (i := (m.regs + 2 * c.at' + 1).toNat) (j := (m.regs + 2 * ((u : Nat) : Int)).toNat) (by omega) (by omega) (by omega)
  have g := p30_ge (m.regs + 2 * ((u : Nat) : Int)).toNat (by omega)
  unfold twnP ownP at e
  rw [e, Nat.Coprime, Nat.gcd_self] at c1
  omega
theorem half_pos {m : Mac} {c : Cfg} (h : okCfg m c) : 0 < half m c := by
  obtain ⟨⟨o1, o2, o3, o4, o5⟩, q1, q2, q3⟩ := h
  unfold plc at q1
  have tw : 2 ≤ twnP m c.at' := p30_ge _ (by omega)
  exact Nat.mul_pos (prN_pos c.regs 0 (by omega)) (by omega)
end Go.Mth

set_option linter.unusedVariables false
set_option linter.unusedSimpArgs false
namespace Go.Mth
open Go Go.Ab
def shf (m : Nat) (r : ByteArray × Nat × Nat) : ByteArray × Nat × Nat := if r.2.2 = 0 then (r.1, m + r.2.1, 0) else ({ data := #[] }, 0, 3)
theorem ply_e {l : List Frc} : ∀ (k : Nat) (z : Int) (c : Nat), (ply l k z c).2.2 = 0 ∨ ply l k z c = ({ data := #[] }, 0, 3)
  | 0, z, c => .inl rfl
  | k + 1, z, c => by
    unfold ply
    by_cases h : 0 ≤ fstI l z
    · rw [if_pos h]
      by_cases h2 : Fit (nxF l z)
      · rw [if_pos h2]; exact ply_e k _ _
      · rw [if_neg h2]; exact .inr rfl
    · rw [if_neg h]; exact .inl rfl
theorem ply_shf {l : List Frc} : ∀ (k : Nat) (z : Int) (c d : Nat), ply l k z (c + d) = shf c (ply l k z d)
  | 0, z, c, d => rfl
  | k + 1, z, c, d => by
    unfold ply
    by_cases h : 0 ≤ fstI l z
    · rw [if_pos h, if_pos h]
      by_cases h2 : Fit (nxF l z)
      · rw [if_pos h2, if_pos h2]; exact ply_shf k _ c (d + 1)
      · rw [if_neg h2, if_neg h2]; rfl
    · rw [if_neg h, if_neg h]; rfl
theorem ply_none {l : List Frc} {z : Int} (h : ¬ 0 ≤ fstI l z) : ∀ (k c : Nat), ply l k z c = (txt z, c, 0)
  | 0, _ => rfl
  | k + 1, c => if_neg h
theorem ply_succ (l : List Frc) (k : Nat) (z : Int) (c : Nat) : ply l (k + 1) z c = if 0 ≤ fstI l z then (if Fit (nxF l z) then ply l k (nxF l z) (c + 1) else ({ data := #[] }, 0, 3)) else (txt z, c, 0) := rfl
theorem ply_add {l : List Frc} (hl : lstP l) : ∀ (k : Nat) (z : Int) (c : Nat), 0 < z → Fit z → (ply l k z c).2.2 = 0 → ∃ y, 0 < y ∧ Fit y ∧ (ply l k z c).1 = txt y ∧ ∀ j, ply l (k + j) z c = shf (ply l k z c).2.1 (ply l j y 0)
  | 0, z, c, hz, hf, _ => ⟨z, hz, hf, rfl, fun j => by rw [Nat.zero_add]; exact ply_shf j z c 0⟩
  | k + 1, z, c, hz, hf, he => by
    rw [ply_succ] at he ⊢
    by_cases h : 0 ≤ fstI l z
    · rw [if_pos h] at he ⊢
      by_cases h2 : Fit (nxF l z)
      · rw [if_pos h2] at he ⊢
        obtain ⟨y, a, b, d, e⟩ := ply_add hl k (nxF l z) (c + 1) (nxF_pos hl h hz hf) h2 he
        refine ⟨y, a, b, d, fun j => ?_⟩
        rw [← e j, show k + 1 + j = (k + j) + 1 by omega]
        exact (if_pos h).trans (if_pos h2)
      · rw [if_neg h2] at he; cases he
    · rw [if_neg h] at he ⊢
      refine ⟨z, hz, hf, rfl, fun j => ?_⟩
      rw [ply_none h, ply_none h]
      rfl
theorem plyA_sz (l : List Frc) (n : ByteArray) (k : Int) : (plyA l n k).1.size ≤ 9223372036854775807 := by
  unfold plyA
  by_cases h : askE l n = 0
  · rw [if_pos h]
    by_cases h2 : 0 ≤ k ∧ k ≤ 20000
    · rw [if_pos h2]
      obtain ⟨a, b, c⟩ := askE_0.1 h
      rcases ply_e (l := l) k.toNat (numS n) 0 with e | e
      · obtain ⟨y, _, f, g, _⟩ := ply_add a k.toNat (numS n) 0 c (fit_numS (okS_iff.1 b)) e
        rw [g]; exact txt_sz2 f
      · rw [e]; decide
    · rw [if_neg h2]; exact (by decide : (0 : Nat) ≤ 9223372036854775807)
  · rw [if_neg h]; exact (by decide : (0 : Nat) ≤ 9223372036854775807)
section
variable {l : List Frc} {n : ByteArray} {k j : Int} (h : askE l n = 0) (hk : 0 ≤ k ∧ k ≤ 100) (hj : 0 ≤ j ∧ j ≤ 100)
include h hk hj
end
end Go.Mth

set_option linter.unusedVariables false
set_option linter.unusedSimpArgs false
namespace Go.Mth
open Go Go.Ab
theorem ask_cfg {m : Mac} {c : Cfg} (h : okCfg m c) (hF : Fit (numC m c)) : encS m c = txt (numC m c) ∧ encE m c = 0 ∧ askE (cmpR m) (encS m c) = 0 ∧ numS (encS m c) = numC m c := by
  have e : encS m c = txt (numC m c) := (if_pos h).trans (told_fit hF).1
  have e2 : encE m c = 0 := (if_pos h).trans (told_fit hF).2
  refine ⟨e, e2, ?_, by rw [e, numS_txt]⟩
  rw [e]
  exact askE_0.2 ⟨cmpR_lst m, okS_iff.2 (okS_txt hF), by rw [numS_txt]; exact numC_pos h⟩
theorem enc_fit {m : Mac} {c : Cfg} (h : okCfg m c) (he : ¬ encE m c ≠ 0) : Fit (numC m c) := by
  rw [show encE m c = toldE (numC m c) from if_pos h] at he
  exact tld_ok he
theorem enc_3 {m : Mac} {c : Cfg} (h : okCfg m c) (he : encE m c ≠ 0) : encE m c = 3 := by
  rw [show encE m c = toldE (numC m c) from if_pos h] at he ⊢
  exact tld_3 (tld_big he)
theorem cmpE_0 {m : Mac} {c : Cfg} (h : okCfg m c) : cmpE m = 0 := if_pos h.1
theorem sta_0 {m : Mac} {c : Cfg} (h : okCfg m c) : stA m c = resC m c ∧ stAE m c = stpE m c := ⟨if_pos h, if_pos h⟩
theorem stp_6 {m : Mac} {c : Cfg} (h : stpE m c = 6) : c.at' = (m.code.length : Int) := Decidable.byContradiction fun e => by
  unfold stpE at h
  rw [if_neg e] at h
  split at h <;> cases h
theorem fir_end {m : Mac} {c : Cfg} (h : okCfg m c) (hF : Fit (numC m c)) (hn : c.at' = (m.code.length : Int)) : firI (cmpR m) (encS m c) = 0 ∧ firE (cmpR m) (encS m c) = 4 ∧ stAE m c = 6 := by
  obtain ⟨a1, a2, a3, a4⟩ := ask_cfg h hF
  have := fst_end h hn
  refine ⟨if_neg fun e => by have := e.2; rw [a4] at this; omega, (if_pos a3).trans (if_neg (by rw [a4]; omega)), by rw [(sta_0 h).2]; exact stp_e hn⟩
theorem fir_go {m : Mac} {c : Cfg} (h : okCfg m c) (hF : Fit (numC m c)) (hn : ¬ c.at' = (m.code.length : Int)) : firE (cmpR m) (encS m c) = 0 ∧ 0 ≤ firI (cmpR m) (encS m c) ∧ firI (cmpR m) (encS m c) < ((cmpR m).length : Int) ∧ stAE m c ≠ 6 := by
  obtain ⟨a1, a2, a3, a4⟩ := ask_cfg h hF
  obtain ⟨b1, b2⟩ := fst_cfg h hn
  have b3 := (fstI_bd b1).1
  have e : firI (cmpR m) (encS m c) = fstI (cmpR m) (numC m c) := (if_pos ⟨a3, by rw [a4]; exact b1⟩).trans (by rw [a4])
  rw [e]
  refine ⟨(if_pos a3).trans (if_pos (by rw [a4]; exact b1)), b1, by omega, ?_⟩
  rw [(sta_0 h).2]
  exact fun e => hn (stp_6 e)
theorem tw_end {m : Mac} {c : Cfg} (h : okCfg m c) (hF : Fit (numC m c)) (hh : stAE m c = 6 ∨ c.at' = (m.code.length : Int)) : stAE m c = 6 ∧ c.at' = (m.code.length : Int) ∧ firI (cmpR m) (encS m c) = 0 ∧ firE (cmpR m) (encS m c) = 4 := by
  have hn : c.at' = (m.code.length : Int) := hh.elim (fun e => stp_6 (by rw [← (sta_0 h).2]; exact e)) id
  obtain ⟨a, b, d⟩ := fir_end h hF hn
  exact ⟨d, hn, a, b⟩
theorem sta_ok {m : Mac} {c : Cfg} (h : okCfg m c) (h3 : stAE m c ≠ 3) (h6 : stAE m c ≠ 6) : stAE m c = 0 ∧ stA m c = stpC m c ∧ okCfg m (stpC m c) ∧ stpE m c = 0 := by
  obtain ⟨a, b⟩ := sta_0 h
  rw [b] at h3 h6 ⊢
  have e := stpE_0 h3 h6
  exact ⟨e, by rw [a, resC_0 e], stp_ok h e, e⟩
theorem half_N {m : Mac} {c : Cfg} (h : okCfg m c) : (0 : Int) < ((half m c : Nat) : Int) := by have := half_pos h; omega
theorem ply_0 (l : List Frc) (z : Int) (c : Nat) : ply l 0 z c = (txt z, c, 0) := rfl
theorem tw_one {m : Mac} {c : Cfg} (h : okCfg m c) (hF : Fit (numC m c)) (he : stpE m c = 0) : plyA (cmpR m) (encS m c) 1 = if Fit ((half m (stpC m c) : Nat) : Int) then (txt ((half m (stpC m c) : Nat) : Int), 1, 0) else ({ data := #[] }, 0, 3) := by
  obtain ⟨a1, a2, a3, a4⟩ := ask_cfg h hF
  have hn : ¬ c.at' = (m.code.length : Int) := fun e => by rw [stp_e e] at he; cases he
  rw [plyA_0 a3 (by omega), a4, show (1 : Int).toNat = 0 + 1 from rfl, ply_succ, if_pos (fst_cfg h hn).1, step_half h he]
  rfl
theorem tw_two {m : Mac} {c : Cfg} (h : okCfg m c) (hF : Fit (numC m c)) (he : stpE m c = 0) (hH : Fit ((half m (stpC m c) : Nat) : Int)) (hG : Fit (numC m (stpC m c))) : plyA (cmpR m) (encS m c) 2 = (encS m (stpC m c), 2, 0) := by
  obtain ⟨a1, a2, a3, a4⟩ := ask_cfg h hF
  have hS := stp_ok h he
  have hn : ¬ c.at' = (m.code.length : Int) := fun e => by rw [stp_e e] at he; cases he
  obtain ⟨w1, w2⟩ := step_whole hS
  rw [plyA_0 a3 (by omega), a4, show (2 : Int).toNat = 0 + 1 + 1 from rfl, ply_succ, if_pos (fst_cfg h hn).1, step_half h he, if_pos hH, ply_succ, if_pos w1, w2, if_pos hG, ply_0, (ask_cfg hS hG).1]
theorem tw_dec {m : Mac} {c : Cfg} (h : okCfg m c) (hH : Fit ((half m c : Nat) : Int)) : decE m (txt ((half m c : Nat) : Int)) = 4 := by
  have d := dec_pos (m := m) (n := txt ((half m c : Nat) : Int)) h.1 (okS_iff.2 (okS_txt hH)) (by rw [numS_txt]; exact half_N h)
  rw [d.1, numS_txt, Int.toNat_natCast, if_neg (half_none h)]
theorem tw_a {m : Mac} {c : Cfg} (h : okCfg m c) (hF : Fit (numC m c)) (he : stpE m c = 0) (hp : (plyA (cmpR m) (encS m c) 1).2.2 ≠ 0 ∨ (plyA (cmpR m) (encS m c) 1).2.1 ≠ 1) : (plyA (cmpR m) (encS m c) 1).2.2 = 3 := by
  rw [tw_one h hF he] at hp ⊢
  split at hp
  · rcases hp with e | e <;> exact absurd rfl e
  · rename_i k; rw [if_neg k]
theorem tw_b {m : Mac} {c : Cfg} (h : okCfg m c) (hF : Fit (numC m c)) (he : stpE m c = 0) (hG : Fit (numC m (stpC m c))) (hp : (plyA (cmpR m) (encS m c) 1).2.2 = 0) : decE m (plyA (cmpR m) (encS m c) 1).1 = 4 ∧ plyA (cmpR m) (encS m c) 2 = (encS m (stpC m c), 2, 0) := by
  have hH : Fit ((half m (stpC m c) : Nat) : Int) := Decidable.byContradiction fun e => by
    rw [tw_one h hF he, if_neg e] at hp; cases hp
  exact ⟨by rw [tw_one h hF he, if_pos hH]; exact tw_dec (stp_ok h he) hH, tw_two h hF he hH hG⟩
end Go.Mth

set_option linter.unusedVariables false
set_option linter.unusedSimpArgs false
namespace Go.Proofs.YtpamhblonmpniaaDoor
open Go Go.Ab Go.Mth
theorem Za_tA24 : tyAgg cx.P 24 = some 2 := by kernel_rfl
theorem Za_tA27 : tyAgg cx.P 27 = some 2 := by kernel_rfl
theorem Za_tC5 : callable cx.P 5 = true := by kernel_rfl
theorem Za_tC6 : callable cx.P 6 = true := by kernel_rfl
theorem Za_tC7 : callable cx.P 7 = true := by kernel_rfl
theorem Za_tC8 : callable cx.P 8 = true := by kernel_rfl
theorem Za_tC11 : callable cx.P 11 = true := by kernel_rfl
theorem Za_tO27 : tyZero cx.P 27 = some [(Go.Value.int IntKind.i64 0), (Go.Value.slice none 0 0)] := by kernel_rfl
theorem Za_tZ27 : tySize cx.P 27 = some 2 := by kernel_rfl
theorem Za_tC12 : callable cx.P 12 = true := by kernel_rfl
theorem Za_tF27_0 : tyField cx.P 27 0 = some (0, 3) := by kernel_rfl
theorem Za_tS3 : tySc cx.P 3 = true := by kernel_rfl
theorem Za_tF24_1 : tyField cx.P 24 1 = some (1, 22) := by kernel_rfl
theorem Za_tS22 : tySc cx.P 22 = true := by kernel_rfl
theorem Za_tU22 : cx.P.underlying 22 = some (.slice 52) := by kernel_rfl
theorem Za_tU30 : cx.P.underlying 30 = some (.slice 50) := by kernel_rfl
theorem Za_tC10 : callable cx.P 10 = true := by kernel_rfl
theorem Za_tC13 : callable cx.P 13 = true := by kernel_rfl
theorem c_FractionTwice (m : Mac) (c : Cfg) (hb : m.code.length ≤ 4398046511104) (hc : c.regs.length ≤ 17592186044416) : ECalls cx 4 [(macV m), (cfgV c)] (.lit (.bool true)) := by
  refine ecalls_of_awp Tryd.func4 (c := _) rfl (Nat.le_of_ble_eq_true rfl) ?_
  show awp cx 178 _ (postF cx Tryd.f4 _) ⟨[(0, (macV m)), (1, (cfgV c))], []⟩
  have hS := cmpR_sz m
  have hes := encS_sz m c
  have sA := plyA_sz (cmpR m) (encS m c) 1
  refine awp_seq fun K0 hK0 => ?_
  refine awp_region rfl ?_
  refine o_box 2 [(AV.lit (.int .i64 (m.regs))), (AV.sl 4 (gcells cI (m.code)))] Gd.none rfl rfl ?_
  refine o_box 3 [(AV.lit (.int .i64 (c.at'))), (AV.sl 1 (is .i64 (c.regs)))] Gd.none rfl rfl ?_
  refine o_as (AV.lit (.bool false)) rfl ?_
  refine aops_end ?_
  refine hK0 _ ?_
  refine awp_seq fun K1 hK1 => ?_
  refine awp_seq fun K2 hK2 => ?_
  refine awp_region rfl ?_
  refine o_loadA [(AV.lit (.int .i64 (m.regs))), (AV.sl 4 (gcells cI (m.code)))] Gd.none Za_tA24 rfl rfl rfl rfl rfl ?_
  refine o_loadA [(AV.lit (.int .i64 (c.at'))), (AV.sl 1 (is .i64 (c.regs)))] Gd.none Za_tA27 rfl rfl rfl rfl rfl ?_
  refine o_ct (c_vFits m c) Gd.none Za_tC5 rfl ?_
  refine o_notP (q := okCfg m c) Gd.none rfl ?_
  refine aops_end ?_
  refine hK2 _ ?_
  refine awp_condQ (q := ¬ (okCfg m c)) rfl (fun h1 => ?_) (fun h1 => ?_)
  · refine awp_seq fun K3 hK3 => ?_
    refine awp_region rfl ?_
    refine o_ct c_awake10 Gd.none Za_tC6 rfl ?_
    refine o_as (AV.lit (.bool true)) rfl ?_
    refine aops_end ?_
    refine hK3 _ ?_
    refine awp_ret ?_
    refine post_ret ⟨[(AV.lit (.bool true))], And.intro (AV.le_refl _) (trivial), rfl, ?_⟩
    first | rfl | simp [bp]
  · have hC := Decidable.not_not.1 h1
    refine awp_skip ?_
    refine hK1 _ ?_
    refine awp_seq fun K4 hK4 => ?_
    refine awp_region rfl ?_
    refine o_loadA [(AV.lit (.int .i64 (m.regs))), (AV.sl 4 (gcells cI (m.code)))] Gd.none Za_tA24 rfl rfl rfl rfl rfl ?_
    refine o_ct (c_Compile m) Gd.none Za_tC7 rfl ?_
    refine o_mv (AV.tup [(AV.sl 2 (gcells cF (cmpR m))), (nm .i64 (cmpE m))]) rfl ?_
    refine o_extract (AV.sl 2 (gcells cF (cmpR m))) Gd.none rfl rfl ?_
    refine o_extract (nm .i64 (cmpE m)) Gd.none rfl rfl ?_
    refine o_as (AV.sl 2 (gcells cF (cmpR m))) rfl ?_
    refine o_as (nm .i64 (cmpE m)) rfl ?_
    refine aops_end ?_
    refine hK4 _ ?_
    refine awp_seq fun K5 hK5 => ?_
    refine awp_region rfl ?_
    refine o_loadA [(AV.lit (.int .i64 (m.regs))), (AV.sl 4 (gcells cI (m.code)))] Gd.none Za_tA24 rfl rfl rfl rfl rfl ?_
    refine o_loadA [(AV.lit (.int .i64 (c.at'))), (AV.sl 1 (is .i64 (c.regs)))] Gd.none Za_tA27 rfl rfl rfl rfl rfl ?_
    refine o_ct (c_Encode m c) Gd.none Za_tC8 rfl ?_
    refine o_mv (AV.tup [(AV.lit (.string (encS m c))), (nm .i64 (encE m c))]) rfl ?_
    refine o_extract (AV.lit (.string (encS m c))) Gd.none rfl rfl ?_
    refine o_extract (nm .i64 (encE m c)) Gd.none rfl rfl ?_
    refine o_as (AV.lit (.string (encS m c))) rfl ?_
    refine o_as (nm .i64 (encE m c)) rfl ?_
    refine aops_end ?_
    refine hK5 _ ?_
    refine awp_seq fun K6 hK6 => ?_
    refine awp_seq fun K7 hK7 => ?_
    refine awp_region rfl ?_
    refine o_mv (nm .i64 (cmpE m)) rfl ?_
    refine n_neq (cmpE m) (0) Gd.none rfl rfl ?_
    refine n_as (v' := (AV.lit (.bool false))) (by exact bpn (fun e => e (cmpE_0 hC))) ?_
    refine o_mv (AV.lit (.bool false)) rfl ?_
    refine o_move (nm .i64 (encE m c)) (Gd.yes rfl rfl rfl) rfl ?_
    refine n_neq (encE m c) (0) (Gd.yes rfl rfl rfl) rfl rfl ?_
    refine o_pickF (bp ((encE m c) ≠ (0))) Gd.none rfl rfl rfl ?_
    refine aops_end ?_
    refine hK7 _ ?_
    refine awp_condQ (q := (encE m c) ≠ (0)) rfl (fun h2 => ?_) (fun h2 => ?_)
    · refine awp_seq fun K8 hK8 => ?_
      refine awp_region rfl ?_
      refine o_mv (nm .i64 (cmpE m)) rfl ?_
      refine n_eql (cmpE m) (0) Gd.none rfl rfl ?_
      refine n_as (v' := (AV.lit (.bool true))) (by exact bpy (cmpE_0 hC)) ?_
      refine o_mv (AV.lit (.bool true)) rfl ?_
      refine o_move (nm .i64 (encE m c)) (Gd.yes rfl rfl rfl) rfl ?_
      refine n_eql (encE m c) (3) (Gd.yes rfl rfl rfl) rfl rfl ?_
      refine n_as (v' := (AV.lit (.bool true))) (by exact bpy (enc_3 hC (by assumption))) ?_
      refine o_pickT (AV.lit (.bool true)) Gd.none rfl rfl rfl ?_
      refine o_mv (AV.lit (.bool true)) rfl ?_
      refine o_ct c_awake10 (Gd.yes rfl rfl rfl) Za_tC6 rfl ?_
      refine o_pickT (AV.lit (.bool true)) Gd.none rfl rfl rfl ?_
      refine o_as (AV.lit (.bool true)) rfl ?_
      refine aops_end ?_
      refine hK8 _ ?_
      refine awp_ret ?_
      refine post_ret ⟨[(AV.lit (.bool true))], And.intro (AV.le_refl _) (trivial), rfl, ?_⟩
      first | rfl | simp [bp]
    · have hF := enc_fit hC h2
      refine awp_skip ?_
      refine hK6 _ ?_
      refine awp_seq fun K9 hK9 => ?_
      refine awp_region rfl ?_
      refine o_loadA [(AV.lit (.int .i64 (m.regs))), (AV.sl 4 (gcells cI (m.code)))] Gd.none Za_tA24 rfl rfl rfl rfl rfl ?_
      refine o_loadA [(AV.lit (.int .i64 (c.at'))), (AV.sl 1 (is .i64 (c.regs)))] Gd.none Za_tA27 rfl rfl rfl rfl rfl ?_
      refine o_ct (c_fStep m c) Gd.none Za_tC11 rfl ?_
      refine o_mv (AV.tup [(cfgV (stA m c)), (nm .i64 (stAE m c))]) rfl ?_
      refine o_extract (cfgV (stA m c)) Gd.none rfl rfl ?_
      refine o_extract (nm .i64 (stAE m c)) Gd.none rfl rfl ?_
      refine o_alloc 4 [(nm .i64 (0)), (AV.lit (.slice none 0 0))] Gd.none Za_tO27 rfl rfl rfl ?_
      refine o_store [(4, (AO.var 27 [(AV.lit (.int .i64 ((stA m c).at'))), (AV.sl 1 (is .i64 ((stA m c).regs)))])), (3, (AO.var 27 [(AV.lit (.int .i64 (c.at'))), (AV.sl 1 (is .i64 (c.regs)))])), (2, (AO.var 24 [(AV.lit (.int .i64 (m.regs))), (AV.sl 4 (gcells cI (m.code)))]))] Gd.none Za_tZ27 rfl rfl rfl rfl rfl rfl ?_
      refine o_as (nm .i64 (stAE m c)) rfl ?_
      refine aops_end ?_
      refine hK9 _ ?_
      refine awp_seq fun K10 hK10 => ?_
      refine awp_region rfl ?_
      refine o_mv (AV.sl 2 (gcells cF (cmpR m))) rfl ?_
      refine o_mv (AV.lit (.string (encS m c))) rfl ?_
      refine o_ct (c_First (cmpR m) (encS m c) (by assumption) (by first | assumption | decide | omega)) Gd.none Za_tC12 rfl ?_
      refine o_mv (AV.tup [(AV.lit (.int .i64 (firI (cmpR m) (encS m c)))), (nm .i64 (firE (cmpR m) (encS m c)))]) rfl ?_
      refine o_extract (AV.lit (.int .i64 (firI (cmpR m) (encS m c)))) Gd.none rfl rfl ?_
      refine o_extract (nm .i64 (firE (cmpR m) (encS m c))) Gd.none rfl rfl ?_
      refine o_as (AV.lit (.int .i64 (firI (cmpR m) (encS m c)))) rfl ?_
      refine o_as (nm .i64 (firE (cmpR m) (encS m c))) rfl ?_
      refine aops_end ?_
      refine hK10 _ ?_
      refine awp_seq fun K11 hK11 => ?_
      refine awp_seq fun K12 hK12 => ?_
      refine awp_region rfl ?_
      refine o_mv (nm .i64 (stAE m c)) rfl ?_
      refine n_eql (stAE m c) (6) Gd.none rfl rfl ?_
      refine o_mv (bp ((stAE m c) = (6))) rfl ?_
      refine o_splitP (q := (stAE m c) = (6)) 66 rfl (fun h3 => ?_) (fun h3 => ?_)
      · refine o_skip rfl rfl (decide_eq_true h3) ?_
        refine o_skip rfl rfl (decide_eq_true h3) ?_
        refine o_skip rfl rfl (decide_eq_true h3) ?_
        refine o_skip rfl rfl (decide_eq_true h3) ?_
        refine o_skip rfl rfl (decide_eq_true h3) ?_
        refine o_skip rfl rfl (decide_eq_true h3) ?_
        refine o_pickT (AV.lit (.bool true)) Gd.none rfl (decide_eq_true h3) rfl ?_
        refine aops_end ?_
        refine hK12 _ ?_
        refine awp_condB (b := true) rfl (fun _ => ?_) (fun hh => absurd (hh.symm.trans rfl) (by decide))
        refine awp_seq fun K13 hK13 => ?_
        have ht := tw_end hC hF (by first | exact .inl (by assumption) | exact .inr (by assumption))
        refine awp_region rfl ?_
        refine o_mv (nm .i64 (stAE m c)) rfl ?_
        refine n_eql (stAE m c) (6) Gd.none rfl rfl ?_
        refine n_as (v' := (AV.lit (.bool true))) (by exact bpy ht.1) ?_
        refine o_mv (AV.lit (.bool true)) rfl ?_
        refine o_fieldRef 0 (Gd.yes rfl rfl rfl) Za_tF27_0 rfl rfl ?_
        refine o_loadS (AV.lit (.int .i64 (c.at'))) (Gd.yes rfl rfl rfl) Za_tS3 rfl rfl rfl ?_
        refine o_fieldRef 1 (Gd.yes rfl rfl rfl) Za_tF24_1 rfl rfl ?_
        refine o_loadS (AV.sl 4 (gcells cI (m.code))) (Gd.yes rfl rfl rfl) Za_tS22 rfl rfl rfl ?_
        refine g_len cI (m.code) cI_len (Gd.yes rfl rfl rfl) Za_tU22 rfl ?_
        refine o_eql (a := (c.at')) (c := ((((m.code).length : Nat) : Int))) (Gd.yes rfl rfl rfl) rfl rfl ?_
        refine n_as (v' := (AV.lit (.bool true))) (by exact bpy ht.2.1) ?_
        refine o_pickT (AV.lit (.bool true)) Gd.none rfl rfl rfl ?_
        refine o_mv (AV.lit (.bool true)) rfl ?_
        refine o_move (AV.lit (.int .i64 (firI (cmpR m) (encS m c)))) (Gd.yes rfl rfl rfl) rfl ?_
        refine o_eql (a := (firI (cmpR m) (encS m c))) (c := (((0 : Nat) : Int))) (Gd.yes rfl rfl rfl) rfl rfl ?_
        refine n_as (v' := (AV.lit (.bool true))) (by exact bpy ht.2.2.1) ?_
        refine o_pickT (AV.lit (.bool true)) Gd.none rfl rfl rfl ?_
        refine o_mv (AV.lit (.bool true)) rfl ?_
        refine o_move (nm .i64 (firE (cmpR m) (encS m c))) (Gd.yes rfl rfl rfl) rfl ?_
        refine n_eql (firE (cmpR m) (encS m c)) (4) (Gd.yes rfl rfl rfl) rfl rfl ?_
        refine n_as (v' := (AV.lit (.bool true))) (by exact bpy ht.2.2.2) ?_
        refine o_pickT (AV.lit (.bool true)) Gd.none rfl rfl rfl ?_
        refine o_mv (AV.lit (.bool true)) rfl ?_
        refine o_ct c_awake10 (Gd.yes rfl rfl rfl) Za_tC6 rfl ?_
        refine o_pickT (AV.lit (.bool true)) Gd.none rfl rfl rfl ?_
        refine o_as (AV.lit (.bool true)) rfl ?_
        refine aops_end ?_
        refine hK13 _ ?_
        refine awp_ret ?_
        refine post_ret ⟨[(AV.lit (.bool true))], And.intro (AV.le_refl _) (trivial), rfl, ?_⟩
        first | rfl | simp [bp]
      · refine o_fieldRef 0 (Gd.yes rfl rfl (decide_eq_false h3)) Za_tF27_0 rfl rfl ?_
        refine o_loadS (AV.lit (.int .i64 (c.at'))) (Gd.yes rfl rfl (decide_eq_false h3)) Za_tS3 rfl rfl rfl ?_
        refine o_fieldRef 1 (Gd.yes rfl rfl (decide_eq_false h3)) Za_tF24_1 rfl rfl ?_
        refine o_loadS (AV.sl 4 (gcells cI (m.code))) (Gd.yes rfl rfl (decide_eq_false h3)) Za_tS22 rfl rfl rfl ?_
        refine g_len cI (m.code) cI_len (Gd.yes rfl rfl (decide_eq_false h3)) Za_tU22 rfl ?_
        refine o_eql (a := (c.at')) (c := ((((m.code).length : Nat) : Int))) (Gd.yes rfl rfl (decide_eq_false h3)) rfl rfl ?_
        refine o_pickF (bp ((c.at') = ((((m.code).length : Nat) : Int)))) Gd.none rfl (decide_eq_false h3) rfl ?_
        refine aops_end ?_
        refine hK12 _ ?_
        refine awp_condQ (q := (c.at') = ((((m.code).length : Nat) : Int))) rfl (fun h4 => ?_) (fun h4 => ?_)
        · refine awp_seq fun K14 hK14 => ?_
          have ht := tw_end hC hF (by first | exact .inl (by assumption) | exact .inr (by assumption))
          refine awp_region rfl ?_
          refine o_mv (nm .i64 (stAE m c)) rfl ?_
          refine n_eql (stAE m c) (6) Gd.none rfl rfl ?_
          refine n_as (v' := (AV.lit (.bool true))) (by exact bpy ht.1) ?_
          refine o_mv (AV.lit (.bool true)) rfl ?_
          refine o_fieldRef 0 (Gd.yes rfl rfl rfl) Za_tF27_0 rfl rfl ?_
          refine o_loadS (AV.lit (.int .i64 (c.at'))) (Gd.yes rfl rfl rfl) Za_tS3 rfl rfl rfl ?_
          refine o_fieldRef 1 (Gd.yes rfl rfl rfl) Za_tF24_1 rfl rfl ?_
          refine o_loadS (AV.sl 4 (gcells cI (m.code))) (Gd.yes rfl rfl rfl) Za_tS22 rfl rfl rfl ?_
          refine g_len cI (m.code) cI_len (Gd.yes rfl rfl rfl) Za_tU22 rfl ?_
          refine o_eql (a := (c.at')) (c := ((((m.code).length : Nat) : Int))) (Gd.yes rfl rfl rfl) rfl rfl ?_
          refine n_as (v' := (AV.lit (.bool true))) (by exact bpy ht.2.1) ?_
          refine o_pickT (AV.lit (.bool true)) Gd.none rfl rfl rfl ?_
          refine o_mv (AV.lit (.bool true)) rfl ?_
          refine o_move (AV.lit (.int .i64 (firI (cmpR m) (encS m c)))) (Gd.yes rfl rfl rfl) rfl ?_
          refine o_eql (a := (firI (cmpR m) (encS m c))) (c := (((0 : Nat) : Int))) (Gd.yes rfl rfl rfl) rfl rfl ?_
          refine n_as (v' := (AV.lit (.bool true))) (by exact bpy ht.2.2.1) ?_
          refine o_pickT (AV.lit (.bool true)) Gd.none rfl rfl rfl ?_
          refine o_mv (AV.lit (.bool true)) rfl ?_
          refine o_move (nm .i64 (firE (cmpR m) (encS m c))) (Gd.yes rfl rfl rfl) rfl ?_
          refine n_eql (firE (cmpR m) (encS m c)) (4) (Gd.yes rfl rfl rfl) rfl rfl ?_
          refine n_as (v' := (AV.lit (.bool true))) (by exact bpy ht.2.2.2) ?_
          refine o_pickT (AV.lit (.bool true)) Gd.none rfl rfl rfl ?_
          refine o_mv (AV.lit (.bool true)) rfl ?_
          refine o_ct c_awake10 (Gd.yes rfl rfl rfl) Za_tC6 rfl ?_
          refine o_pickT (AV.lit (.bool true)) Gd.none rfl rfl rfl ?_
          refine o_as (AV.lit (.bool true)) rfl ?_
          refine aops_end ?_
          refine hK14 _ ?_
          refine awp_ret ?_
          refine post_ret ⟨[(AV.lit (.bool true))], And.intro (AV.le_refl _) (trivial), rfl, ?_⟩
          first | rfl | simp [bp]
        · refine awp_skip ?_
          refine hK11 _ ?_
          refine awp_seq fun K15 hK15 => ?_
          refine awp_seq fun K16 hK16 => ?_
          have hg := fir_go hC hF (by assumption)
          refine awp_region rfl ?_
          refine o_mv (nm .i64 (firE (cmpR m) (encS m c))) rfl ?_
          refine n_neq (firE (cmpR m) (encS m c)) (0) Gd.none rfl rfl ?_
          refine n_as (v' := (AV.lit (.bool false))) (by exact bpn (fun e => e hg.1)) ?_
          refine o_mv (AV.lit (.bool false)) rfl ?_
          refine o_move (AV.lit (.int .i64 (firI (cmpR m) (encS m c)))) (Gd.yes rfl rfl rfl) rfl ?_
          refine o_lss (a := (firI (cmpR m) (encS m c))) (c := (((0 : Nat) : Int))) (Gd.yes rfl rfl rfl) rfl rfl ?_
          refine n_as (v' := (AV.lit (.bool false))) (by exact bpn (by have := hg.2.1; omega)) ?_
          refine o_pickF (AV.lit (.bool false)) Gd.none rfl rfl rfl ?_
          refine o_mv (AV.lit (.bool false)) rfl ?_
          refine o_move (AV.lit (.int .i64 (firI (cmpR m) (encS m c)))) (Gd.yes rfl rfl rfl) rfl ?_
          refine o_move (AV.sl 2 (gcells cF (cmpR m))) (Gd.yes rfl rfl rfl) rfl ?_
          refine g_len cF (cmpR m) cF_len (Gd.yes rfl rfl rfl) Za_tU30 rfl ?_
          refine o_geq (a := (firI (cmpR m) (encS m c))) (c := ((((cmpR m).length : Nat) : Int))) (Gd.yes rfl rfl rfl) rfl rfl ?_
          refine n_as (v' := (AV.lit (.bool false))) (by exact bpn (by have := hg.2.2.1; omega)) ?_
          refine o_pickF (AV.lit (.bool false)) Gd.none rfl rfl rfl ?_
          refine aops_end ?_
          refine hK16 _ ?_
          refine awp_condB (b := false) rfl (fun hh => absurd (hh.symm.trans rfl) (by decide)) (fun _ => ?_)
          refine awp_skip ?_
          refine hK15 _ ?_
          refine awp_seq fun K17 hK17 => ?_
          refine awp_seq fun K18 hK18 => ?_
          refine awp_region rfl ?_
          refine o_mv (nm .i64 (stAE m c)) rfl ?_
          refine n_eql (stAE m c) (3) Gd.none rfl rfl ?_
          refine aops_end ?_
          refine hK18 _ ?_
          refine awp_condQ (q := (stAE m c) = (3)) rfl (fun h5 => ?_) (fun h5 => ?_)
          · refine awp_seq fun K19 hK19 => ?_
            refine awp_region rfl ?_
            refine o_ct c_awake10 Gd.none Za_tC6 rfl ?_
            refine o_as (AV.lit (.bool true)) rfl ?_
            refine aops_end ?_
            refine hK19 _ ?_
            refine awp_ret ?_
            refine post_ret ⟨[(AV.lit (.bool true))], And.intro (AV.le_refl _) (trivial), rfl, ?_⟩
            first | rfl | simp [bp]
          · refine awp_skip ?_
            refine hK17 _ ?_
            refine awp_seq fun K20 hK20 => ?_
            have hs := sta_ok hC h5 hg.2.2.2
            refine awp_region rfl ?_
            refine o_loadA [(AV.lit (.int .i64 (m.regs))), (AV.sl 4 (gcells cI (m.code)))] Gd.none Za_tA24 rfl rfl rfl rfl rfl ?_
            refine o_loadA [(AV.lit (.int .i64 ((stA m c).at'))), (AV.sl 1 (is .i64 ((stA m c).regs)))] Gd.none Za_tA27 rfl rfl rfl rfl rfl ?_
            refine n_as (v' := (cfgV (stpC m c))) (by exact congrArg cfgV hs.2.1) ?_
            refine o_ct (c_Encode m (stpC m c)) Gd.none Za_tC8 rfl ?_
            refine o_mv (AV.tup [(AV.lit (.string (encS m (stpC m c)))), (nm .i64 (encE m (stpC m c)))]) rfl ?_
            refine o_extract (AV.lit (.string (encS m (stpC m c)))) Gd.none rfl rfl ?_
            refine o_extract (nm .i64 (encE m (stpC m c))) Gd.none rfl rfl ?_
            refine o_as (AV.lit (.string (encS m (stpC m c)))) rfl ?_
            refine o_as (nm .i64 (encE m (stpC m c))) rfl ?_
            refine aops_end ?_
            refine hK20 _ ?_
            refine awp_seq fun K21 hK21 => ?_
            refine awp_seq fun K22 hK22 => ?_
            refine awp_region rfl ?_
            refine o_mv (nm .i64 (stAE m c)) rfl ?_
            refine n_neq (stAE m c) (0) Gd.none rfl rfl ?_
            refine n_as (v' := (AV.lit (.bool false))) (by exact bpn (fun e => e hs.1)) ?_
            refine o_mv (AV.lit (.bool false)) rfl ?_
            refine o_move (nm .i64 (encE m (stpC m c))) (Gd.yes rfl rfl rfl) rfl ?_
            refine n_neq (encE m (stpC m c)) (0) (Gd.yes rfl rfl rfl) rfl rfl ?_
            refine o_pickF (bp ((encE m (stpC m c)) ≠ (0))) Gd.none rfl rfl rfl ?_
            refine aops_end ?_
            refine hK22 _ ?_
            refine awp_condQ (q := (encE m (stpC m c)) ≠ (0)) rfl (fun h6 => ?_) (fun h6 => ?_)
            · refine awp_seq fun K23 hK23 => ?_
              refine awp_region rfl ?_
              refine o_mv (nm .i64 (stAE m c)) rfl ?_
              refine n_eql (stAE m c) (0) Gd.none rfl rfl ?_
              refine n_as (v' := (AV.lit (.bool true))) (by exact bpy hs.1) ?_
              refine o_mv (AV.lit (.bool true)) rfl ?_
              refine o_move (nm .i64 (encE m (stpC m c))) (Gd.yes rfl rfl rfl) rfl ?_
              refine n_eql (encE m (stpC m c)) (3) (Gd.yes rfl rfl rfl) rfl rfl ?_
              refine n_as (v' := (AV.lit (.bool true))) (by exact bpy (enc_3 hs.2.2.1 (by assumption))) ?_
              refine o_pickT (AV.lit (.bool true)) Gd.none rfl rfl rfl ?_
              refine o_mv (AV.lit (.bool true)) rfl ?_
              refine o_ct c_awake10 (Gd.yes rfl rfl rfl) Za_tC6 rfl ?_
              refine o_pickT (AV.lit (.bool true)) Gd.none rfl rfl rfl ?_
              refine o_as (AV.lit (.bool true)) rfl ?_
              refine aops_end ?_
              refine hK23 _ ?_
              refine awp_ret ?_
              refine post_ret ⟨[(AV.lit (.bool true))], And.intro (AV.le_refl _) (trivial), rfl, ?_⟩
              first | rfl | simp [bp]
            · have hG := enc_fit hs.2.2.1 h6
              refine awp_skip ?_
              refine hK21 _ ?_
              refine awp_seq fun K24 hK24 => ?_
              refine awp_region rfl ?_
              refine o_mv (AV.sl 2 (gcells cF (cmpR m))) rfl ?_
              refine o_mv (AV.lit (.string (encS m c))) rfl ?_
              refine o_ct (c_Play (cmpR m) (encS m c) ((1 : Int)) (by first | assumption | exact ex_sz) (by first | assumption | decide | omega)) Gd.none Za_tC10 rfl ?_
              refine o_mv (AV.tup [(AV.lit (.string ((plyA (cmpR m) (encS m c) ((1 : Int))).1))), (nm .i64 ((plyA (cmpR m) (encS m c) ((1 : Int))).2.1)), (nm .i64 ((plyA (cmpR m) (encS m c) ((1 : Int))).2.2))]) rfl ?_
              refine o_extract (AV.lit (.string ((plyA (cmpR m) (encS m c) ((1 : Int))).1))) Gd.none rfl rfl ?_
              refine o_extract (nm .i64 ((plyA (cmpR m) (encS m c) ((1 : Int))).2.1)) Gd.none rfl rfl ?_
              refine o_extract (nm .i64 ((plyA (cmpR m) (encS m c) ((1 : Int))).2.2)) Gd.none rfl rfl ?_
              refine o_as (AV.lit (.string ((plyA (cmpR m) (encS m c) ((1 : Int))).1))) rfl ?_
              refine o_as (nm .i64 ((plyA (cmpR m) (encS m c) ((1 : Int))).2.1)) rfl ?_
              refine o_as (nm .i64 ((plyA (cmpR m) (encS m c) ((1 : Int))).2.2)) rfl ?_
              refine aops_end ?_
              refine hK24 _ ?_
              refine awp_seq fun K25 hK25 => ?_
              refine awp_seq fun K26 hK26 => ?_
              refine awp_region rfl ?_
              refine o_mv (nm .i64 ((plyA (cmpR m) (encS m c) ((1 : Int))).2.2)) rfl ?_
              refine n_neq ((plyA (cmpR m) (encS m c) ((1 : Int))).2.2) (0) Gd.none rfl rfl ?_
              refine o_mv (bp (((plyA (cmpR m) (encS m c) ((1 : Int))).2.2) ≠ (0))) rfl ?_
              refine o_splitP (q := ((plyA (cmpR m) (encS m c) ((1 : Int))).2.2) ≠ (0)) 140 rfl (fun h7 => ?_) (fun h7 => ?_)
              · refine o_skip rfl rfl (decide_eq_true h7) ?_
                refine o_skip rfl rfl (decide_eq_true h7) ?_
                refine o_pickT (AV.lit (.bool true)) Gd.none rfl (decide_eq_true h7) rfl ?_
                refine aops_end ?_
                refine hK26 _ ?_
                refine awp_condB (b := true) rfl (fun _ => ?_) (fun hh => absurd (hh.symm.trans rfl) (by decide))
                refine awp_seq fun K27 hK27 => ?_
                have ha := tw_a hC hF hs.2.2.2 (by first | exact .inl (by assumption) | exact .inr (by assumption))
                refine awp_region rfl ?_
                refine o_mv (nm .i64 ((plyA (cmpR m) (encS m c) ((1 : Int))).2.2)) rfl ?_
                refine n_eql ((plyA (cmpR m) (encS m c) ((1 : Int))).2.2) (3) Gd.none rfl rfl ?_
                refine n_as (v' := (AV.lit (.bool true))) (by exact bpy ha) ?_
                refine o_mv (AV.lit (.bool true)) rfl ?_
                refine o_ct c_awake10 (Gd.yes rfl rfl rfl) Za_tC6 rfl ?_
                refine o_pickT (AV.lit (.bool true)) Gd.none rfl rfl rfl ?_
                refine o_as (AV.lit (.bool true)) rfl ?_
                refine aops_end ?_
                refine hK27 _ ?_
                refine awp_ret ?_
                refine post_ret ⟨[(AV.lit (.bool true))], And.intro (AV.le_refl _) (trivial), rfl, ?_⟩
                first | rfl | simp [bp]
              · refine o_move (nm .i64 ((plyA (cmpR m) (encS m c) ((1 : Int))).2.1)) (Gd.yes rfl rfl (decide_eq_false h7)) rfl ?_
                refine n_neq ((plyA (cmpR m) (encS m c) ((1 : Int))).2.1) (1) (Gd.yes rfl rfl (decide_eq_false h7)) rfl rfl ?_
                refine o_pickF (bp (((plyA (cmpR m) (encS m c) ((1 : Int))).2.1) ≠ (1))) Gd.none rfl (decide_eq_false h7) rfl ?_
                refine aops_end ?_
                refine hK26 _ ?_
                refine awp_condQ (q := ((plyA (cmpR m) (encS m c) ((1 : Int))).2.1) ≠ (1)) rfl (fun h8 => ?_) (fun h8 => ?_)
                · refine awp_seq fun K28 hK28 => ?_
                  have ha := tw_a hC hF hs.2.2.2 (by first | exact .inl (by assumption) | exact .inr (by assumption))
                  refine awp_region rfl ?_
                  refine o_mv (nm .i64 ((plyA (cmpR m) (encS m c) ((1 : Int))).2.2)) rfl ?_
                  refine n_eql ((plyA (cmpR m) (encS m c) ((1 : Int))).2.2) (3) Gd.none rfl rfl ?_
                  refine n_as (v' := (AV.lit (.bool true))) (by exact bpy ha) ?_
                  refine o_mv (AV.lit (.bool true)) rfl ?_
                  refine o_ct c_awake10 (Gd.yes rfl rfl rfl) Za_tC6 rfl ?_
                  refine o_pickT (AV.lit (.bool true)) Gd.none rfl rfl rfl ?_
                  refine o_as (AV.lit (.bool true)) rfl ?_
                  refine aops_end ?_
                  refine hK28 _ ?_
                  refine awp_ret ?_
                  refine post_ret ⟨[(AV.lit (.bool true))], And.intro (AV.le_refl _) (trivial), rfl, ?_⟩
                  first | rfl | simp [bp]
                · refine awp_skip ?_
                  refine hK25 _ ?_
                  refine awp_seq fun K29 hK29 => ?_
                  refine awp_seq fun K30 hK30 => ?_
                  have hd := tw_b hC hF hs.2.2.2 hG (Decidable.not_not.1 h7)
                  refine awp_region rfl ?_
                  refine o_loadA [(AV.lit (.int .i64 (m.regs))), (AV.sl 4 (gcells cI (m.code)))] Gd.none Za_tA24 rfl rfl rfl rfl rfl ?_
                  refine o_mv (AV.lit (.string ((plyA (cmpR m) (encS m c) ((1 : Int))).1))) rfl ?_
                  refine o_ct (c_Decode m ((plyA (cmpR m) (encS m c) ((1 : Int))).1) (by first | assumption | decide | omega)) Gd.none Za_tC13 rfl ?_
                  refine o_mv (AV.tup [(cfgV (decV m ((plyA (cmpR m) (encS m c) ((1 : Int))).1))), (nm .i64 (decE m ((plyA (cmpR m) (encS m c) ((1 : Int))).1)))]) rfl ?_
                  refine o_extract (cfgV (decV m ((plyA (cmpR m) (encS m c) ((1 : Int))).1))) Gd.none rfl rfl ?_
                  refine o_extract (nm .i64 (decE m ((plyA (cmpR m) (encS m c) ((1 : Int))).1))) Gd.none rfl rfl ?_
                  refine o_alloc 5 [(nm .i64 (0)), (AV.lit (.slice none 0 0))] Gd.none Za_tO27 rfl rfl rfl ?_
                  refine o_store [(5, (AO.var 27 [(AV.lit (.int .i64 ((decV m ((plyA (cmpR m) (encS m c) ((1 : Int))).1)).at'))), (AV.sl 1 (is .i64 ((decV m ((plyA (cmpR m) (encS m c) ((1 : Int))).1)).regs)))])), (4, (AO.var 27 [(AV.lit (.int .i64 ((stA m c).at'))), (AV.sl 1 (is .i64 ((stA m c).regs)))])), (3, (AO.var 27 [(AV.lit (.int .i64 (c.at'))), (AV.sl 1 (is .i64 (c.regs)))])), (2, (AO.var 24 [(AV.lit (.int .i64 (m.regs))), (AV.sl 4 (gcells cI (m.code)))]))] Gd.none Za_tZ27 rfl rfl rfl rfl rfl rfl ?_
                  refine o_as (nm .i64 (decE m ((plyA (cmpR m) (encS m c) ((1 : Int))).1))) rfl ?_
                  refine aops_end ?_
                  refine hK30 _ ?_
                  refine awp_seq fun K31 hK31 => ?_
                  refine awp_region rfl ?_
                  refine o_mv (nm .i64 (decE m ((plyA (cmpR m) (encS m c) ((1 : Int))).1))) rfl ?_
                  refine n_neq (decE m ((plyA (cmpR m) (encS m c) ((1 : Int))).1)) (4) Gd.none rfl rfl ?_
                  refine n_as (v' := (AV.lit (.bool false))) (by exact bpn (fun e => e hd.1)) ?_
                  refine aops_end ?_
                  refine hK31 _ ?_
                  refine awp_condB (b := false) rfl (fun hh => absurd (hh.symm.trans rfl) (by decide)) (fun _ => ?_)
                  refine awp_skip ?_
                  refine hK29 _ ?_
                  refine awp_seq fun K32 hK32 => ?_
                  refine awp_region rfl ?_
                  refine o_mv (AV.sl 2 (gcells cF (cmpR m))) rfl ?_
                  refine o_mv (AV.lit (.string (encS m c))) rfl ?_
                  refine o_ct (c_Play (cmpR m) (encS m c) ((2 : Int)) (by first | assumption | exact ex_sz) (by first | assumption | decide | omega)) Gd.none Za_tC10 rfl ?_
                  refine o_mv (AV.tup [(AV.lit (.string ((plyA (cmpR m) (encS m c) ((2 : Int))).1))), (nm .i64 ((plyA (cmpR m) (encS m c) ((2 : Int))).2.1)), (nm .i64 ((plyA (cmpR m) (encS m c) ((2 : Int))).2.2))]) rfl ?_
                  refine o_extract (AV.lit (.string ((plyA (cmpR m) (encS m c) ((2 : Int))).1))) Gd.none rfl rfl ?_
                  refine n_as (v' := (AV.lit (.string (encS m (stpC m c))))) (by exact str_as2 (congrArg (fun q => q.1) hd.2)) ?_
                  refine o_extract (nm .i64 ((plyA (cmpR m) (encS m c) ((2 : Int))).2.1)) Gd.none rfl rfl ?_
                  refine n_as (v' := (nm .i64 (2))) (by exact congrArg (nm _) (congrArg (fun q => q.2.1) hd.2)) ?_
                  refine o_extract (nm .i64 ((plyA (cmpR m) (encS m c) ((2 : Int))).2.2)) Gd.none rfl rfl ?_
                  refine n_as (v' := (nm .i64 (0))) (by exact congrArg (nm _) (congrArg (fun q => q.2.2) hd.2)) ?_
                  refine o_as (AV.lit (.string (encS m (stpC m c)))) rfl ?_
                  refine o_as (nm .i64 (2)) rfl ?_
                  refine o_as (nm .i64 (0)) rfl ?_
                  refine aops_end ?_
                  refine hK32 _ ?_
                  refine awp_seq fun K33 hK33 => ?_
                  refine awp_region rfl ?_
                  refine o_mv (nm .i64 (0)) rfl ?_
                  refine n_eql (0) (0) Gd.none rfl rfl ?_
                  refine o_mv (bp ((0) = (0))) rfl ?_
                  refine o_move (nm .i64 (2)) (Gd.yes rfl rfl (decide_eq_true (by decide))) rfl ?_
                  refine n_eql (2) (2) (Gd.yes rfl rfl (decide_eq_true (by decide))) rfl rfl ?_
                  refine o_pickT (bp ((2) = (2))) Gd.none rfl (decide_eq_true (by decide)) rfl ?_
                  refine o_mv (bp ((2) = (2))) rfl ?_
                  refine o_move (AV.lit (.string (encS m (stpC m c)))) (Gd.yes rfl rfl (decide_eq_true (by decide))) rfl ?_
                  refine o_move (AV.lit (.string (encS m (stpC m c)))) (Gd.yes rfl rfl (decide_eq_true (by decide))) rfl ?_
                  refine o_eqlS (a := (encS m (stpC m c))) (c := (encS m (stpC m c))) (Gd.yes rfl rfl (decide_eq_true (by decide))) rfl rfl ?_
                  refine o_pickT (bp ((encS m (stpC m c)).toList = (encS m (stpC m c)).toList)) Gd.none rfl (decide_eq_true (by decide)) rfl ?_
                  refine o_mv (bp ((encS m (stpC m c)).toList = (encS m (stpC m c)).toList)) rfl ?_
                  refine o_ct c_awake10 (Gd.yes rfl rfl (decide_eq_true rfl)) Za_tC6 rfl ?_
                  refine o_pickT (AV.lit (.bool true)) Gd.none rfl (decide_eq_true rfl) rfl ?_
                  refine o_as (AV.lit (.bool true)) rfl ?_
                  refine aops_end ?_
                  refine hK33 _ ?_
                  refine awp_ret ?_
                  refine post_ret ⟨[(AV.lit (.bool true))], And.intro (AV.le_refl _) (trivial), rfl, ?_⟩
                  first | rfl | simp [bp]

end Go.Proofs.YtpamhblonmpniaaDoor

set_option linter.unusedVariables false
namespace Go.Proofs.YtpamhblonmpniaaDoor.fractionTwice
open Go Go.Ab Go.Mth Go.ChangeShapes Go.WideShapes Go.ChangeAt Go.RowKit
theorem reads (os : Os) {H : Type} (enc : TypeId × Value → H) : ∃ places, DataW.whole enc Tryd.prog ((World.laidAll Tryd.prog os laid5).forCall (fun _ _ => 0) ⟨#[], #[.agg #[.int .i64 0, .slice none 0 0], .agg #[.int .i64 0, .slice none 0 0]], []⟩).memory Tryd.f4.params.toList Rows.fractionTwiceSpec.vars false (#[.agg #[.int .i64 0, .slice none 0 0], .agg #[.int .i64 0, .slice none 0 0]] : Array Value).toList 8 = some ([.agg [.lit (.int .i64 0), .nil], .agg [.lit (.int .i64 0), .nil]], [], places) := ⟨[], by kernel_rfl⟩
theorem met (os : Os) : laidMetH Tryd.prog laid5 ((World.laidAll Tryd.prog os laid5).forCall (fun _ _ => 0) ⟨#[], #[.agg #[.int .i64 0, .slice none 0 0], .agg #[.int .i64 0, .slice none 0 0]], []⟩).memory := (MakeChecks.laidMetH_plain _ _ _ (by kernel_rfl)).mpr (laidMet_laidAll _ (by kernel_rfl) (by kernel_rfl))
theorem specs {H : Type} (ds : List (DataW H)) (h : ds.length = 2) : (Rows.fractionTwiceSpec.fn H ds).results = [.lit (.bool true)] ∧ (Rows.fractionTwiceSpec.fn H ds).args = ds ∧ (Rows.fractionTwiceSpec.fn H ds).vars = [] := by
  rcases ds with _ | ⟨d0, _ | ⟨d1, _ | ⟨e, t⟩⟩⟩ <;> simp at h <;> exact ⟨rfl, rfl, rfl⟩
set_option maxRecDepth 100000 in
theorem opened {H : Type} (enc : TypeId × Value → H) (W : World) (base : Nat) (args : Array Value) (ds : List (DataW H)) (ps : List MemPlace) (hval : ∀ (j : Nat) t v, (#[24, 27] : Array TypeId)[j]? = some t → args[j]? = some v → Value.okWide Tryd.prog W .any base t v)
    (hA : DataW.TrodAll enc Tryd.prog W 0 (fun _ => true) true [24, 27] args.toList ds ps) (hsz : (DataW.weightsEach Tryd.prog [24, 27] ds).all (· ≤ reachBytes) = true) : ∃ xs, RepL (memOf W) xs noLoc args.toList ∧ ECalls cx 4 xs (.lit (.bool true)) := by
  obtain ⟨v0, vs0, d0, ds0, p0, q0, hargs, rfl, rfl, h0, r0⟩ := trodAll_cons hA
  obtain ⟨v1, vs1, d1, ds1, p1, q1, rfl, rfl, rfl, h1, r1⟩ := trodAll_cons r0
  obtain ⟨rfl, rfl, rfl⟩ := trodAll_nil r1
  obtain rfl : args = #[v0, v1] := by cases args; simp_all
  obtain ⟨m0, e0, bq0⟩ := rep_mac (hval 0 24 v0 rfl rfl) h0 (fun n hn => by simpa using List.all_eq_true.1 hsz n (DataW.weights_mem_each (j := 0) rfl rfl n hn))
  obtain ⟨c1, e1, bq1⟩ := rep_cfg (hval 1 27 v1 rfl rfl) h1 (fun n hn => by simpa using List.all_eq_true.1 hsz n (DataW.weights_mem_each (j := 1) rfl rfl n hn))
  exact ⟨[macV m0, cfgV c1], RepL.cons e0 (RepL.cons e1 (by simp only [RepL])), c_FractionTwice m0 c1 bq0 bq1⟩
set_option maxRecDepth 100000 in
theorem lifted (os : Os) (started : os.Started) (H : Type) (enc : TypeId × Value → H) (F : Stop.Interp) :
    ReturnsInHanded {} Tryd.checked os 4 .any ((OpenSpec.ofChange Rows.fractionTwiceSpec).preRow enc Tryd.prog Tryd.f4 Rows.fractionTwiceRow.domain false Rows.fractionTwiceRow.laid) (((OpenSpec.ofChange Rows.fractionTwiceSpec).at F).post enc Tryd.prog Tryd.f4 false true false false) := by
  obtain ⟨places, hx⟩ := reads os enc
  refine lifted_of (C := Tryd.checked) started cx rfl ownT (by kernel_rfl) Tryd.func4 (witness_laid #[.agg #[.int .i64 0, .slice none 0 0], .agg #[.int .i64 0, .slice none 0 0]] (by kernel_rfl) (by kernel_rfl) (by kernel_rfl) (OpenSpec.preRow_of_cond 8 hx (by kernel_rfl) (fun k hk => by cases hk) (by kernel_rfl) (met os))) laidOutT (by kernel_rfl) (tb := 4) (by kernel_rfl) u4T rfl (fun ds h => specs ds (h.trans (by kernel_rfl))) (fun W h => tabG_of h) ?_
  intro W base args ds ps hval hA hsz
  exact opened enc W base args ds ps hval hA hsz
theorem said : Rows.FractionTwiceSaid :=
  OpenClaim.holds_of_cond 4 Tryd.f4 rfl rfl rfl rfl rfl rfl rfl ⟨rfl, rfl, rfl, rfl, rfl⟩ rfl rfl rfl rfl rfl (by kernel_rfl) Tryd.func4 (by kernel_rfl)
    (of_decide_eq_true (by kernel_rfl)) (by unfold Func.isWrapper; first | (rw [if_pos (by decide +kernel)]; kernel_rfl) | (rw [if_neg (by decide +kernel)]; exact ⟨rfl, rfl⟩))
    (fun os started H enc _ F => by rw [OpenClaim.pre_eq_preRow]; exact lifted os started H enc F)
theorem plain (f : FuncId) (fn : Func) (hf : Tryd.pinned.checked.prog.funcNamed "katabasis/katabasislaw10.FractionTwice" = some f) (hfn : Tryd.pinned.checked.prog.funcs[f]? = some fn) :
    true = Tryd.pinned.checked.prog.looks [] ∧ ∀ (j : Nat) t, fn.params[j]? = some t → Tryd.pinned.checked.prog.wantsStandIn t = false := by
  obtain rfl : f = 4 := Option.some.inj ((show Tryd.prog.funcNamed "katabasis/katabasislaw10.FractionTwice" = some 4 by kernel_rfl).symm.trans hf) |>.symm
  obtain rfl : fn = Tryd.f4 := (Option.some.inj (Tryd.func4.symm.trans hfn)).symm
  refine ⟨by kernel_rfl, fun j t ht => ?_⟩
  rw [Tryd.params4] at ht
  have : t = 24 ∨ t = 27 := by have h := Array.mem_of_getElem? ht; simp at h; first | exact h | (rcases h with h | h | h | h <;> simp [h]) | (rcases h with h | h | h <;> simp [h]) | (rcases h with h | h <;> simp [h])
  rcases this with rfl | rfl
  · exact (show Tryd.prog.wantsStandIn 24 = false by kernel_rfl)
  · exact (show Tryd.prog.wantsStandIn 27 = false by kernel_rfl)
end Go.Proofs.YtpamhblonmpniaaDoor.fractionTwice
namespace Go.Proofs.YtpamhblonmpniaaDoor
open Go
theorem fractionTwice_holds : Rows.FractionTwiceCardSaid :=
  Claim7.holds_tied_plain_at .later [] _ _ _ _ fractionTwice.said (fun _ h => by cases h) (by kernel_rfl) (fun _ h => by cases h) fractionTwice_row_tie rfl ⟨rfl, rfl⟩ (by kernel_rfl) rfl fractionTwice.plain (by kernel_rfl)
#print axioms fractionTwice_holds
end Go.Proofs.YtpamhblonmpniaaDoor

