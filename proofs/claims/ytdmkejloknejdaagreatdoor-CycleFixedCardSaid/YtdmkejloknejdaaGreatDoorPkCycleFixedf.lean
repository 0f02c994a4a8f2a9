/- The law 'katabasislaw06.CycleFixed' is true for every map, list and fraction of strings: Fixed of a word is the one reduced fraction, prime to Mod, whose steps have the rests of the word and lead it to itself. Its condition: none but the row's own (the listed tables of the library). -/
import Derived.Test.YtdmkejloknejdaaGreatDoorPkCycleFixede
set_option linter.unusedVariables false
set_option linter.unusedSimpArgs false
namespace Go.Mth
open Go Go.Ab
def trnP (m : MapM) (w : List Int) (f : FrZ) : Prop := (∀ i, i < w.length → restF m (trnZ m w f i) = w.getD i 0) ∧ trnZ m w f w.length = f
noncomputable instance (m : MapM) (w : List Int) (f : FrZ) : Decidable (trnP m w f) := Classical.propDecidable _
theorem trn_s (m : MapM) (w : List Int) (f : FrZ) (i : Nat) : trnZ m w f (i + 1) = nxtZ m (trnZ m w f i) (w.getD i 0) := rfl
theorem trn_pos {m : MapM} (hm : OkM m) (w : List Int) {f : FrZ} (hf : f.den ≠ 0) : ∀ i, (trnZ m w f i).den ≠ 0
 | 0 => hf
 | i + 1 => by
  have h := (nxt_ok hm (trn_pos hm w hf i) (w.getD i 0)).1.1
  rw [trn_s]
  omega
theorem trn_big {m : MapM} (hm : OkM m) {w : List Int} (hw : IsW m w) {f : FrZ} (hf : f.den ≠ 0) (h1 : (digs f.num.natAbs).length ≤ 300) (h2 : (digs f.den.natAbs).length ≤ 300) : ∀ i, i ≤ w.length → (digs (trnZ m w f i).num.natAbs).length ≤ 300 + 2 * i ∧ (digs (trnZ m w f i).den.natAbs).length ≤ 300 + 2 * i
 | 0, _ => ⟨h1, h2⟩
 | i + 1, h => by
  obtain ⟨a, b⟩ := trn_big hm hw hf h1 h2 i (by omega)
  have hr := isW_get hw (show i < w.length by omega)
  obtain ⟨c, d⟩ := nxt_len hm (trn_pos hm w hf i) hr.1 hr.2
  rw [trn_s]
  omega
theorem trn_fix {m : MapM} (hm : OkM m) (hf : freeM m) {w : List Int} (hw : IsW m w) : trnP m w (fixZ m w) := ⟨fun i h => (trn_rest hm hf hw h).2, trn_end hm hf hw⟩
/- a fraction of strings -/
def rdZ (x : Frc) : FrZ := ⟨numS x.num, numS x.den⟩
def rdO (x : Frc) : Prop := (okS x.num = true ∧ okS x.den = true) ∧ RedF (rdZ x)
noncomputable instance (x : Frc) : Decidable (rdO x) := Classical.propDecidable _
noncomputable def rdF (x : Frc) : FrZ := if okS x.num = true ∧ okS x.den = true then rdZ x else ⟨0, 0⟩
theorem rdF_y {x : Frc} (h : okS x.num = true ∧ okS x.den = true) : rdF x = rdZ x := if_pos h
theorem rdF_n {x : Frc} (h : ¬ (okS x.num = true ∧ okS x.den = true)) : rdF x = ⟨0, 0⟩ := if_neg h
theorem rd_frT {f : FrZ} (h1 : Fit f.num) (h2 : Fit f.den) (hr : RedF f) : rdO (frT f) ∧ rdF (frT f) = f := by
 have a : okS (frT f).num = true ∧ okS (frT f).den = true := ⟨okS_iff.2 (okS_txt h1), okS_iff.2 (okS_txt h2)⟩
 have b : rdZ (frT f) = f := frz_ext (numS_txt _) (numS_txt _)
 exact ⟨⟨a, by rw [b]; exact hr⟩, (rdF_y a).trans b⟩
theorem txt_num {a : ByteArray} (h : okS a = true) : txt (numS a) = a := by
 have := okS_iff.1 h
 exact (txt_numS this)
theorem okS_sz {a : ByteArray} (h : okS a = true) : a.size ≤ 9223372036854775807 := by
 have h1 := (okS_iff.1 h).2.1
 have h2 : sgnAt a ≤ 1 := by unfold sgnAt; split <;> omega
 omega
theorem rd_len {x : Frc} (h : rdO x) : rdF x = rdZ x ∧ (rdF x).den ≠ 0 ∧ RedF (rdF x) ∧ (digs (rdF x).num.natAbs).length ≤ 300 ∧ (digs (rdF x).den.natAbs).length ≤ 300 := by
 have e := rdF_y h.1
 have h2 := h.2
 have h3 := h2.1
 rw [e]
 exact ⟨rfl, by omega, h2, len_numS (okS_iff.1 h.1.1), len_numS (okS_iff.1 h.1.2)⟩
theorem rd_back {x : Frc} (h : rdO x) {f : FrZ} (e : rdF x = f) : x.num = (frT f).num ∧ x.den = (frT f).den := by
 have e1 := (rd_len h).1
 rw [← e, e1]
 exact ⟨(txt_num h.1.1).symm, (txt_num h.1.2).symm⟩
theorem frR_0 : frR ⟨0, 0⟩ = .agg [.lit (.bool false), .sl 1 [], .lit (.bool false), .sl 1 []] := by simp [frR, cR, cK, digs_zero, ns, bp]
end Go.Mth

namespace Go.Proofs.YtdmkejloknejdaaGreatDoor
open Go Go.Ab Go.Mth
theorem f156_ : tyField cx.P 45 0 = some (0, 9) := by kernel_rfl
theorem f157_ : callable cx.P 25 = true := by kernel_rfl
theorem f158_ : tyField cx.P 45 1 = some (1, 9) := by kernel_rfl
theorem f159_ : callable cx.P 26 = true := by kernel_rfl
theorem f160_ : callable cx.P 41 = true := by kernel_rfl
theorem c_l6Read (x : Frc) (hx1 : x.num.size ≤ 9223372036854775807) (hx2 : x.den.size ≤ 9223372036854775807) : ECalls cx 20 [.agg [Sv (x.num), Sv (x.den)]] (.tup [frR (rdF x), bp (rdO x)]) := by
 refine ecalls_of_awp Tryz.func20 (c := _) rfl (Nat.le_of_ble_eq_true rfl) ?_
 show awp cx 38 _ (postF cx Tryz.f20 _) ⟨[(0, .agg [Sv (x.num), Sv (x.den)])], []⟩
 refine awp_seq fun K0 hK0 => awp_region rfl ?_
 refine o_box 2 [Sv (x.num), Sv (x.den)] gn rfl rfl ?_
 refine o_alloc 3 [Fv, Zv, Fv, Zv] gn f107_ rfl rfl rfl ?_
 refine o_as Fv rfl (aops_end (hK0 _ (awp_seq fun K1 hK1 => awp_seq fun K2 hK2 => awp_region rfl ?_)))
 refine o_fieldRef 0 gn f156_ rfl rfl ?_
 refine o_loadS (Sv (x.num)) gn f145_ rfl rfl rfl ?_
 refine o_ct (c_rValid (x.num) (by first | assumption | decide | omega)) gn f157_ rfl ?_
 refine o_not (b := okS (x.num)) gn rfl ?_
 refine o_mv (.lit (.bool (!(okS (x.num))))) rfl ?_
 refine o_split (b := !(okS (x.num))) 9 rfl (fun h1 => ?_) (fun h1 => ?_)
 ·have k1 : ¬ okS x.num = true := by simpa using h1
  refine o_skip rfl rfl h1 (o_skip rfl rfl h1 (o_skip rfl rfl h1 (o_skip rfl rfl h1 ?_)))
  refine o_pickT Tv gn rfl h1 rfl ?_
  refine aops_end (hK2 _ ?_)
  refine awp_condB (b := true) rfl (fun _ => ?_) (fun hh => absurd (hh.symm.trans rfl) (by decide))
  refine awp_seq fun K3 hK3 => awp_region rfl ?_
  refine o_build [Fv, Zv, Fv, Zv] [] gn f109_ f107_ rfl rfl rfl ?_
  refine o_store [(3, .var 50 [Fv, Zv, Fv, Zv]), (2, .var 45 [Sv (x.num), Sv (x.den)])] gn f110_ rfl rfl rfl rfl rfl rfl ?_
  refine o_as Fv rfl (aops_end (hK3 _ ?_))
  refine awp_ret ?_
  refine post_ret ⟨[.agg [Fv, .sl 1 ([]), Fv, .sl 1 ([])], Fv], ⟨⟨3, .var 50 [Fv, Zv, Fv, Zv], rfl, rfl, rfl, Or.inl ⟨f111_, AV.le_agg (LeL.cons (AV.le_refl _) (LeL.cons (AV.le_nil' (by decide) (by first | rfl | simp [digs_zero, ns, is])) (LeL.cons (AV.le_refl _) (LeL.cons (AV.le_nil' (by decide) (by first | rfl | simp [digs_zero, ns, is])) LeL.nil))))⟩⟩, AV.le_refl _, trivial⟩, rfl, ?_⟩
  exact tup_eq2 ((congrArg frR (rdF_n (fun e => k1 e.1))).trans frR_0) (bpn (fun e => k1 e.1.1))
 ·have k1 : okS x.num = true := by simpa using h1
  have s1 := len_numS (okS_iff.1 k1)
  refine o_fieldRef 1 (Gd.yes rfl rfl h1) f158_ rfl rfl ?_
  refine o_loadS (Sv (x.den)) (Gd.yes rfl rfl h1) f145_ rfl rfl rfl ?_
  refine o_ct (c_rValid (x.den) (by first | assumption | decide | omega)) (Gd.yes rfl rfl h1) f157_ rfl ?_
  refine o_not (b := okS (x.den)) (Gd.yes rfl rfl h1) rfl ?_
  refine o_pickF (.lit (.bool (!(okS (x.den))))) gn rfl h1 rfl ?_
  refine aops_end (hK2 _ ?_)
  refine awp_condB (b := !(okS (x.den))) rfl (fun h2 => ?_) (fun h2 => ?_)
  ·have k2 : ¬ okS x.den = true := by simpa using h2
   refine awp_seq fun K4 hK4 => awp_region rfl ?_
   refine o_build [Fv, Zv, Fv, Zv] [] gn f109_ f107_ rfl rfl rfl ?_
   refine o_store [(3, .var 50 [Fv, Zv, Fv, Zv]), (2, .var 45 [Sv (x.num), Sv (x.den)])] gn f110_ rfl rfl rfl rfl rfl rfl ?_
   refine o_as Fv rfl (aops_end (hK4 _ ?_))
   refine awp_ret ?_
   refine post_ret ⟨[.agg [Fv, .sl 1 ([]), Fv, .sl 1 ([])], Fv], ⟨⟨3, .var 50 [Fv, Zv, Fv, Zv], rfl, rfl, rfl, Or.inl ⟨f111_, AV.le_agg (LeL.cons (AV.le_refl _) (LeL.cons (AV.le_nil' (by decide) (by first | rfl | simp [digs_zero, ns, is])) (LeL.cons (AV.le_refl _) (LeL.cons (AV.le_nil' (by decide) (by first | rfl | simp [digs_zero, ns, is])) LeL.nil))))⟩⟩, AV.le_refl _, trivial⟩, rfl, ?_⟩
   exact tup_eq2 ((congrArg frR (rdF_n (fun e => k2 e.2))).trans frR_0) (bpn (fun e => k2 e.1.2))
  ·have k2 : okS x.den = true := by simpa using h2
   have s2 := len_numS (okS_iff.1 k2)
   refine awp_skip (hK1 _ (awp_seq fun K5 hK5 => awp_regionD rfl ?_))
   refine o_fieldRef 0 gn f156_ rfl rfl ?_
   refine o_loadS (Sv (x.num)) gn f145_ rfl rfl rfl ?_
   refine o_ct (c_rParse (x.num) (by first | assumption | exact okS_iff.1 (by assumption))) gn f159_ rfl ?_
   refine o_fieldRef 1 gn f158_ rfl rfl ?_
   refine o_loadS (Sv (x.den)) gn f145_ rfl rfl rfl ?_
   refine o_ct (c_rParse (x.den) (by first | assumption | exact okS_iff.1 (by assumption))) gn f159_ rfl ?_
   refine o_build [bp ((numS (x.num)) < 0), .sl 1 (ns .i64 (digs (numS (x.num)).natAbs)), bp ((numS (x.den)) < 0), .sl 1 (ns .i64 (digs (numS (x.den)).natAbs))] [(0, [bp ((numS (x.num)) < 0), .sl 1 (ns .i64 (digs (numS (x.num)).natAbs))]), (1, [bp ((numS (x.den)) < 0), .sl 1 (ns .i64 (digs (numS (x.den)).natAbs))])] gn f109_ f107_ rfl rfl rfl ?_
   refine o_alloc 4 [Fv, Zv, Fv, Zv] gn f107_ rfl rfl rfl ?_
   refine o_store [(4, .var 50 [bp ((numS (x.num)) < 0), .sl 1 (ns .i64 (digs (numS (x.num)).natAbs)), bp ((numS (x.den)) < 0), .sl 1 (ns .i64 (digs (numS (x.den)).natAbs))]), (3, .var 50 [Fv, Zv, Fv, Zv]), (2, .var 45 [Sv (x.num), Sv (x.den)])] gn f110_ rfl rfl rfl rfl rfl rfl ?_
   refine aops_end ⟨by kernel_rfl, ?_⟩
   refine hK5 _ (awp_seq fun K6 hK6 => awp_regionD rfl ?_)
   refine o_loadA [bp ((numS (x.num)) < 0), .sl 1 (ns .i64 (digs (numS (x.num)).natAbs)), bp ((numS (x.den)) < 0), .sl 1 (ns .i64 (digs (numS (x.den)).natAbs))] gn f111_ rfl rfl rfl rfl rfl ?_
   refine o_fieldRef 2 gn f113_ rfl rfl ?_
   refine o_loadA [bp ((numS (x.den)) < 0), .sl 1 (ns .i64 (digs (numS (x.den)).natAbs))] gn f14_ rfl rfl rfl rfl rfl ?_
   refine o_ct (c_rSign (numS (x.den))) gn f21_ rfl ?_
   refine o_gtr (a := (sgn (numS (x.den)))) (c := ((0 : Nat) : Int)) gn rfl rfl ?_
   refine o_mv (bp (((0 : Nat) : Int) < (sgn (numS (x.den))))) rfl ?_
   refine o_splitP (q := ((0 : Nat) : Int) < (sgn (numS (x.den)))) 28 rfl (fun h3 => ?_) (fun h3 => ?_)
   ·refine o_fieldRef 0 (Gd.yes rfl rfl (decide_eq_true h3)) f112_ rfl rfl ?_
    refine o_loadA [bp ((numS (x.num)) < 0), .sl 1 (ns .i64 (digs (numS (x.num)).natAbs))] (Gd.yes rfl rfl (decide_eq_true h3)) f14_ rfl rfl rfl rfl rfl ?_
    refine o_fieldRef 2 (Gd.yes rfl rfl (decide_eq_true h3)) f113_ rfl rfl ?_
    refine o_loadA [bp ((numS (x.den)) < 0), .sl 1 (ns .i64 (digs (numS (x.den)).natAbs))] (Gd.yes rfl rfl (decide_eq_true h3)) f14_ rfl rfl rfl rfl rfl ?_
    refine o_ct (c_rGcd (numS (x.num)) (numS (x.den)) (by omega) (by omega)) (Gd.yes rfl rfl (decide_eq_true h3)) f108_ rfl ?_
    refine o_ct (c_rOf (1 : Int) (by first | decide | omega) (by first | decide | omega)) (Gd.yes rfl rfl (decide_eq_true h3)) f45_ rfl ?_
    refine o_ct (c_rCmp ((Int.gcd (numS (x.num)) (numS (x.den)) : Nat) : Int) (1 : Int)) (Gd.yes rfl rfl (decide_eq_true h3)) f102_ rfl ?_
    refine o_eql (a := (cmpZ ((Int.gcd (numS (x.num)) (numS (x.den)) : Nat) : Int) (1 : Int))) (c := ((0 : Nat) : Int)) (Gd.yes rfl rfl (decide_eq_true h3)) rfl rfl ?_
    refine o_pickT (bp ((cmpZ ((Int.gcd (numS (x.num)) (numS (x.den)) : Nat) : Int) (1 : Int)) = ((0 : Nat) : Int))) gn rfl (decide_eq_true h3) rfl ?_
    refine o_store [(4, .var 50 [bp ((numS (x.num)) < 0), .sl 1 (ns .i64 (digs (numS (x.num)).natAbs)), bp ((numS (x.den)) < 0), .sl 1 (ns .i64 (digs (numS (x.den)).natAbs))]), (3, .var 50 [bp ((numS (x.num)) < 0), .sl 1 (ns .i64 (digs (numS (x.num)).natAbs)), bp ((numS (x.den)) < 0), .sl 1 (ns .i64 (digs (numS (x.den)).natAbs))]), (2, .var 45 [Sv (x.num), Sv (x.den)])] gn f110_ rfl rfl rfl rfl rfl rfl ?_
    refine o_as (bp ((cmpZ ((Int.gcd (numS (x.num)) (numS (x.den)) : Nat) : Int) (1 : Int)) = ((0 : Nat) : Int))) rfl ?_
    refine aops_end ⟨by kernel_rfl, ?_⟩
    refine hK6 _ ?_
    refine awp_ret ?_
    refine post_ret ⟨[.agg [bp ((numS (x.num)) < 0), .sl 1 (ns .i64 (digs (numS (x.num)).natAbs)), bp ((numS (x.den)) < 0), .sl 1 (ns .i64 (digs (numS (x.den)).natAbs))], (bp ((cmpZ ((Int.gcd (numS (x.num)) (numS (x.den)) : Nat) : Int) (1 : Int)) = ((0 : Nat) : Int)))], ⟨⟨3, .var 50 [bp ((numS (x.num)) < 0), .sl 1 (ns .i64 (digs (numS (x.num)).natAbs)), bp ((numS (x.den)) < 0), .sl 1 (ns .i64 (digs (numS (x.den)).natAbs))], rfl, rfl, rfl, Or.inl ⟨f111_, AV.le_refl _⟩⟩, AV.le_refl _, trivial⟩, rfl, ?_⟩
    have hp : 0 < numS x.den := by rcases Int.lt_or_le 0 (numS x.den) with e2 | e2; exact e2; exact absurd (sgn_le.2 e2) (by omega)
    exact tup_eq2 (congrArg frR (rdF_y ⟨k1, k2⟩)) (bpc ⟨fun e => cmpZ_eq0.2 (by rw [show Int.gcd (numS x.num) (numS x.den) = 1 from e.2.2]; rfl), fun e => ⟨⟨k1, k2⟩, hp, (by have h9 := cmpZ_eq0.1 e; show Int.gcd (numS x.num) (numS x.den) = 1; omega)⟩⟩)
   ·refine o_skip rfl rfl (decide_eq_false h3) (o_skip rfl rfl (decide_eq_false h3) (o_skip rfl rfl (decide_eq_false h3) (o_skip rfl rfl (decide_eq_false h3) (o_skip rfl rfl (decide_eq_false h3) (o_skip rfl rfl (decide_eq_false h3) (o_skip rfl rfl (decide_eq_false h3) (o_skip rfl rfl (decide_eq_false h3) ?_)))))))
    refine o_pickF Fv gn rfl (decide_eq_false h3) rfl ?_
    refine o_store [(4, .var 50 [bp ((numS (x.num)) < 0), .sl 1 (ns .i64 (digs (numS (x.num)).natAbs)), bp ((numS (x.den)) < 0), .sl 1 (ns .i64 (digs (numS (x.den)).natAbs))]), (3, .var 50 [bp ((numS (x.num)) < 0), .sl 1 (ns .i64 (digs (numS (x.num)).natAbs)), bp ((numS (x.den)) < 0), .sl 1 (ns .i64 (digs (numS (x.den)).natAbs))]), (2, .var 45 [Sv (x.num), Sv (x.den)])] gn f110_ rfl rfl rfl rfl rfl rfl ?_
    refine o_as Fv rfl ?_
    refine aops_end ⟨by kernel_rfl, ?_⟩
    refine hK6 _ ?_
    refine awp_ret ?_
    refine post_ret ⟨[.agg [bp ((numS (x.num)) < 0), .sl 1 (ns .i64 (digs (numS (x.num)).natAbs)), bp ((numS (x.den)) < 0), .sl 1 (ns .i64 (digs (numS (x.den)).natAbs))], Fv], ⟨⟨3, .var 50 [bp ((numS (x.num)) < 0), .sl 1 (ns .i64 (digs (numS (x.num)).natAbs)), bp ((numS (x.den)) < 0), .sl 1 (ns .i64 (digs (numS (x.den)).natAbs))], rfl, rfl, rfl, Or.inl ⟨f111_, AV.le_refl _⟩⟩, AV.le_refl _, trivial⟩, rfl, ?_⟩
    have hp : numS x.den ≤ 0 := sgn_le.1 (by omega)
    exact tup_eq2 (congrArg frR (rdF_y ⟨k1, k2⟩)) (bpn (fun e => absurd (show 0 < numS x.den from e.2.1) (by omega)))

theorem c_l6Turns (m : MapM) (w : List Int) (f : FrZ) (hM : OkM m) (hW : OkW m w) (h0 : f.den ≠ 0) (l1 : (digs f.num.natAbs).length ≤ 300) (l2 : (digs f.den.natAbs).length ≤ 300) : ECalls cx 24 [mapV m, Lv w, frR f] (bp (trnP m w f)) := by
 refine ecalls_of_awp Tryz.func24 (c := _) rfl (Nat.le_of_ble_eq_true rfl) ?_
 show awp cx 41 _ (postF cx Tryz.f24 _) ⟨[(0, mapV m), (1, Lv w), (2, frR f)], []⟩
 have hwl := hW.2
 refine awp_seq fun K0 hK0 => awp_region rfl ?_
 refine o_box 2 [Iv m.mod, Lv m.mul, Lv m.add] gn rfl rfl ?_
 refine o_box 3 [bp (f.num < 0), .sl 1 (ns .i64 (digs (f.num).natAbs)), bp (f.den < 0), .sl 1 (ns .i64 (digs (f.den).natAbs))] gn rfl rfl ?_
 refine o_as Fv rfl (aops_end (hK0 _ (awp_seq fun K1 hK1 => awp_region rfl ?_)))
 refine o_loadA [bp (f.num < 0), .sl 1 (ns .i64 (digs (f.num).natAbs)), bp (f.den < 0), .sl 1 (ns .i64 (digs (f.den).natAbs))] gn f111_ rfl rfl rfl rfl rfl ?_
 refine o_alloc 4 [Fv, Zv, Fv, Zv] gn f107_ rfl rfl rfl ?_
 refine o_store [(4, .var 50 [bp (f.num < 0), .sl 1 (ns .i64 (digs (f.num).natAbs)), bp (f.den < 0), .sl 1 (ns .i64 (digs (f.den).natAbs))]), (3, .var 50 [bp (f.num < 0), .sl 1 (ns .i64 (digs (f.num).natAbs)), bp (f.den < 0), .sl 1 (ns .i64 (digs (f.den).natAbs))]), (2, oM 24 m)] gn f110_ rfl rfl rfl rfl rfl rfl ?_
 refine aops_end (hK1 _ (awp_seq fun K2 hK2 => awp_seq fun K3 hK3 => awp_region rfl (o_as (Nv 0) rfl (aops_end (hK3 _ ?_)))))
 refine awp_block ?_
 refine awp_loopR (fun κ σ => ∃ (i : Nat), (i ≤ w.length) ∧ (∀ k, k < i → restF m (trnZ m w f k) = w.getD k 0) ∧ (w.length - i) = κ ∧ σ = ⟨[(1, Lv w), (3, .ref 3 0), (5, .ref 5 0), (7, .ref 7 0), (8, Nv i)], [(3, oM 24 m), (5, .var 50 [bp (f.num < 0), .sl 1 (ns .i64 (digs (f.num).natAbs)), bp (f.den < 0), .sl 1 (ns .i64 (digs (f.den).natAbs))]), (7, .var 50 [bp ((trnZ m w f i).num < 0), .sl 1 (ns .i64 (digs ((trnZ m w f i).num).natAbs)), bp ((trnZ m w f i).den < 0), .sl 1 (ns .i64 (digs ((trnZ m w f i).den).natAbs))])]⟩) ⟨_, _, ⟨0, (by omega), (fun k hk => by omega), rfl, rfl⟩, ?wk0⟩ ?rd0
 case wk0 =>
  exact Wk.trans (Wk.sub (σ' := ⟨[(1, Lv w), (3, .ref 2 0), (5, .ref 3 0), (7, .ref 4 0), (8, Nv 0)], [(2, oM 24 m), (3, .var 50 [bp (f.num < 0), .sl 1 (ns .i64 (digs (f.num).natAbs)), bp (f.den < 0), .sl 1 (ns .i64 (digs (f.den).natAbs))]), (4, .var 50 [bp (f.num < 0), .sl 1 (ns .i64 (digs (f.num).natAbs)), bp (f.den < 0), .sl 1 (ns .i64 (digs (f.den).natAbs))])]⟩) ⟨rfl, rfl, rfl, rfl, rfl, trivial⟩ ⟨rfl, rfl, rfl, trivial⟩) (Wk.trans (Wk.ren (id := 2) (id' := 900) rfl) (Wk.trans (Wk.ren (id := 3) (id' := 5) rfl) (Wk.trans (Wk.ren (id := 4) (id' := 7) rfl) (Wk.trans (Wk.ren (id := 900) (id' := 3) rfl) (Wk.sub ⟨rfl, (by first | rfl | simp), (by first | rfl | simp), (by first | rfl | simp), (by first | rfl | exact nm_int (by omega)), trivial⟩ ⟨(by first | rfl | (rw [hre]; rfl)), (by first | rfl | (rw [hre]; rfl)), (by first | rfl | (rw [hre]; rfl)), trivial⟩)))))
 rintro κ _ ⟨i, hi, hv, rfl, rfl⟩
 obtain ⟨b1, b2⟩ := trn_big hM hW.1 h0 l1 l2 i hi
 have b3 := trn_pos hM w h0 i
 refine awp_seq fun K4 hK4 => awp_seq fun K5 hK5 => awp_region rfl (o_mv (Nv i) rfl (o_mv (Lv w) rfl ?_))
 refine i_len w gn f2_ rfl ?_
 refine n_lss i (w.length) gn rfl rfl ?_
 refine aops_end (hK5 _ ?_)
 refine awp_condQ (q := i < (w.length)) rfl (fun h1 => ?_) (fun h1 => ?_)
 ·have hwi := isW_get hW.1 (show i < w.length by omega)
  refine awp_skip (hK4 _ (awp_seq fun K6 hK6 => ?_))
  refine awp_block ?_
  refine awp_seq fun K7 hK7 => awp_seq fun K8 hK8 => awp_regionD rfl ?_
  refine o_loadA [Iv m.mod, Lv m.mul, Lv m.add] gn f67_ rfl rfl rfl rfl rfl ?_
  refine o_loadA [bp ((trnZ m w f i).num < 0), .sl 1 (ns .i64 (digs ((trnZ m w f i).num).natAbs)), bp ((trnZ m w f i).den < 0), .sl 1 (ns .i64 (digs ((trnZ m w f i).den).natAbs))] gn f111_ rfl rfl rfl rfl rfl ?_
  refine o_ct (c_zRest m (trnZ m w f i) hM (by omega) (by omega)) gn f115_ rfl ?_
  refine o_mv (Lv w) rfl (o_mv (Nv i) rfl ?_)
  refine i_index w i gn f10_ rfl rfl (by omega) ?_
  refine i_loadI w i gn f11_ rfl (by omega) ?_
  refine o_neq (a := (restF m (trnZ m w f i))) (c := (w.getD i 0)) gn rfl rfl ?_
  refine aops_end ⟨by kernel_rfl, ?_⟩
  refine hK8 _ ?_
  refine awp_condQ (q := (restF m (trnZ m w f i)) ≠ (w.getD i 0)) rfl (fun h2 => ?_) (fun h2 => ?_)
  ·refine awp_seq fun K9 hK9 => awp_region rfl (o_as Fv rfl (aops_end (hK9 _ ?_)))
   refine awp_ret ?_
   refine post_ret ⟨[Fv], ⟨AV.le_refl _, trivial⟩, rfl, ?_⟩
   first | exact bpn (fun e => absurd (e.1 i (by omega)) (by assumption)) | exact bpc ⟨fun e => cmpZ_eq0.2 (by rw [show i = w.length by omega, e.2]), fun e => ⟨fun k hk => hv k (by omega), by rw [← show i = w.length by omega]; exact frz_ext (cmpZ_eq0.1 (by assumption)) (cmpZ_eq0.1 e)⟩⟩ | exact bpn (fun e => absurd (show cmpZ (trnZ m w f i).num f.num = ((0 : Nat) : Int) from cmpZ_eq0.2 (by rw [show i = w.length by omega, e.2])) (by assumption))
  ·have hre := Decidable.not_not.1 h2
   refine awp_skip (hK7 _ (awp_region rfl ?_))
   refine o_loadA [Iv m.mod, Lv m.mul, Lv m.add] gn f67_ rfl rfl rfl rfl rfl ?_
   refine o_loadA [bp ((trnZ m w f i).num < 0), .sl 1 (ns .i64 (digs ((trnZ m w f i).num).natAbs)), bp ((trnZ m w f i).den < 0), .sl 1 (ns .i64 (digs ((trnZ m w f i).den).natAbs))] gn f111_ rfl rfl rfl rfl rfl ?_
   refine o_ct (c_zStep m (trnZ m w f i) hM (by omega) (by omega) (by omega) (by omega)) gn f160_ rfl ?_
   refine o_store [(3, oM 24 m), (5, .var 50 [bp (f.num < 0), .sl 1 (ns .i64 (digs (f.num).natAbs)), bp (f.den < 0), .sl 1 (ns .i64 (digs (f.den).natAbs))]), (7, .var 50 [bp ((nxtZ m (trnZ m w f i) (restF m (trnZ m w f i))).num < 0), .sl 1 (ns .i64 (digs ((nxtZ m (trnZ m w f i) (restF m (trnZ m w f i))).num).natAbs)), bp ((nxtZ m (trnZ m w f i) (restF m (trnZ m w f i))).den < 0), .sl 1 (ns .i64 (digs ((nxtZ m (trnZ m w f i) (restF m (trnZ m w f i))).den).natAbs))])] gn f110_ rfl rfl rfl rfl rfl rfl ?_
   refine aops_end (hK6 _ (awp_region rfl (o_mv (Nv i) rfl ?_)))
   refine n_add i 1 gn rfl rfl (by simp only [topOf]; omega) ?_
   refine o_as (Nv (i + 1)) rfl (aops_end ?_)
   refine ⟨_, _, ?lt, ⟨i + 1, (by omega), (fun k hk => by by_cases e : k = i; subst e; exact Decidable.not_not.1 h2; exact hv k (by omega)), rfl, rfl⟩, ?wk⟩
   case lt => omega
   case wk => exact Wk.sub ⟨rfl, rfl, rfl, rfl, (by first | rfl | exact nm_int (by omega)), trivial⟩ ⟨rfl, rfl, (by first | rfl | (rw [hre]; rfl)), trivial⟩
 ·refine awp_exit ?_
  refine hK2 _ (awp_seq fun K10 hK10 => awp_region rfl ?_)
  refine o_fieldRef 0 gn f112_ rfl rfl ?_
  refine o_loadA [bp ((trnZ m w f i).num < 0), .sl 1 (ns .i64 (digs ((trnZ m w f i).num).natAbs))] gn f14_ rfl rfl rfl rfl rfl ?_
  refine o_fieldRef 0 gn f112_ rfl rfl ?_
  refine o_loadA [bp (f.num < 0), .sl 1 (ns .i64 (digs (f.num).natAbs))] gn f14_ rfl rfl rfl rfl rfl ?_
  refine o_ct (c_rCmp ((trnZ m w f i).num) (f.num)) gn f102_ rfl ?_
  refine o_eql (a := (cmpZ ((trnZ m w f i).num) (f.num))) (c := ((0 : Nat) : Int)) gn rfl rfl ?_
  refine o_mv (bp ((cmpZ ((trnZ m w f i).num) (f.num)) = ((0 : Nat) : Int))) rfl ?_
  refine o_splitP (q := (cmpZ ((trnZ m w f i).num) (f.num)) = ((0 : Nat) : Int)) 33 rfl (fun h3 => ?_) (fun h3 => ?_)
  ·refine o_fieldRef 2 (Gd.yes rfl rfl (decide_eq_true h3)) f113_ rfl rfl ?_
   refine o_loadA [bp ((trnZ m w f i).den < 0), .sl 1 (ns .i64 (digs ((trnZ m w f i).den).natAbs))] (Gd.yes rfl rfl (decide_eq_true h3)) f14_ rfl rfl rfl rfl rfl ?_
   refine o_fieldRef 2 (Gd.yes rfl rfl (decide_eq_true h3)) f113_ rfl rfl ?_
   refine o_loadA [bp (f.den < 0), .sl 1 (ns .i64 (digs (f.den).natAbs))] (Gd.yes rfl rfl (decide_eq_true h3)) f14_ rfl rfl rfl rfl rfl ?_
   refine o_ct (c_rCmp ((trnZ m w f i).den) (f.den)) (Gd.yes rfl rfl (decide_eq_true h3)) f102_ rfl ?_
   refine o_eql (a := (cmpZ ((trnZ m w f i).den) (f.den))) (c := ((0 : Nat) : Int)) (Gd.yes rfl rfl (decide_eq_true h3)) rfl rfl ?_
   refine o_pickT (bp ((cmpZ ((trnZ m w f i).den) (f.den)) = ((0 : Nat) : Int))) gn rfl (decide_eq_true h3) rfl ?_
   refine o_as (bp ((cmpZ ((trnZ m w f i).den) (f.den)) = ((0 : Nat) : Int))) rfl (aops_end (hK10 _ ?_))
   refine awp_ret ?_
   refine post_ret ⟨[(bp ((cmpZ ((trnZ m w f i).den) (f.den)) = ((0 : Nat) : Int)))], ⟨AV.le_refl _, trivial⟩, rfl, ?_⟩
   first | exact bpn (fun e => absurd (e.1 i (by omega)) (by assumption)) | exact bpc ⟨fun e => cmpZ_eq0.2 (by rw [show i = w.length by omega, e.2]), fun e => ⟨fun k hk => hv k (by omega), by rw [← show i = w.length by omega]; exact frz_ext (cmpZ_eq0.1 (by assumption)) (cmpZ_eq0.1 e)⟩⟩ | exact bpn (fun e => absurd (show cmpZ (trnZ m w f i).num f.num = ((0 : Nat) : Int) from cmpZ_eq0.2 (by rw [show i = w.length by omega, e.2])) (by assumption))
  ·refine o_skip rfl rfl (decide_eq_false h3) (o_skip rfl rfl (decide_eq_false h3) (o_skip rfl rfl (decide_eq_false h3) (o_skip rfl rfl (decide_eq_false h3) (o_skip rfl rfl (decide_eq_false h3) (o_skip rfl rfl (decide_eq_false h3) ?_)))))
   refine o_pickF Fv gn rfl (decide_eq_false h3) rfl ?_
   refine o_as Fv rfl (aops_end (hK10 _ ?_))
   refine awp_ret ?_
   refine post_ret ⟨[Fv], ⟨AV.le_refl _, trivial⟩, rfl, ?_⟩
   first | exact bpn (fun e => absurd (e.1 i (by omega)) (by assumption)) | exact bpc ⟨fun e => cmpZ_eq0.2 (by rw [show i = w.length by omega, e.2]), fun e => ⟨fun k hk => hv k (by omega), by rw [← show i = w.length by omega]; exact frz_ext (cmpZ_eq0.1 (by assumption)) (cmpZ_eq0.1 e)⟩⟩ | exact bpn (fun e => absurd (show cmpZ (trnZ m w f i).num f.num = ((0 : Nat) : Int) from cmpZ_eq0.2 (by rw [show i = w.length by omega, e.2])) (by assumption))

end Go.Proofs.YtdmkejloknejdaaGreatDoor

namespace Go.Proofs.YtdmkejloknejdaaGreatDoor
open Go Go.Ab Go.Mth
theorem f161_ : callable cx.P 18 = true := by kernel_rfl
theorem f162_ : callable cx.P 13 = true := by kernel_rfl
theorem f163_ : callable cx.P 20 = true := by kernel_rfl
theorem f164_ : callable cx.P 24 = true := by kernel_rfl
theorem c_CycleFixed (m : MapM) (w : List Int) (x : Frc) (h1m : m.mul.length ≤ 17592186044416) (h2m : m.add.length ≤ 17592186044416) (hwl : w.length ≤ 17592186044416) (hx1 : x.num.size ≤ 9223372036854775807) (hx2 : x.den.size ≤ 9223372036854775807) : ECalls cx 4 [mapV m, Lv w, .agg [Sv (x.num), Sv (x.den)]] (.lit (.bool true)) := by
 refine ecalls_of_awp Tryz.func4 (c := _) rfl (Nat.le_of_ble_eq_true rfl) ?_
 show awp cx 85 _ (postF cx Tryz.f4 _) ⟨[(0, mapV m), (1, Lv w), (2, .agg [Sv (x.num), Sv (x.den)])], []⟩
 refine awp_seq fun K0 hK0 => awp_region rfl ?_
 refine o_box 2 [Iv m.mod, Lv m.mul, Lv m.add] gn rfl rfl ?_
 refine o_box 3 [Sv (x.num), Sv (x.den)] gn rfl rfl ?_
 refine o_as Fv rfl (aops_end (hK0 _ (awp_seq fun K1 hK1 => awp_seq fun K2 hK2 => awp_region rfl ?_)))
 refine o_loadA [Iv m.mod, Lv m.mul, Lv m.add] gn f67_ rfl rfl rfl rfl rfl ?_
 refine o_mv (Lv w) rfl ?_
 refine o_ct (c_l6Proper m w (by assumption)) gn f161_ rfl ?_
 refine o_notP (q := cycE m w = 0) gn rfl ?_
 refine aops_end (hK2 _ ?_)
 refine awp_condQ (q := ¬ (cycE m w = 0)) rfl (fun h1 => ?_) (fun h1 => ?_)
 ·refine awp_seq fun K3 hK3 => awp_region rfl ?_
  refine o_ct c_awake6 gn f162_ rfl ?_
  refine o_as Tv rfl (aops_end (hK3 _ ?_))
  refine awp_ret ?_
  refine post_ret ⟨[Tv], ⟨AV.le_refl _, trivial⟩, rfl, ?_⟩
  first | rfl | simp [bp]
 ·have hc0 : cycE m w = 0 := Decidable.not_not.1 h1
  obtain ⟨hM, hf, hW, hne⟩ := cyc_0' hc0
  have hx := fxF_ok hc0
  have hwp : 0 < w.length := List.length_pos_iff.2 hne
  obtain ⟨k1, k2⟩ := fix_fit hM hf hW hne
  have k3 := fit_len k1
  have k4 := fit_len k2
  have hz1 := tzL_len m w w.length
  have hz2 := trL_len m w w.length
  obtain ⟨r1, r2⟩ := rd_frT k1 k2 (fix_ok hM hf hW.1 hne).1
  obtain ⟨q1, q2, q3⟩ := fix_ok hM hf hW.1 hne
  have hM2 := hM
  obtain ⟨o1, o2, o3, o4, o5⟩ := hM2
  have hmd := small_len (z := m.mod) (by omega)
  have f1 := fit_len k1
  have f2 := fit_len k2
  have s1 := okS_sz r1.1.1
  have s2 := okS_sz r1.1.2
  obtain ⟨l1, l2⟩ := fix_len hM hf hW hne
  have q0 := q1.1
  refine awp_skip (hK1 _ (awp_seq fun K4 hK4 => awp_region rfl ?_))
  refine o_loadA [Iv m.mod, Lv m.mul, Lv m.add] gn f67_ rfl rfl rfl rfl rfl ?_
  refine o_mv (Lv w) rfl ?_
  refine o_ct (c_yFixed m w (by first | assumption | omega | decide)) gn f147_ rfl ?_
  refine o_mv (.tup [.agg [Sv ((fxF m w).num), Sv ((fxF m w).den)], Nv (cycE m w)]) rfl (o_extract (.agg [Sv ((fxF m w).num), Sv ((fxF m w).den)]) gn rfl rfl ?_)
  refine n_as (v' := (.agg [Sv ((frT (fixZ m w)).num), Sv ((frT (fixZ m w)).den)])) (by rw [hx.1]; try rfl) ?_
  refine o_extract (Nv (cycE m w)) gn rfl rfl ?_
  refine o_alloc 4 [Sv Ev, Sv Ev] gn f87_ rfl rfl rfl ?_
  refine o_store [(4, .var 45 [Sv ((frT (fixZ m w)).num), Sv ((frT (fixZ m w)).den)]), (3, .var 45 [Sv (x.num), Sv (x.den)]), (2, oM 24 m)] gn f92_ rfl rfl rfl rfl rfl rfl ?_
  refine o_as (Nv (cycE m w)) rfl (aops_end (hK4 _ (awp_seq fun K5 hK5 => awp_region rfl ?_)))
  refine o_loadA [Sv ((frT (fixZ m w)).num), Sv ((frT (fixZ m w)).den)] gn f93_ rfl rfl rfl rfl rfl ?_
  refine o_ct (c_l6Read (frT (fixZ m w)) (by first | assumption | omega) (by first | assumption | omega)) gn f163_ rfl ?_
  refine o_mv (.tup [frR (rdF (frT (fixZ m w))), bp (rdO (frT (fixZ m w)))]) rfl (o_extract (frR (rdF (frT (fixZ m w)))) gn rfl rfl ?_)
  refine n_as (v' := (frR (fixZ m w))) (by exact congrArg frR r2) ?_
  refine o_extract (bp (rdO (frT (fixZ m w)))) gn rfl rfl ?_
  refine n_as (v' := Tv) (by exact bpy r1) ?_
  refine o_alloc 5 [Fv, Zv, Fv, Zv] gn f107_ rfl rfl rfl ?_
  refine o_store [(5, .var 50 [bp ((fixZ m w).num < 0), .sl 1 (ns .i64 (digs ((fixZ m w).num).natAbs)), bp ((fixZ m w).den < 0), .sl 1 (ns .i64 (digs ((fixZ m w).den).natAbs))]), (4, .var 45 [Sv ((frT (fixZ m w)).num), Sv ((frT (fixZ m w)).den)]), (3, .var 45 [Sv (x.num), Sv (x.den)]), (2, oM 24 m)] gn f110_ rfl rfl rfl rfl rfl rfl ?_
  refine o_as Tv rfl (aops_end (hK5 _ (awp_seq fun K6 hK6 => awp_seq fun K7 hK7 => awp_regionD rfl (o_mv (Nv (cycE m w)) rfl ?_))))
  refine n_as (v' := (Nv 0)) (by rw [hc0]) ?_
  refine n_neq 0 0 gn rfl rfl ?_
  refine o_mv (bp (0 ≠ 0)) rfl ?_
  refine o_move Tv (Gd.yes rfl rfl (decide_eq_false (by decide))) rfl ?_
  refine o_not (b := true) (Gd.yes rfl rfl (decide_eq_false (by decide))) rfl ?_
  refine o_pickF Fv gn rfl (decide_eq_false (by decide)) rfl ?_
  refine o_mv Fv rfl ?_
  refine o_fieldRef 2 (Gd.yes rfl rfl rfl) f113_ rfl rfl ?_
  refine o_loadA [bp ((fixZ m w).den < 0), .sl 1 (ns .i64 (digs ((fixZ m w).den).natAbs))] (Gd.yes rfl rfl rfl) f14_ rfl rfl rfl rfl rfl ?_
  refine o_fieldRef 0 (Gd.yes rfl rfl rfl) f58_ rfl rfl ?_
  refine o_loadS (Iv m.mod) (Gd.yes rfl rfl rfl) f11_ rfl rfl rfl ?_
  refine o_ct (c_rOf m.mod (by first | decide | omega) (by first | decide | omega)) (Gd.yes rfl rfl rfl) f45_ rfl ?_
  refine o_ct (c_rGcd ((fixZ m w).den) m.mod (by omega) (by omega)) (Gd.yes rfl rfl rfl) f108_ rfl ?_
  refine o_ct (c_rOf (1 : Int) (by first | decide | omega) (by first | decide | omega)) (Gd.yes rfl rfl rfl) f45_ rfl ?_
  refine o_ct (c_rCmp ((Int.gcd (fixZ m w).den m.mod : Nat) : Int) (1 : Int)) (Gd.yes rfl rfl rfl) f102_ rfl ?_
  refine o_neq (a := (cmpZ ((Int.gcd (fixZ m w).den m.mod : Nat) : Int) (1 : Int))) (c := ((0 : Nat) : Int)) (Gd.yes rfl rfl rfl) rfl rfl ?_
  refine n_as (v' := Fv) (by exact bp_no (fun e => e (cmpZ_eq0.2 (by rw [show Int.gcd (fixZ m w).den m.mod = 1 from q3]; rfl)))) ?_
  refine o_pickF Fv gn rfl rfl rfl ?_
  refine o_mv Fv rfl ?_
  refine o_loadA [Iv m.mod, Lv m.mul, Lv m.add] (Gd.yes rfl rfl rfl) f67_ rfl rfl rfl rfl rfl ?_
  refine o_move (Lv w) (Gd.yes rfl rfl rfl) rfl ?_
  refine o_loadA [bp ((fixZ m w).num < 0), .sl 1 (ns .i64 (digs ((fixZ m w).num).natAbs)), bp ((fixZ m w).den < 0), .sl 1 (ns .i64 (digs ((fixZ m w).den).natAbs))] (Gd.yes rfl rfl rfl) f111_ rfl rfl rfl rfl rfl ?_
  refine o_ct (c_l6Turns m w (fixZ m w) hM hW (by first | assumption | omega) (by first | assumption | omega) (by first | assumption | omega)) (Gd.yes rfl rfl rfl) f164_ rfl ?_
  refine n_as (v' := Tv) (by exact bpy (trn_fix hM hf hW.1)) ?_
  refine o_not (b := true) (Gd.yes rfl rfl rfl) rfl ?_
  refine o_pickF Fv gn rfl rfl rfl ?_
  refine aops_end ⟨by kernel_rfl, ?_⟩
  refine hK7 _ ?_
  refine awp_condB (b := false) rfl (fun hh => absurd (hh.symm.trans rfl) (by decide)) (fun _ => ?_)
  refine awp_skip (hK6 _ (awp_seq fun K8 hK8 => awp_region rfl ?_))
  refine o_loadA [Sv (x.num), Sv (x.den)] gn f93_ rfl rfl rfl rfl rfl ?_
  refine o_ct (c_l6Read x (by first | assumption | omega) (by first | assumption | omega)) gn f163_ rfl ?_
  refine o_mv (.tup [frR (rdF x), bp (rdO x)]) rfl (o_extract (frR (rdF x)) gn rfl rfl (o_extract (bp (rdO x)) gn rfl rfl ?_))
  refine o_alloc 6 [Fv, Zv, Fv, Zv] gn f107_ rfl rfl rfl ?_
  refine o_store [(6, .var 50 [bp ((rdF x).num < 0), .sl 1 (ns .i64 (digs ((rdF x).num).natAbs)), bp ((rdF x).den < 0), .sl 1 (ns .i64 (digs ((rdF x).den).natAbs))]), (5, .var 50 [bp ((fixZ m w).num < 0), .sl 1 (ns .i64 (digs ((fixZ m w).num).natAbs)), bp ((fixZ m w).den < 0), .sl 1 (ns .i64 (digs ((fixZ m w).den).natAbs))]), (4, .var 45 [Sv ((frT (fixZ m w)).num), Sv ((frT (fixZ m w)).den)]), (3, .var 45 [Sv (x.num), Sv (x.den)]), (2, oM 24 m)] gn f110_ rfl rfl rfl rfl rfl rfl ?_
  refine o_as (bp (rdO x)) rfl (aops_end (hK8 _ (awp_seq fun K9 hK9 => awp_seq fun K10 hK10 => awp_regionD rfl (o_mv (bp (rdO x)) rfl ?_))))
  refine o_notP (q := rdO x) gn rfl ?_
  refine o_mv (bp (¬ (rdO x))) rfl ?_
  refine o_splitP (q := ¬ (rdO x)) 60 rfl (fun h2 => ?_) (fun h2 => ?_)
  ·refine o_skip rfl rfl (decide_eq_true h2) (o_skip rfl rfl (decide_eq_true h2) (o_skip rfl rfl (decide_eq_true h2) (o_skip rfl rfl (decide_eq_true h2) (o_skip rfl rfl (decide_eq_true h2) (o_skip rfl rfl (decide_eq_true h2) (o_skip rfl rfl (decide_eq_true h2) (o_skip rfl rfl (decide_eq_true h2) (o_skip rfl rfl (decide_eq_true h2) ?_))))))))
   refine o_pickT Tv gn rfl (decide_eq_true h2) rfl ?_
   refine o_mv Tv rfl (o_skip rfl rfl rfl (o_skip rfl rfl rfl (o_skip rfl rfl rfl (o_skip rfl rfl rfl (o_skip rfl rfl rfl ?_)))))
   refine o_pickT Tv gn rfl rfl rfl ?_
   refine aops_end ⟨by kernel_rfl, ?_⟩
   refine hK10 _ ?_
   refine awp_condB (b := true) rfl (fun _ => ?_) (fun hh => absurd (hh.symm.trans rfl) (by decide))
   refine awp_seq fun K11 hK11 => awp_region rfl ?_
   refine o_ct c_awake6 gn f162_ rfl ?_
   refine o_as Tv rfl (aops_end (hK11 _ ?_))
   refine awp_ret ?_
   refine post_ret ⟨[Tv], ⟨AV.le_refl _, trivial⟩, rfl, ?_⟩
   first | rfl | simp [bp]
  ·have hr := Decidable.not_not.1 h2
   obtain ⟨t1, t2, t3, t4, t5⟩ := rd_len hr
   refine o_fieldRef 2 (Gd.yes rfl rfl (decide_eq_false h2)) f113_ rfl rfl ?_
   refine o_loadA [bp ((rdF x).den < 0), .sl 1 (ns .i64 (digs ((rdF x).den).natAbs))] (Gd.yes rfl rfl (decide_eq_false h2)) f14_ rfl rfl rfl rfl rfl ?_
   refine o_fieldRef 0 (Gd.yes rfl rfl (decide_eq_false h2)) f58_ rfl rfl ?_
   refine o_loadS (Iv m.mod) (Gd.yes rfl rfl (decide_eq_false h2)) f11_ rfl rfl rfl ?_
   refine o_ct (c_rOf m.mod (by first | decide | omega) (by first | decide | omega)) (Gd.yes rfl rfl (decide_eq_false h2)) f45_ rfl ?_
   refine o_ct (c_rGcd ((rdF x).den) m.mod (by omega) (by omega)) (Gd.yes rfl rfl (decide_eq_false h2)) f108_ rfl ?_
   refine o_ct (c_rOf (1 : Int) (by first | decide | omega) (by first | decide | omega)) (Gd.yes rfl rfl (decide_eq_false h2)) f45_ rfl ?_
   refine o_ct (c_rCmp ((Int.gcd (rdF x).den m.mod : Nat) : Int) (1 : Int)) (Gd.yes rfl rfl (decide_eq_false h2)) f102_ rfl ?_
   refine o_neq (a := (cmpZ ((Int.gcd (rdF x).den m.mod : Nat) : Int) (1 : Int))) (c := ((0 : Nat) : Int)) (Gd.yes rfl rfl (decide_eq_false h2)) rfl rfl ?_
   refine o_pickF (bp ((cmpZ ((Int.gcd (rdF x).den m.mod : Nat) : Int) (1 : Int)) ≠ ((0 : Nat) : Int))) gn rfl (decide_eq_false h2) rfl ?_
   refine o_mv (bp ((cmpZ ((Int.gcd (rdF x).den m.mod : Nat) : Int) (1 : Int)) ≠ ((0 : Nat) : Int))) rfl ?_
   refine o_splitP (q := (cmpZ ((Int.gcd (rdF x).den m.mod : Nat) : Int) (1 : Int)) ≠ ((0 : Nat) : Int)) 71 rfl (fun h3 => ?_) (fun h3 => ?_)
   ·refine o_skip rfl rfl (decide_eq_true h3) (o_skip rfl rfl (decide_eq_true h3) (o_skip rfl rfl (decide_eq_true h3) (o_skip rfl rfl (decide_eq_true h3) (o_skip rfl rfl (decide_eq_true h3) ?_))))
    refine o_pickT Tv gn rfl (decide_eq_true h3) rfl ?_
    refine aops_end ⟨by kernel_rfl, ?_⟩
    refine hK10 _ ?_
    refine awp_condB (b := true) rfl (fun _ => ?_) (fun hh => absurd (hh.symm.trans rfl) (by decide))
    refine awp_seq fun K12 hK12 => awp_region rfl ?_
    refine o_ct c_awake6 gn f162_ rfl ?_
    refine o_as Tv rfl (aops_end (hK12 _ ?_))
    refine awp_ret ?_
    refine post_ret ⟨[Tv], ⟨AV.le_refl _, trivial⟩, rfl, ?_⟩
    first | rfl | simp [bp]
   ·refine o_loadA [Iv m.mod, Lv m.mul, Lv m.add] (Gd.yes rfl rfl (decide_eq_false h3)) f67_ rfl rfl rfl rfl rfl ?_
    refine o_move (Lv w) (Gd.yes rfl rfl (decide_eq_false h3)) rfl ?_
    refine o_loadA [bp ((rdF x).num < 0), .sl 1 (ns .i64 (digs ((rdF x).num).natAbs)), bp ((rdF x).den < 0), .sl 1 (ns .i64 (digs ((rdF x).den).natAbs))] (Gd.yes rfl rfl (decide_eq_false h3)) f111_ rfl rfl rfl rfl rfl ?_
    refine o_ct (c_l6Turns m w (rdF x) hM hW (by first | assumption | omega) (by first | assumption | omega) (by first | assumption | omega)) (Gd.yes rfl rfl (decide_eq_false h3)) f164_ rfl ?_
    refine o_notP (q := trnP m w (rdF x)) (Gd.yes rfl rfl (decide_eq_false h3)) rfl ?_
    refine o_pickF (bp (¬ (trnP m w (rdF x)))) gn rfl (decide_eq_false h3) rfl ?_
    refine aops_end ⟨by kernel_rfl, ?_⟩
    refine hK10 _ ?_
    refine awp_condQ (q := ¬ (trnP m w (rdF x))) rfl (fun h4 => ?_) (fun h4 => ?_)
    ·refine awp_seq fun K13 hK13 => awp_region rfl ?_
     refine o_ct c_awake6 gn f162_ rfl ?_
     refine o_as Tv rfl (aops_end (hK13 _ ?_))
     refine awp_ret ?_
     refine post_ret ⟨[Tv], ⟨AV.le_refl _, trivial⟩, rfl, ?_⟩
     first | rfl | simp [bp]
    ·refine awp_skip (hK9 _ (awp_seq fun K14 hK14 => awp_region rfl ?_))
     refine o_loadA [Sv (x.num), Sv (x.den)] gn f93_ rfl rfl rfl rfl rfl ?_
     refine o_loadA [Sv ((frT (fixZ m w)).num), Sv ((frT (fixZ m w)).den)] gn f93_ rfl rfl rfl rfl rfl ?_
     refine o_eqlA [.string (x.num), .string (x.den)] [.string ((frT (fixZ m w)).num), .string ((frT (fixZ m w)).den)] ((x.num) = ((frT (fixZ m w)).num) ∧ (x.den) = ((frT (fixZ m w)).den)) gn rfl rfl (eq_api_Frac _ _ _ _) ?_
     refine o_mv (bp ((x.num) = ((frT (fixZ m w)).num) ∧ (x.den) = ((frT (fixZ m w)).den))) rfl ?_
     refine o_splitP (q := (x.num) = ((frT (fixZ m w)).num) ∧ (x.den) = ((frT (fixZ m w)).den)) 82 rfl (fun h5 => ?_) (fun h5 => ?_)
     ·refine o_ct c_awake6 (Gd.yes rfl rfl (decide_eq_true h5)) f162_ rfl ?_
      refine o_pickT Tv gn rfl (decide_eq_true h5) rfl ?_
      refine o_as Tv rfl (aops_end (hK14 _ ?_))
      refine awp_ret ?_
      refine post_ret ⟨[Tv], ⟨AV.le_refl _, trivial⟩, rfl, ?_⟩
      first | rfl | simp [bp]
     ·exact absurd (rd_back hr (fix_uniq hM hf hW.1 hne t3 (Decidable.not_not.1 h4).2)) h5

end Go.Proofs.YtdmkejloknejdaaGreatDoor

namespace Go.Proofs.YtdmkejloknejdaaGreatDoor.cycleFixed
open Go Go.Ab Go.Mth Go.ChangeShapes Go.WideShapes Go.ChangeAt Go.RowKit
noncomputable def laid5 : List (String × DataW Unit) := [("math/bits.deBruijn32tab", Rows.laid_math_bits_deBruijn32tab), ("math/bits.deBruijn64tab", Rows.laid_math_bits_deBruijn64tab), ("internal/strconv.uint64pow10", Rows.laid_internal_strconv_uint64pow10)]
theorem laid5_met {W : World} (h : laidMetH Tryz.prog laid5 W) : laidMet Tryz.prog laid5 W := (MakeChecks.laidMetH_plain _ _ _ (by kernel_rfl)).mp h
theorem laid5_tab {W : World} (h : laidMet Tryz.prog laid5 W) : laidMet Tryz.prog (("internal/strconv.uint64pow10", Lib.tabData .u64 Lib.pow10Tab) :: []) W := h.tail.tail
set_option maxRecDepth 100000 in
theorem tabG_of {W : World} (h : laidMetH Tryz.prog laid5 W) : TabG (memOf W) :=
 var_mem gTab (Lib.tabIs_of_head gTab gTabType uTab uElTab cElTab cTab (laid5_tab (laid5_met h)))
theorem reads (os : Os) {H : Type} (enc : TypeId × Value → H) : ∃ places, DataW.whole enc Tryz.prog ((World.laidAll Tryz.prog os laid5).forCall (fun _ _ => 0) ⟨#[], #[.agg #[.int .i64 0, .slice none 0 0, .slice none 0 0], .slice none 0 0, .agg #[.string ByteArray.empty, .string ByteArray.empty]], []⟩).memory Tryz.f4.params.toList Rows.cycleFixedSpec.vars false (#[.agg #[.int .i64 0, .slice none 0 0, .slice none 0 0], .slice none 0 0, .agg #[.string ByteArray.empty, .string ByteArray.empty]] : Array Value).toList 8 = some ([.agg [.lit (.int .i64 0), .nil, .nil], .nil, .agg [.lit (.string []), .lit (.string [])]], [], places) := ⟨[], by kernel_rfl⟩
theorem met (os : Os) : laidMetH Tryz.prog laid5 ((World.laidAll Tryz.prog os laid5).forCall (fun _ _ => 0) ⟨#[], #[.agg #[.int .i64 0, .slice none 0 0, .slice none 0 0], .slice none 0 0, .agg #[.string ByteArray.empty, .string ByteArray.empty]], []⟩).memory := (MakeChecks.laidMetH_plain _ _ _ (by kernel_rfl)).mpr (laidMet_laidAll _ (by kernel_rfl) (by kernel_rfl))
theorem specs {H : Type} (ds : List (DataW H)) (h : ds.length = 3) : (Rows.cycleFixedSpec.fn H ds).results = [.lit (.bool true)] ∧ (Rows.cycleFixedSpec.fn H ds).args = ds ∧ (Rows.cycleFixedSpec.fn H ds).vars = [] := by
 rcases ds with _ | ⟨d0, _ | ⟨d1, _ | ⟨d2, _ | ⟨e, t⟩⟩⟩⟩ <;> simp at h <;> exact ⟨rfl, rfl, rfl⟩
set_option maxRecDepth 100000 in
theorem opened {H : Type} (enc : TypeId × Value → H) (W : World) (base : Nat) (args : Array Value) (ds : List (DataW H)) (ps : List MemPlace) (hval : ∀ (j : Nat) t v, (#[24, 22, 45] : Array TypeId)[j]? = some t → args[j]? = some v → Value.okWide Tryz.prog W .any base t v)
  (hA : DataW.TrodAll enc Tryz.prog W 0 (fun _ => true) true [24, 22, 45] args.toList ds ps) (hsz : (DataW.weightsEach Tryz.prog [24, 22, 45] ds).all (· ≤ reachBytes) = true) : ∃ xs, RepL (memOf W) xs noLoc args.toList ∧ ECalls cx 4 xs (.lit (.bool true)) := by
 obtain ⟨v0, vs0, d0, ds0, p0, q0, hargs, rfl, rfl, h0, r0⟩ := trodAll_cons hA
 obtain ⟨v1, vs1, d1, ds1, p1, q1, rfl, rfl, rfl, h1, r1⟩ := trodAll_cons r0
 obtain ⟨v2, vs2, d2, ds2, p2, q2, rfl, rfl, rfl, h2, r2⟩ := trodAll_cons r1
 obtain ⟨rfl, rfl, rfl⟩ := trodAll_nil r2
 obtain rfl : args = #[v0, v1, v2] := by cases args; simp_all
 obtain ⟨m0, e0, b0, c0⟩ := rep_map (hval 0 24 v0 rfl rfl) h0 (fun n hn => by simpa using List.all_eq_true.1 hsz n (DataW.weights_mem_each (j := 0) rfl rfl n hn))
 obtain ⟨l1, e1, b1⟩ := rep_list (hval 1 22 v1 rfl rfl) h1 (fun n hn => by simpa using List.all_eq_true.1 hsz n (DataW.weights_mem_each (j := 1) rfl rfl n hn))
 obtain ⟨x2, y2, e2, b2, c2⟩ := rep_frac (hval 2 45 v2 rfl rfl) h2
 exact ⟨[mapV m0, .sl 1 (is .i64 l1), .agg [.lit (.string x2), .lit (.string y2)]], RepL.cons e0 (RepL.cons e1 (RepL.cons e2 (by simp only [RepL]))), c_CycleFixed m0 l1 ⟨x2, y2⟩ b0 c0 b1 b2 c2⟩
set_option maxRecDepth 100000 in
theorem lifted (os : Os) (started : os.Started) (H : Type) (enc : TypeId × Value → H) (F : Stop.Interp) :
  ReturnsInHanded {} Tryz.checked os 4 .any ((OpenSpec.ofChange Rows.cycleFixedSpec).preRow enc Tryz.prog Tryz.f4 Rows.cycleFixedRow.domain false Rows.cycleFixedRow.laid) (((OpenSpec.ofChange Rows.cycleFixedSpec).at F).post enc Tryz.prog Tryz.f4 false true false false) := by
 obtain ⟨places, hx⟩ := reads os enc
 refine lifted_of (C := Tryz.checked) started cx rfl ownT (by kernel_rfl) Tryz.func4 (witness_laid #[.agg #[.int .i64 0, .slice none 0 0, .slice none 0 0], .slice none 0 0, .agg #[.string ByteArray.empty, .string ByteArray.empty]] (by kernel_rfl) (by kernel_rfl) (by kernel_rfl) (OpenSpec.preRow_of_cond 8 hx (by kernel_rfl) (fun k hk => by cases hk) (by kernel_rfl) (met os))) laidOutT (by kernel_rfl) (tb := 4) (by kernel_rfl) u4T rfl (fun ds h => specs ds (h.trans (by kernel_rfl))) (fun W h => tabG_of h) ?_
 intro W base args ds ps hval hA hsz
 exact opened enc W base args ds ps hval hA hsz
theorem said : Rows.CycleFixedSaid :=
 OpenClaim.holds_of_cond 4 Tryz.f4 rfl rfl rfl rfl rfl rfl rfl ⟨rfl, rfl, rfl, rfl, rfl⟩ rfl rfl rfl rfl rfl (by kernel_rfl) Tryz.func4 (by kernel_rfl)
  (of_decide_eq_true (by kernel_rfl)) (by unfold Func.isWrapper; first | (rw [if_pos (by decide +kernel)]; kernel_rfl) | (rw [if_neg (by decide +kernel)]; exact ⟨rfl, rfl⟩))
  (fun os started H enc _ F => by rw [OpenClaim.pre_eq_preRow]; exact lifted os started H enc F)
theorem plain (f : FuncId) (fn : Func) (hf : Tryz.pinned.checked.prog.funcNamed "katabasis/katabasislaw06.CycleFixed" = some f) (hfn : Tryz.pinned.checked.prog.funcs[f]? = some fn) :
  true = Tryz.pinned.checked.prog.looks [] ∧ ∀ (j : Nat) t, fn.params[j]? = some t → Tryz.pinned.checked.prog.wantsStandIn t = false := by
 obtain rfl : f = 4 := Option.some.inj ((show Tryz.prog.funcNamed "katabasis/katabasislaw06.CycleFixed" = some 4 by kernel_rfl).symm.trans hf) |>.symm
 obtain rfl : fn = Tryz.f4 := (Option.some.inj (Tryz.func4.symm.trans hfn)).symm
 refine ⟨by kernel_rfl, fun j t ht => ?_⟩
 rw [Tryz.params4] at ht
 have : t = 24 ∨ t = 22 ∨ t = 45 := by have h := Array.mem_of_getElem? ht; simp at h; first | exact h | (rcases h with h | h | h | h <;> simp [h]) | (rcases h with h | h | h <;> simp [h]) | (rcases h with h | h <;> simp [h])
 rcases this with rfl | rfl | rfl
 ·exact (show Tryz.prog.wantsStandIn 24 = false by kernel_rfl)
 ·exact (show Tryz.prog.wantsStandIn 22 = false by kernel_rfl)
 ·exact (show Tryz.prog.wantsStandIn 45 = false by kernel_rfl)
end Go.Proofs.YtdmkejloknejdaaGreatDoor.cycleFixed
namespace Go.Proofs.YtdmkejloknejdaaGreatDoor
open Go
theorem cycleFixed_holds : Rows.CycleFixedCardSaid :=
 Claim7.holds_tied_plain_at .later [] _ _ _ _ cycleFixed.said (fun _ h => by cases h) (by kernel_rfl) (fun _ h => by cases h) cycleFixed_row_tie rfl ⟨rfl, rfl⟩ (by kernel_rfl) rfl cycleFixed.plain (by kernel_rfl)
#print axioms cycleFixed_holds
end Go.Proofs.YtdmkejloknejdaaGreatDoor

