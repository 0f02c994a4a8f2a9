/- What the proof of a row of this seat leans on (part 4 of 5): a library of abstract values, walks of functions, and plain laws. -/
import Derived.Test.YtaeknciienkijaaPkTopLongc
set_option linter.unusedVariables false
set_option linter.unusedSimpArgs false
namespace Go.Proofs.Ytaeknciienkijaa
open Go Go.Ab Go.Mth
theorem c_rValid (a : ByteArray) (hsz : a.size ≤ 9223372036854775807) : ECalls cx 17 [Sv a] (.lit (.bool (okS a))) := by
 refine ecalls_of_awp Try.func17 (c := _) rfl (Nat.le_of_ble_eq_true rfl) ?_
 show awp cx 51 _ (postF cx Try.f17 _) ⟨[(0, Sv a)], []⟩
 refine awp_seq fun K0 hK0 => awp_region rfl (o_as Fv rfl (aops_end (hK0 _ (awp_seq fun K1 hK1 => awp_region rfl (o_mv (Sv a) rfl ?_)))))
 refine n_lenS a gn rfl f37_ ?_
 refine o_as (Nv (a.size)) rfl (aops_end (hK1 _ (awp_seq fun K2 hK2 => awp_region rfl (o_as (Nv 0) rfl (aops_end (hK2 _ ?_))))))
 refine awp_seqJ (J := fun σ => True ∧ σ = ⟨[(0, Sv a), (3, Nv (a.size - sgnAt a)), (4, Nv (sgnAt a))], []⟩) ?ja0 ?jb0
 case ja0 =>
  refine awp_seq fun K3 hK3 => awp_region rfl (o_mv (Sv a) rfl ?_)
  refine o_neqS (a := a) (c := Ev) gn rfl rfl ?_
  refine o_mv (bp (a.toList ≠ Ev.toList)) rfl ?_
  refine o_splitP (q := a.toList ≠ Ev.toList) 10 rfl (fun h1 => ?_) (fun h1 => ?_)
  ·refine o_move (Sv a) (Gd.yes rfl rfl (decide_eq_true h1)) rfl ?_
   refine n_indexS a 0 (Gd.yes rfl rfl (decide_eq_true h1)) f37_ rfl rfl (by have := mt str_nil.2 h1; omega) ?_
   refine n_eql (byt a 0) 45 (Gd.yes rfl rfl (decide_eq_true h1)) rfl rfl ?_
   refine o_pickT (bp ((byt a 0) = 45)) gn rfl (decide_eq_true h1) rfl ?_
   refine aops_end (hK3 _ ?_)
   refine awp_condQ (q := (byt a 0) = 45) rfl (fun h2 => ?_) (fun h2 => ?_)
   ·refine awp_seq fun K4 hK4 => awp_region rfl (o_mv (Nv (a.size)) rfl ?_)
    refine n_sub (a.size) 1 gn rfl rfl (by have := mt str_nil.2 h1; omega) (by simp only [topOf]; omega) ?_
    refine o_as (Nv ((a.size) - 1)) rfl (aops_end (hK4 _ (awp_region rfl (o_as (Nv 1) rfl (aops_end ?_)))))
    have hs : sgnAt a = 1 := if_pos h2
    have hne := mt str_nil.2 h1
    exact ⟨_, ⟨trivial, rfl⟩, Wk.sub ⟨rfl, (by first | rfl | exact nm_int (by omega)), (by first | rfl | exact nm_int (by omega)), trivial⟩ trivial⟩
   ·refine awp_skip ?_
    have hs : sgnAt a = 0 := if_neg h2
    exact ⟨_, ⟨trivial, rfl⟩, Wk.sub ⟨rfl, (by first | rfl | exact nm_int (by omega)), (by first | rfl | exact nm_int (by omega)), trivial⟩ trivial⟩
  ·refine o_skip rfl rfl (decide_eq_false h1) (o_skip rfl rfl (decide_eq_false h1) (o_skip rfl rfl (decide_eq_false h1) ?_))
   refine o_pickF Fv gn rfl (decide_eq_false h1) rfl ?_
   refine aops_end (hK3 _ ?_)
   refine awp_condB (b := false) rfl (fun hh => absurd (hh.symm.trans rfl) (by decide)) (fun _ => ?_)
   refine awp_skip ?_
   have hs : sgnAt a = 0 := if_neg (by rw [byt_nil (str_nil.1 (Decidable.not_not.1 h1))]; decide)
   exact ⟨_, ⟨trivial, rfl⟩, Wk.sub ⟨rfl, (by first | rfl | exact nm_int (by omega)), (by first | rfl | exact nm_int (by omega)), trivial⟩ trivial⟩
 rintro _ ⟨-, rfl⟩
 have hs1 : sgnAt a ≤ 1 := by unfold sgnAt; split <;> omega
 refine awp_seq fun K5 hK5 => awp_seq fun K6 hK6 => awp_region rfl (o_mv (Nv (a.size - sgnAt a)) rfl ?_)
 refine n_lss (a.size - sgnAt a) 1 gn rfl rfl ?_
 refine o_mv (bp ((a.size - sgnAt a) < 1)) rfl ?_
 refine o_splitP (q := (a.size - sgnAt a) < 1) 19 rfl (fun h3 => ?_) (fun h3 => ?_)
 ·refine o_skip rfl rfl (decide_eq_true h3) (o_skip rfl rfl (decide_eq_true h3) ?_)
  refine o_pickT Tv gn rfl (decide_eq_true h3) rfl ?_
  refine o_mv Tv rfl (o_skip rfl rfl rfl (o_skip rfl rfl rfl (o_skip rfl rfl rfl (o_skip rfl rfl rfl (o_skip rfl rfl rfl (o_skipU rfl rfl (o_skipU rfl rfl (o_skipU rfl rfl (o_skip rfl rfl rfl ?_)))))))))
  refine o_pickT Tv gn rfl rfl rfl ?_
  refine aops_end (hK6 _ ?_)
  refine awp_condB (b := true) rfl (fun _ => ?_) (fun hh => absurd (hh.symm.trans rfl) (by decide))
  refine awp_seq fun K7 hK7 => awp_region rfl (o_as Fv rfl (aops_end (hK7 _ ?_)))
  refine awp_ret ?_
  refine post_ret ⟨[Fv], ⟨AV.le_refl _, trivial⟩, rfl, ?_⟩
  refine bl_eq (okS_no fun h => ?_)
  obtain ⟨o1, o2, o3, o4⟩ := h
  first | omega | (have := o4 i (by omega) (by omega); omega)
 ·refine o_move (Nv (a.size - sgnAt a)) (Gd.yes rfl rfl (decide_eq_false h3)) rfl ?_
  refine n_gtr (a.size - sgnAt a) 2000 (Gd.yes rfl rfl (decide_eq_false h3)) rfl rfl ?_
  refine o_pickF (bp (2000 < (a.size - sgnAt a))) gn rfl (decide_eq_false h3) rfl ?_
  refine o_mv (bp (2000 < (a.size - sgnAt a))) rfl ?_
  refine o_splitP (q := 2000 < (a.size - sgnAt a)) 23 rfl (fun h4 => ?_) (fun h4 => ?_)
  ·refine o_skip rfl rfl (decide_eq_true h4) (o_skip rfl rfl (decide_eq_true h4) (o_skip rfl rfl (decide_eq_true h4) (o_skip rfl rfl (decide_eq_true h4) (o_skip rfl rfl (decide_eq_true h4) (o_skipU rfl rfl (o_skipU rfl rfl (o_skipU rfl rfl (o_skip rfl rfl (decide_eq_true h4) ?_))))))))
   refine o_pickT Tv gn rfl (decide_eq_true h4) rfl ?_
   refine aops_end (hK6 _ ?_)
   refine awp_condB (b := true) rfl (fun _ => ?_) (fun hh => absurd (hh.symm.trans rfl) (by decide))
   refine awp_seq fun K8 hK8 => awp_region rfl (o_as Fv rfl (aops_end (hK8 _ ?_)))
   refine awp_ret ?_
   refine post_ret ⟨[Fv], ⟨AV.le_refl _, trivial⟩, rfl, ?_⟩
   refine bl_eq (okS_no fun h => ?_)
   obtain ⟨o1, o2, o3, o4⟩ := h
   first | omega | (have := o4 i (by omega) (by omega); omega)
  ·refine o_move (Sv a) (Gd.yes rfl rfl (decide_eq_false h4)) rfl (o_move (Nv (sgnAt a)) (Gd.yes rfl rfl (decide_eq_false h4)) rfl ?_)
   refine n_indexS a (sgnAt a) (Gd.yes rfl rfl (decide_eq_false h4)) f37_ rfl rfl (by omega) ?_
   refine n_eql (byt a (sgnAt a)) 48 (Gd.yes rfl rfl (decide_eq_false h4)) rfl rfl ?_
   refine o_move (bp ((byt a (sgnAt a)) = 48)) (Gd.yes rfl rfl (decide_eq_false h4)) rfl ?_
   refine o_splitP (q := (byt a (sgnAt a)) = 48) 28 rfl (fun h5 => ?_) (fun h5 => ?_)
   ·refine o_move (Sv a) (Gd.yes rfl rfl (decide_eq_true h5)) rfl ?_
    refine n_lenS a (Gd.yes rfl rfl (decide_eq_true h5)) rfl f37_ ?_
    refine n_gtr (a.size) 1 (Gd.yes rfl rfl (decide_eq_true h5)) rfl rfl ?_
    refine o_pickT (bp (1 < (a.size))) (Gd.yes rfl rfl (decide_eq_false h4)) rfl (decide_eq_true h5) rfl ?_
    refine o_pickF (bp (1 < (a.size))) gn rfl (decide_eq_false h4) rfl ?_
    refine aops_end (hK6 _ ?_)
    refine awp_condQ (q := 1 < (a.size)) rfl (fun h6 => ?_) (fun h6 => ?_)
    ·refine awp_seq fun K9 hK9 => awp_region rfl (o_as Fv rfl (aops_end (hK9 _ ?_)))
     refine awp_ret ?_
     refine post_ret ⟨[Fv], ⟨AV.le_refl _, trivial⟩, rfl, ?_⟩
     refine bl_eq (okS_no fun h => ?_)
     obtain ⟨o1, o2, o3, o4⟩ := h
     first | omega | (have := o4 i (by omega) (by omega); omega)
    ·refine awp_skip (hK5 _ (awp_seq fun K10 hK10 => awp_seq fun K11 hK11 => awp_region rfl (o_mv (Nv (sgnAt a)) rfl (o_as (Nv (sgnAt a)) rfl (aops_end (hK11 _ ?_))))))
     refine awp_block ?_
     refine awp_loopR (fun κ σ => ∃ (i : Nat), (sgnAt a ≤ i) ∧ (i ≤ a.size) ∧ (∀ k, sgnAt a ≤ k → k < i → 48 ≤ byt a k ∧ byt a k ≤ 57) ∧ (a.size - i) = κ ∧ σ = ⟨[(0, Sv a), (5, Nv i)], []⟩) ⟨_, _, ⟨sgnAt a, (by omega), (by omega), (fun k h1 h2 => by omega), rfl, rfl⟩, ?wk1⟩ ?rd1
     case wk1 =>
      exact Wk.sub ⟨rfl, (by first | rfl | exact nm_int (by omega)), trivial⟩ trivial
     rintro κ _ ⟨i, hi, hi2, hv, rfl, rfl⟩
     refine awp_seq fun K12 hK12 => awp_seq fun K13 hK13 => awp_region rfl (o_mv (Nv i) rfl (o_mv (Sv a) rfl ?_))
     refine n_lenS a gn rfl f37_ ?_
     refine n_lss i (a.size) gn rfl rfl ?_
     refine aops_end (hK13 _ ?_)
     refine awp_condQ (q := i < (a.size)) rfl (fun h7 => ?_) (fun h7 => ?_)
     ·refine awp_skip (hK12 _ (awp_seq fun K14 hK14 => ?_))
      refine awp_block ?_
      refine awp_seq fun K15 hK15 => awp_region rfl (o_mv (Sv a) rfl (o_mv (Nv i) rfl ?_))
      refine n_indexS a i gn f37_ rfl rfl (by omega) ?_
      refine n_lss (byt a i) 48 gn rfl rfl ?_
      refine o_mv (bp ((byt a i) < 48)) rfl ?_
      refine o_splitP (q := (byt a i) < 48) 45 rfl (fun h8 => ?_) (fun h8 => ?_)
      ·refine o_skip rfl rfl (decide_eq_true h8) (o_skip rfl rfl (decide_eq_true h8) (o_skip rfl rfl (decide_eq_true h8) (o_skip rfl rfl (decide_eq_true h8) ?_)))
       refine o_pickT Tv gn rfl (decide_eq_true h8) rfl ?_
       refine aops_end (hK15 _ ?_)
       refine awp_condB (b := true) rfl (fun _ => ?_) (fun hh => absurd (hh.symm.trans rfl) (by decide))
       refine awp_seq fun K16 hK16 => awp_region rfl (o_as Fv rfl (aops_end (hK16 _ ?_)))
       refine awp_ret ?_
       refine post_ret ⟨[Fv], ⟨AV.le_refl _, trivial⟩, rfl, ?_⟩
       refine bl_eq (okS_no fun h => ?_)
       obtain ⟨o1, o2, o3, o4⟩ := h
       first | omega | (have := o4 i (by omega) (by omega); omega)
      ·refine o_move (Sv a) (Gd.yes rfl rfl (decide_eq_false h8)) rfl (o_move (Nv i) (Gd.yes rfl rfl (decide_eq_false h8)) rfl ?_)
       refine n_indexS a i (Gd.yes rfl rfl (decide_eq_false h8)) f37_ rfl rfl (by omega) ?_
       refine n_gtr (byt a i) 57 (Gd.yes rfl rfl (decide_eq_false h8)) rfl rfl ?_
       refine o_pickF (bp (57 < (byt a i))) gn rfl (decide_eq_false h8) rfl ?_
       refine aops_end (hK15 _ ?_)
       refine awp_condQ (q := 57 < (byt a i)) rfl (fun h9 => ?_) (fun h9 => ?_)
       ·refine awp_seq fun K17 hK17 => awp_region rfl (o_as Fv rfl (aops_end (hK17 _ ?_)))
        refine awp_ret ?_
        refine post_ret ⟨[Fv], ⟨AV.le_refl _, trivial⟩, rfl, ?_⟩
        refine bl_eq (okS_no fun h => ?_)
        obtain ⟨o1, o2, o3, o4⟩ := h
        first | omega | (have := o4 i (by omega) (by omega); omega)
       ·refine awp_skip (hK14 _ (awp_region rfl (o_mv (Nv i) rfl ?_)))
        refine n_add i 1 gn rfl rfl (by simp only [topOf]; omega) ?_
        refine o_as (Nv (i + 1)) rfl (aops_end ?_)
        refine ⟨_, _, ?lt, ⟨i + 1, (by omega), (by omega), (fun k hk1 hk2 => by by_cases e : k = i; subst e; omega; exact hv k hk1 (by omega)), rfl, rfl⟩, ?wk⟩
        case lt => omega
        case wk => exact Wk.sub ⟨rfl, (by first | rfl | exact nm_int (by omega)), trivial⟩ trivial
     ·refine awp_exit ?_
      refine hK10 _ (awp_seq fun K18 hK18 => awp_region rfl (o_as Tv rfl (aops_end (hK18 _ ?_))))
      refine awp_ret ?_
      refine post_ret ⟨[Tv], ⟨AV.le_refl _, trivial⟩, rfl, ?_⟩
      refine bl_eq (okS_yes ⟨by omega, by omega, by omega, fun k hk1 hk2 => hv k hk1 (by omega)⟩)
   ·refine o_skip rfl rfl (decide_eq_false h5) (o_skip rfl rfl (decide_eq_false h5) (o_skip rfl rfl (decide_eq_false h5) ?_))
    refine o_pickF Fv (Gd.yes rfl rfl (decide_eq_false h4)) rfl (decide_eq_false h5) rfl ?_
    refine o_pickF Fv gn rfl (decide_eq_false h4) rfl ?_
    refine aops_end (hK6 _ ?_)
    refine awp_condB (b := false) rfl (fun hh => absurd (hh.symm.trans rfl) (by decide)) (fun _ => ?_)
    refine awp_skip (hK5 _ (awp_seq fun K19 hK19 => awp_seq fun K20 hK20 => awp_region rfl (o_mv (Nv (sgnAt a)) rfl (o_as (Nv (sgnAt a)) rfl (aops_end (hK20 _ ?_))))))
    refine awp_block ?_
    refine awp_loopR (fun κ σ => ∃ (i : Nat), (sgnAt a ≤ i) ∧ (i ≤ a.size) ∧ (∀ k, sgnAt a ≤ k → k < i → 48 ≤ byt a k ∧ byt a k ≤ 57) ∧ (a.size - i) = κ ∧ σ = ⟨[(0, Sv a), (5, Nv i)], []⟩) ⟨_, _, ⟨sgnAt a, (by omega), (by omega), (fun k h1 h2 => by omega), rfl, rfl⟩, ?wk2⟩ ?rd2
    case wk2 =>
     exact Wk.sub ⟨rfl, (by first | rfl | exact nm_int (by omega)), trivial⟩ trivial
    rintro κ _ ⟨i, hi, hi2, hv, rfl, rfl⟩
    refine awp_seq fun K21 hK21 => awp_seq fun K22 hK22 => awp_region rfl (o_mv (Nv i) rfl (o_mv (Sv a) rfl ?_))
    refine n_lenS a gn rfl f37_ ?_
    refine n_lss i (a.size) gn rfl rfl ?_
    refine aops_end (hK22 _ ?_)
    refine awp_condQ (q := i < (a.size)) rfl (fun h10 => ?_) (fun h10 => ?_)
    ·refine awp_skip (hK21 _ (awp_seq fun K23 hK23 => ?_))
     refine awp_block ?_
     refine awp_seq fun K24 hK24 => awp_region rfl (o_mv (Sv a) rfl (o_mv (Nv i) rfl ?_))
     refine n_indexS a i gn f37_ rfl rfl (by omega) ?_
     refine n_lss (byt a i) 48 gn rfl rfl ?_
     refine o_mv (bp ((byt a i) < 48)) rfl ?_
     refine o_splitP (q := (byt a i) < 48) 45 rfl (fun h11 => ?_) (fun h11 => ?_)
     ·refine o_skip rfl rfl (decide_eq_true h11) (o_skip rfl rfl (decide_eq_true h11) (o_skip rfl rfl (decide_eq_true h11) (o_skip rfl rfl (decide_eq_true h11) ?_)))
      refine o_pickT Tv gn rfl (decide_eq_true h11) rfl ?_
      refine aops_end (hK24 _ ?_)
      refine awp_condB (b := true) rfl (fun _ => ?_) (fun hh => absurd (hh.symm.trans rfl) (by decide))
      refine awp_seq fun K25 hK25 => awp_region rfl (o_as Fv rfl (aops_end (hK25 _ ?_)))
      refine awp_ret ?_
      refine post_ret ⟨[Fv], ⟨AV.le_refl _, trivial⟩, rfl, ?_⟩
      refine bl_eq (okS_no fun h => ?_)
      obtain ⟨o1, o2, o3, o4⟩ := h
      first | omega | (have := o4 i (by omega) (by omega); omega)
     ·refine o_move (Sv a) (Gd.yes rfl rfl (decide_eq_false h11)) rfl (o_move (Nv i) (Gd.yes rfl rfl (decide_eq_false h11)) rfl ?_)
      refine n_indexS a i (Gd.yes rfl rfl (decide_eq_false h11)) f37_ rfl rfl (by omega) ?_
      refine n_gtr (byt a i) 57 (Gd.yes rfl rfl (decide_eq_false h11)) rfl rfl ?_
      refine o_pickF (bp (57 < (byt a i))) gn rfl (decide_eq_false h11) rfl ?_
      refine aops_end (hK24 _ ?_)
      refine awp_condQ (q := 57 < (byt a i)) rfl (fun h12 => ?_) (fun h12 => ?_)
      ·refine awp_seq fun K26 hK26 => awp_region rfl (o_as Fv rfl (aops_end (hK26 _ ?_)))
       refine awp_ret ?_
       refine post_ret ⟨[Fv], ⟨AV.le_refl _, trivial⟩, rfl, ?_⟩
       refine bl_eq (okS_no fun h => ?_)
       obtain ⟨o1, o2, o3, o4⟩ := h
       first | omega | (have := o4 i (by omega) (by omega); omega)
      ·refine awp_skip (hK23 _ (awp_region rfl (o_mv (Nv i) rfl ?_)))
       refine n_add i 1 gn rfl rfl (by simp only [topOf]; omega) ?_
       refine o_as (Nv (i + 1)) rfl (aops_end ?_)
       refine ⟨_, _, ?lt, ⟨i + 1, (by omega), (by omega), (fun k hk1 hk2 => by by_cases e : k = i; subst e; omega; exact hv k hk1 (by omega)), rfl, rfl⟩, ?wk⟩
       case lt => omega
       case wk => exact Wk.sub ⟨rfl, (by first | rfl | exact nm_int (by omega)), trivial⟩ trivial
    ·refine awp_exit ?_
     refine hK19 _ (awp_seq fun K27 hK27 => awp_region rfl (o_as Tv rfl (aops_end (hK27 _ ?_))))
     refine awp_ret ?_
     refine post_ret ⟨[Tv], ⟨AV.le_refl _, trivial⟩, rfl, ?_⟩
     refine bl_eq (okS_yes ⟨by omega, by omega, by omega, fun k hk1 hk2 => hv k hk1 (by omega)⟩)

theorem c_rParse (a : ByteArray) (hok : OkS a) : ECalls cx 8 [Sv a] (intR (numS a)) := by
 refine ecalls_of_awp Try.func8 (c := _) rfl (Nat.le_of_ble_eq_true rfl) ?_
 show awp cx 44 _ (postF cx Try.f8 _) ⟨[(0, Sv a)], []⟩
 obtain ⟨o1, o2, o3, o4⟩ := hok
 have hs1 : sgnAt a ≤ 1 := by unfold sgnAt; split <;> omega
 refine awp_seq fun K0 hK0 => awp_region rfl ?_
 refine o_alloc 2 [Fv, Zv] gn f53_ rfl rfl rfl ?_
 refine aops_end (hK0 _ (awp_seq fun K1 hK1 => awp_region rfl (o_mv (Sv a) rfl ?_)))
 refine n_indexS a 0 gn f37_ rfl rfl (by omega) ?_
 refine n_eql (byt a 0) 45 gn rfl rfl ?_
 refine o_as (bp ((byt a 0) = 45)) rfl (aops_end (hK1 _ (awp_seq fun K2 hK2 => awp_region rfl (o_as (Nv 0) rfl (aops_end (hK2 _ ?_))))))
 refine awp_seqJ (J := fun σ => True ∧ σ = ⟨[(0, Sv a), (2, .ref 2 0), (3, bp (byt a 0 = 45)), (4, Nv (sgnAt a))], [(2, .var 31 [Fv, Zv])]⟩) ?ja0 ?jb0
 case ja0 =>
  refine awp_seq fun K3 hK3 => awp_region rfl (o_mv (bp ((byt a 0) = 45)) rfl (aops_end (hK3 _ ?_)))
  refine awp_condQ (q := (byt a 0) = 45) rfl (fun h1 => ?_) (fun h1 => ?_)
  ·refine awp_region rfl (o_as (Nv 1) rfl (aops_end ?_))
   have hs : sgnAt a = 1 := if_pos h1
   exact ⟨_, ⟨trivial, rfl⟩, Wk.sub ⟨rfl, rfl, (by first | rfl | exact bp_congr (by first | omega | simp) | exact bl_bp (by first | omega | simp)), (by first | rfl | exact nm_int (by omega)), trivial⟩ ⟨rfl, trivial⟩⟩
  ·refine awp_skip ?_
   have hs : sgnAt a = 0 := if_neg h1
   exact ⟨_, ⟨trivial, rfl⟩, Wk.sub ⟨rfl, rfl, (by first | rfl | exact bp_congr (by first | omega | simp) | exact bl_bp (by first | omega | simp)), (by first | rfl | exact nm_int (by omega)), trivial⟩ ⟨rfl, trivial⟩⟩
 rintro _ ⟨-, rfl⟩
 refine awp_seq fun K4 hK4 => awp_region rfl (o_as Zv rfl (aops_end (hK4 _ (awp_seq fun K5 hK5 => awp_seq fun K6 hK6 => awp_region rfl (o_mv (Sv a) rfl ?_)))))
 refine n_lenS a gn rfl f37_ ?_
 refine o_as (Nv (a.size)) rfl (aops_end (hK6 _ ?_))
 refine awp_block ?_
 refine awp_loopR (fun κ σ => ∃ (E : Int), ∃ (L : List Nat), (E ≤ a.size) ∧ (Dig L) ∧ ((sgnAt a : Int) < E → L.length * 9 = a.size - E.toNat) ∧ (L.length ≤ 2000) ∧ (val L = dvk a (max (sgnAt a) E.toNat) (a.size - max (sgnAt a) E.toNat)) ∧ E.toNat = κ ∧ σ = ⟨[(0, Sv a), (2, .ref 2 0), (3, bp (byt a 0 = 45)), (4, Nv (sgnAt a)), (5, .row 3), (6, Iv E)], [(2, .var 31 [Fv, Zv]), (3, .row 3 1 (ns .i64 L))]⟩) ⟨_, _, ⟨(a.size : Int), [], (by omega), Dig.nil, (by intro _; simp), (by simp), (by rw [show max (sgnAt a) (a.size : Int).toNat = a.size by omega]; simp [val, dvk]), rfl, rfl⟩, ?wk1⟩ ?rd1
 case wk1 =>
  exact Wk.trans (Wk.newNil (i := 5) (id := 601) (e := 3) (sz := 1) rfl rfl (by decide)) (Wk.trans (Wk.sub (σ' := ⟨[(0, Sv a), (2, .ref 2 0), (3, bp (byt a 0 = 45)), (4, Nv (sgnAt a)), (5, .row 601), (6, Nv (a.size))], [(2, .var 31 [Fv, Zv]), (601, .row 3 1 (ns .i64 ([])))]⟩) ⟨rfl, rfl, rfl, rfl, rfl, rfl, trivial⟩ ⟨rfl, rfl, trivial⟩) (Wk.trans (Wk.ren (id := 601) (id' := 3) rfl) (Wk.sub ⟨rfl, rfl, rfl, rfl, (by first | rfl | simp), (by first | rfl | exact int_eq (by omega) | exact int_nm (by omega)), trivial⟩ ⟨rfl, (by first | rfl | exact row_ns (by simp)), trivial⟩)))
 rintro κ _ ⟨E, L, hE, hd, hl, hl2, hv, rfl, rfl⟩
 refine awp_seq fun K7 hK7 => awp_seq fun K8 hK8 => awp_region rfl (o_mv (Iv E) rfl (o_mv (Nv (sgnAt a)) rfl ?_))
 refine o_gtr (a := E) (c := ((sgnAt a : Nat) : Int)) gn rfl rfl ?_
 refine aops_end (hK8 _ ?_)
 refine awp_condQ (q := ((sgnAt a : Nat) : Int) < E) rfl (fun h2 => ?_) (fun h2 => ?_)
 ·refine awp_wk (Wk.slot (i := 6) (y := (Nv E.toNat)) (AV.le_eq (by exact nm_int (by omega)))) ?_
  refine awp_skip (hK7 _ (awp_seq fun K9 hK9 => ?_))
  refine awp_block ?_
  refine awp_seq fun K10 hK10 => awp_region rfl (o_as (Nv 0) rfl (aops_end (hK10 _ (awp_seq fun K11 hK11 => awp_seq fun K12 hK12 => awp_region rfl (o_mv (Nv (sgnAt a)) rfl (o_mv (Nv E.toNat) rfl ?_))))))
  refine o_sub (a := ((E.toNat : Nat) : Int)) (c := ((9 : Nat) : Int)) gn rfl rfl (by exact wrap64 (by omega) (by omega)) ?_
  refine o_max (a := ((sgnAt a : Nat) : Int)) (c := ((E.toNat : Nat) : Int) - ((9 : Nat) : Int)) gn rfl rfl (fun w => run_max _ _ w) ?_
  refine n_as (v' := (Nv (max (sgnAt a) (E.toNat - 9)))) (nm_int (by omega)) ?_
  refine o_as (Nv (max (sgnAt a) (E.toNat - 9))) rfl (aops_end (hK12 _ ?_))
  refine awp_block ?_
  refine awp_loopR (fun κ σ => ∃ (i : Nat), ∃ (q : Nat), (max (sgnAt a) (E.toNat - 9) ≤ i) ∧ (i ≤ E.toNat) ∧ (q = dvk a (max (sgnAt a) (E.toNat - 9)) (i - (max (sgnAt a) (E.toNat - 9)))) ∧ (E.toNat - i) = κ ∧ σ = ⟨[(0, Sv a), (2, .ref 2 0), (3, bp (byt a 0 = 45)), (4, Nv (sgnAt a)), (5, .row 3), (6, Nv E.toNat), (7, Nv q), (8, Nv i)], [(2, .var 31 [Fv, Zv]), (3, .row 3 1 (ns .i64 L))]⟩) ⟨_, _, ⟨max (sgnAt a) (E.toNat - 9), 0, (by omega), (by omega), (by simp [dvk]), rfl, rfl⟩, ?wk2⟩ ?rd2
  case wk2 =>
   exact Wk.sub ⟨rfl, rfl, rfl, rfl, rfl, rfl, (by first | rfl | exact nm_int (by omega)), (by first | rfl | exact nm_int (by omega)), trivial⟩ ⟨rfl, rfl, trivial⟩
  rintro κ _ ⟨i, q, hi, hi2, hq0, rfl, rfl⟩
  have hdl := dvk_lt (a := a) (s := max (sgnAt a) (E.toNat - 9)) (k := i - (max (sgnAt a) (E.toNat - 9))) fun j h1 h2 => o4 j (by omega) (by omega)
  rw [← hq0] at hdl
  have hq2 : q < 1000000000 := Nat.lt_of_lt_of_le hdl (by have := Nat.pow_le_pow_right (n := 10) (by decide) (show i - (max (sgnAt a) (E.toNat - 9)) ≤ 9 by omega); simpa using this)
  have hb := fun h => o4 i (by omega) h
  refine awp_seq fun K13 hK13 => awp_seq fun K14 hK14 => awp_region rfl (o_mv (Nv i) rfl (o_mv (Nv E.toNat) rfl ?_))
  refine n_lss i E.toNat gn rfl rfl ?_
  refine aops_end (hK14 _ ?_)
  refine awp_condQ (q := i < E.toNat) rfl (fun h3 => ?_) (fun h3 => ?_)
  ·refine awp_skip (hK13 _ (awp_seq fun K15 hK15 => ?_))
   refine awp_block ?_
   refine awp_region rfl (o_mv (Nv q) rfl ?_)
   refine n_mul 10 q gn rfl rfl (by simp only [topOf]; omega) ?_
   refine o_mv (Sv a) rfl (o_mv (Nv i) rfl ?_)
   refine n_indexS a i gn f37_ rfl rfl (by omega) ?_
   refine n_sub (byt a i) 48 gn rfl rfl (by have := hb (by omega); omega) (by have := byt_lt a i; simp only [topOf]; omega) ?_
   refine n_conv ((byt a i) - 48) gn rfl f38_ f18_ (by have := byt_lt a i; simp only [topOf]; omega) ?_
   refine n_add (10 * q) ((byt a i) - 48) gn rfl rfl (by have := byt_lt a i; simp only [topOf]; omega) ?_
   refine o_as (Nv ((10 * q) + ((byt a i) - 48))) rfl (aops_end (hK15 _ (awp_region rfl (o_mv (Nv i) rfl ?_))))
   refine n_add i 1 gn rfl rfl (by simp only [topOf]; omega) ?_
   refine o_as (Nv (i + 1)) rfl (aops_end ?_)
   refine ⟨_, _, ?lt, ⟨i + 1, (10 * q) + ((byt a i) - 48), (by omega), (by omega), (by rw [show i + 1 - (max (sgnAt a) (E.toNat - 9)) = (i - (max (sgnAt a) (E.toNat - 9))) + 1 by omega, dvk, ← hq0, show max (sgnAt a) (E.toNat - 9) + (i - (max (sgnAt a) (E.toNat - 9))) = i by omega]), rfl, rfl⟩, ?wk⟩
   case lt => omega
   case wk => exact Wk.sub ⟨rfl, rfl, rfl, rfl, rfl, rfl, (by first | rfl | exact nm_int (by omega)), (by first | rfl | exact nm_int (by omega)), trivial⟩ ⟨rfl, rfl, trivial⟩
  ·have hq : q = dvk a (max (sgnAt a) (E.toNat - 9)) (E.toNat - (max (sgnAt a) (E.toNat - 9))) := by rw [hq0, show i = E.toNat by omega]
   refine awp_exit ?_
   refine hK11 _ (awp_region rfl (o_mv (.row 3) rfl (o_mv (Nv q) rfl ?_)))
   refine o_buildSlice 301 (ns .i64 ([q])) [(0, [Nv q])] gn f54_ rfl f62_ rfl rfl rfl rfl rfl rfl rfl ?_
   refine n_append 302 L ([q]) [(301, .row 3 1 (ns .i64 ([q]))), (2, .var 31 [Fv, Zv])] gn f54_ f62_ rfl rfl rfl rfl rfl (by simp only [List.length_append, List.length_cons, List.length_nil]; omega) (by decide) rfl rfl ?_
   refine o_as (.row 302) rfl (aops_end (hK9 _ (awp_region rfl (o_mv (Nv E.toNat) rfl ?_))))
   refine o_sub (a := ((E.toNat : Nat) : Int)) (c := ((9 : Nat) : Int)) gn rfl rfl (by exact wrap64 (by omega) (by omega)) ?_
   refine o_as (Iv (((E.toNat : Nat) : Int) - ((9 : Nat) : Int))) rfl (aops_end ?_)
   refine ⟨_, _, ?lt, ⟨(E.toNat : Int) - 9, L ++ ([q]), (by omega), hd.snoc hq2, (by intro h; have := hl (by omega); simp only [List.length_append, List.length_cons, List.length_nil]; omega), (by have := hl (by omega); simp only [List.length_append, List.length_cons, List.length_nil]; omega), (by rw [hq]; rw [show max (sgnAt a) E.toNat = E.toNat by omega] at hv; have hh := parse_step (s := max (sgnAt a) (E.toNat - 9)) (by omega) (by omega) (hl (by omega)) hv; rw [show max (sgnAt a) ((E.toNat : Int) - 9).toNat = max (sgnAt a) (E.toNat - 9) by omega]; exact hh), rfl, rfl⟩, ?wk⟩
   case lt => omega
   case wk => exact Wk.trans (Wk.sub (σ' := ⟨[(0, Sv a), (2, .ref 2 0), (3, bp (byt a 0 = 45)), (4, Nv (sgnAt a)), (5, .row 302), (6, (Iv (((E.toNat : Nat) : Int) - ((9 : Nat) : Int))))], [(2, .var 31 [Fv, Zv]), (302, .row 3 1 (ns .i64 (L ++ ([q]))))]⟩) ⟨rfl, rfl, rfl, rfl, rfl, rfl, trivial⟩ ⟨rfl, rfl, trivial⟩) (Wk.trans (Wk.ren (id := 302) (id' := 3) rfl) (Wk.sub ⟨rfl, rfl, rfl, rfl, (by first | rfl | simp), (by first | rfl | exact int_eq (by omega) | exact int_nm (by omega)), trivial⟩ ⟨rfl, (by first | rfl | exact row_ns (by simp)), trivial⟩))
 ·refine awp_exit ?_
  refine hK5 _ (awp_seq fun K16 hK16 => awp_region rfl (o_mv (bp (byt a 0 = 45)) rfl (o_mv (.row 3) rfl ?_)))
  refine o_callG [(3, 1, ns .i64 L)] [bp (byt a 0 = 45), .sl 1 (ns .i64 L)] _ (intR (sg (decide (byt a 0 = 45)) (val L))) [(2, .var 31 [Fv, Zv])] gn f64_ rfl ⟨⟨_, rfl⟩, trivial⟩ rfl rfl (LeL.cons (AV.le_refl _) (LeL.cons (AV.le_refl _) LeL.nil)) (c_rTrim (decide (byt a 0 = 45)) L (by first | assumption | exact dgn_dig _ _ | exact digs_dig _ | exact Dig.snoc (by assumption) (by assumption) | exact Dig.cons (by omega) (digs_dig _))) rfl ?_
  refine o_store [(2, oZ 31 .i64 (sg (decide (byt a 0 = 45)) (val L)))] gn f57_ rfl rfl rfl rfl rfl rfl ?_
  refine aops_end (hK16 _ ?_)
  refine awp_ret ?_
  refine post_ret ⟨[intR (sg (decide (byt a 0 = 45)) (val L))], ⟨⟨2, oZ 31 .i64 (sg (decide (byt a 0 = 45)) (val L)), rfl, rfl, rfl, Or.inl ⟨f58_, AV.le_refl _⟩⟩, trivial⟩, rfl, ?_⟩
  refine congrArg (intK .i64) ?_
  rw [hv, show max (sgnAt a) E.toNat = sgnAt a by omega]
  rfl

end Go.Proofs.Ytaeknciienkijaa


namespace Go.Proofs.Ytaeknciienkijaa
open Go Go.Ab Go.Mth
end Go.Proofs.Ytaeknciienkijaa

namespace Go.Proofs.Ytaeknciienkijaa
open Go Go.Ab Go.Mth
theorem c_nValid (a : ByteArray) (hsz : a.size ≤ 9223372036854775807) : ECalls cx 40 [Sv a] (.lit (.bool (okS a))) := by
 refine ecalls_of_awp Try.func40 (c := _) rfl (Nat.le_of_ble_eq_true rfl) ?_
 show awp cx 50 _ (postF cx Try.f40 _) ⟨[(0, Sv a)], []⟩
 have hs1 : sgnAt a ≤ 1 := by unfold sgnAt; split <;> omega
 refine awp_seq fun K0 hK0 => awp_region rfl (o_as Fv rfl (aops_end (hK0 _ (awp_seq fun K1 hK1 => awp_seq fun K2 hK2 => awp_region rfl (o_mv (Sv a) rfl ?_)))))
 refine n_lenS a gn rfl f37_ ?_
 refine n_gtr (a.size) 2001 gn rfl rfl ?_
 refine aops_end (hK2 _ ?_)
 refine awp_condQ (q := 2001 < (a.size)) rfl (fun h1 => ?_) (fun h1 => ?_)
 ·refine awp_seq fun K3 hK3 => awp_region rfl (o_as Fv rfl (aops_end (hK3 _ ?_)))
  refine awp_ret ?_
  refine post_ret ⟨[Fv], ⟨AV.le_refl _, trivial⟩, rfl, ?_⟩
  refine bl_eq (okS_no fun h => ?_)
  obtain ⟨o1, o2, o3, o4⟩ := h
  first | omega | (have := str_nil.1 (by assumption); omega) | (have e := hb 0 (by omega); rw [Nat.add_zero] at e; omega) | (have e := hb 0 (by omega); have := hng1 (by assumption); rw [Nat.add_zero] at e; omega) | (have e := o4 (sgnAt a + pos) (by omega) (by omega); rw [← hb pos (by omega)] at e; have e2 := utf8_lo (a := b) (pos := pos) (by omega) (by omega); simp only [e2] at *; omega)
 ·refine awp_skip (hK1 _ ?_)
  refine awp_seqJ (J := fun σ => ∃ (ng : Bool), (ng = true → sgnAt a = 1) ∧ (ng = false → sgnAt a = 0) ∧ (ng = true → 0 < a.size) ∧ True ∧ σ = ⟨[(0, Sv a), (3, .lit (.bool ng))], []⟩) ?ja0 ?jb0
  case ja0 =>
   refine awp_region rfl (o_mv (Sv a) rfl ?_)
   refine o_neqS (a := a) (c := Ev) gn rfl rfl ?_
   refine o_mv (bp (a.toList ≠ Ev.toList)) rfl ?_
   refine o_splitP (q := a.toList ≠ Ev.toList) 11 rfl (fun h2 => ?_) (fun h2 => ?_)
   ·refine o_move (Sv a) (Gd.yes rfl rfl (decide_eq_true h2)) rfl ?_
    refine n_indexS a 0 (Gd.yes rfl rfl (decide_eq_true h2)) f37_ rfl rfl (by have := mt str_nil.2 h2; omega) ?_
    refine n_eql (byt a 0) 45 (Gd.yes rfl rfl (decide_eq_true h2)) rfl rfl ?_
    refine o_pickT (bp ((byt a 0) = 45)) gn rfl (decide_eq_true h2) rfl ?_
    refine o_as (bp ((byt a 0) = 45)) rfl (aops_end ?_)
    have hne := mt str_nil.2 h2
    exact ⟨_, ⟨decide ((byt a 0) = 45), (fun h => if_pos (of_decide_eq_true h)), (fun h => if_neg (of_decide_eq_false h)), (fun _ => by omega), trivial, rfl⟩, Wk.sub ⟨rfl, (by first | rfl | simp), trivial⟩ trivial⟩
   ·refine o_skip rfl rfl (decide_eq_false h2) (o_skip rfl rfl (decide_eq_false h2) (o_skip rfl rfl (decide_eq_false h2) ?_))
    refine o_pickF Fv gn rfl (decide_eq_false h2) rfl ?_
    refine o_as Fv rfl (aops_end ?_)
    have hs : sgnAt a = 0 := if_neg (by rw [byt_nil (str_nil.1 (Decidable.not_not.1 h2))]; decide)
    exact ⟨_, ⟨false, (fun h => by cases h), (fun _ => hs), (fun h => by cases h), trivial, rfl⟩, Wk.sub ⟨rfl, (by first | rfl | simp), trivial⟩ trivial⟩
  rintro _ ⟨ng, hng1, hng0, hngz, -, rfl⟩
  refine awp_seqJ (J := fun σ => ∃ (b : ByteArray), (b.size = a.size - sgnAt a) ∧ (∀ i, i < b.size → byt b i = byt a (sgnAt a + i)) ∧ True ∧ σ = ⟨[(0, Sv b), (3, .lit (.bool ng))], []⟩) ?ja1 ?jb1
  case ja1 =>
   refine awp_seq fun K4 hK4 => awp_region rfl (o_mv (.lit (.bool ng)) rfl (aops_end (hK4 _ ?_)))
   refine awp_condB (b := ng) rfl (fun h3 => ?_) (fun h3 => ?_)
   ·refine awp_region rfl (o_mv (Sv a) rfl ?_)
    refine n_sliceSL a 1 (a.size) gn f37_ rfl rfl (by have hz := hngz h3; omega) (by rfl) ?_
    refine o_as (Sv (a.extract 1 (a.size))) rfl (aops_end ?_)
    have hs := hng1 h3
    have hz := hngz h3
    exact ⟨_, ⟨(a).extract 1 (a.size), (by rw [extract_size a (by omega) (by omega)]; omega), (fun i hi => by rw [extract_size a (by omega) (by omega)] at hi; rw [byt_extract a (by omega) (by omega), hs]), trivial, rfl⟩, Wk.sub ⟨(by first | rfl | simp), rfl, trivial⟩ trivial⟩
   ·refine awp_skip ?_
    have hs := hng0 h3
    exact ⟨_, ⟨a, (by omega), (fun i hi => by rw [hs, Nat.zero_add]), trivial, rfl⟩, Wk.sub ⟨(by first | rfl | simp), rfl, trivial⟩ trivial⟩
  rintro _ ⟨b, hbs, hb, -, rfl⟩
  refine awp_seq fun K5 hK5 => awp_seq fun K6 hK6 => awp_region rfl (o_mv (Sv b) rfl ?_)
  refine o_eqlS (a := b) (c := Ev) gn rfl rfl ?_
  refine o_mv (bp (b.toList = Ev.toList)) rfl ?_
  refine o_splitP (q := b.toList = Ev.toList) 21 rfl (fun h4 => ?_) (fun h4 => ?_)
  ·refine o_skip rfl rfl (decide_eq_true h4) (o_skip rfl rfl (decide_eq_true h4) (o_skip rfl rfl (decide_eq_true h4) ?_))
   refine o_pickT Tv gn rfl (decide_eq_true h4) rfl ?_
   refine o_mv Tv rfl (o_skip rfl rfl rfl (o_skip rfl rfl rfl (o_skip rfl rfl rfl (o_skip rfl rfl rfl (o_skipU rfl rfl (o_skipU rfl rfl (o_skipU rfl rfl (o_skipU rfl rfl (o_skipU rfl rfl (o_skipU rfl rfl (o_skip rfl rfl rfl ?_)))))))))))
   refine o_pickT Tv gn rfl rfl rfl ?_
   refine aops_end (hK6 _ ?_)
   refine awp_condB (b := true) rfl (fun _ => ?_) (fun hh => absurd (hh.symm.trans rfl) (by decide))
   refine awp_seq fun K7 hK7 => awp_region rfl (o_as Fv rfl (aops_end (hK7 _ ?_)))
   refine awp_ret ?_
   refine post_ret ⟨[Fv], ⟨AV.le_refl _, trivial⟩, rfl, ?_⟩
   refine bl_eq (okS_no fun h => ?_)
   obtain ⟨o1, o2, o3, o4⟩ := h
   first | omega | (have := str_nil.1 (by assumption); omega) | (have e := hb 0 (by omega); rw [Nat.add_zero] at e; omega) | (have e := hb 0 (by omega); have := hng1 (by assumption); rw [Nat.add_zero] at e; omega) | (have e := o4 (sgnAt a + pos) (by omega) (by omega); rw [← hb pos (by omega)] at e; have e2 := utf8_lo (a := b) (pos := pos) (by omega) (by omega); simp only [e2] at *; omega)
  ·have hne := mt str_nil.2 h4
   refine o_move (Sv b) (Gd.yes rfl rfl (decide_eq_false h4)) rfl ?_
   refine n_lenS b (Gd.yes rfl rfl (decide_eq_false h4)) rfl f37_ ?_
   refine n_gtr (b.size) 2000 (Gd.yes rfl rfl (decide_eq_false h4)) rfl rfl ?_
   refine o_pickF (bp (2000 < (b.size))) gn rfl (decide_eq_false h4) rfl ?_
   refine o_mv (bp (2000 < (b.size))) rfl ?_
   refine o_splitP (q := 2000 < (b.size)) 26 rfl (fun h5 => ?_) (fun h5 => ?_)
   ·refine o_skip rfl rfl (decide_eq_true h5) (o_skip rfl rfl (decide_eq_true h5) (o_skip rfl rfl (decide_eq_true h5) (o_skip rfl rfl (decide_eq_true h5) (o_skipU rfl rfl (o_skipU rfl rfl (o_skipU rfl rfl (o_skipU rfl rfl (o_skipU rfl rfl (o_skipU rfl rfl (o_skip rfl rfl (decide_eq_true h5) ?_))))))))))
    refine o_pickT Tv gn rfl (decide_eq_true h5) rfl ?_
    refine aops_end (hK6 _ ?_)
    refine awp_condB (b := true) rfl (fun _ => ?_) (fun hh => absurd (hh.symm.trans rfl) (by decide))
    refine awp_seq fun K8 hK8 => awp_region rfl (o_as Fv rfl (aops_end (hK8 _ ?_)))
    refine awp_ret ?_
    refine post_ret ⟨[Fv], ⟨AV.le_refl _, trivial⟩, rfl, ?_⟩
    refine bl_eq (okS_no fun h => ?_)
    obtain ⟨o1, o2, o3, o4⟩ := h
    first | omega | (have := str_nil.1 (by assumption); omega) | (have e := hb 0 (by omega); rw [Nat.add_zero] at e; omega) | (have e := hb 0 (by omega); have := hng1 (by assumption); rw [Nat.add_zero] at e; omega) | (have e := o4 (sgnAt a + pos) (by omega) (by omega); rw [← hb pos (by omega)] at e; have e2 := utf8_lo (a := b) (pos := pos) (by omega) (by omega); simp only [e2] at *; omega)
   ·refine o_move (Sv b) (Gd.yes rfl rfl (decide_eq_false h5)) rfl ?_
    refine n_indexS b 0 (Gd.yes rfl rfl (decide_eq_false h5)) f37_ rfl rfl (by omega) ?_
    refine n_eql (byt b 0) 48 (Gd.yes rfl rfl (decide_eq_false h5)) rfl rfl ?_
    refine o_move (bp ((byt b 0) = 48)) (Gd.yes rfl rfl (decide_eq_false h5)) rfl ?_
    refine o_splitP (q := (byt b 0) = 48) 30 rfl (fun h6 => ?_) (fun h6 => ?_)
    ·refine o_move (Sv b) (Gd.yes rfl rfl (decide_eq_true h6)) rfl ?_
     refine n_lenS b (Gd.yes rfl rfl (decide_eq_true h6)) rfl f37_ ?_
     refine n_gtr (b.size) 1 (Gd.yes rfl rfl (decide_eq_true h6)) rfl rfl ?_
     refine o_move (bp (1 < (b.size))) (Gd.yes rfl rfl (decide_eq_true h6)) rfl ?_
     refine o_splitP (q := 1 < (b.size)) 34 rfl (fun h7 => ?_) (fun h7 => ?_)
     ·refine o_skip rfl rfl (decide_eq_true h7) ?_
      refine o_pickT Tv (Gd.yes rfl rfl (decide_eq_true h6)) rfl (decide_eq_true h7) rfl ?_
      refine o_pickT Tv (Gd.yes rfl rfl (decide_eq_false h5)) rfl (decide_eq_true h6) rfl ?_
      refine o_pickF Tv gn rfl (decide_eq_false h5) rfl ?_
      refine aops_end (hK6 _ ?_)
      refine awp_condB (b := true) rfl (fun _ => ?_) (fun hh => absurd (hh.symm.trans rfl) (by decide))
      refine awp_seq fun K9 hK9 => awp_region rfl (o_as Fv rfl (aops_end (hK9 _ ?_)))
      refine awp_ret ?_
      refine post_ret ⟨[Fv], ⟨AV.le_refl _, trivial⟩, rfl, ?_⟩
      refine bl_eq (okS_no fun h => ?_)
      obtain ⟨o1, o2, o3, o4⟩ := h
      first | omega | (have := str_nil.1 (by assumption); omega) | (have e := hb 0 (by omega); rw [Nat.add_zero] at e; omega) | (have e := hb 0 (by omega); have := hng1 (by assumption); rw [Nat.add_zero] at e; omega) | (have e := o4 (sgnAt a + pos) (by omega) (by omega); rw [← hb pos (by omega)] at e; have e2 := utf8_lo (a := b) (pos := pos) (by omega) (by omega); simp only [e2] at *; omega)
     ·refine o_move (.lit (.bool ng)) (Gd.yes rfl rfl (decide_eq_false h7)) rfl ?_
      refine o_pickF (.lit (.bool ng)) (Gd.yes rfl rfl (decide_eq_true h6)) rfl (decide_eq_false h7) rfl ?_
      refine o_pickT (.lit (.bool ng)) (Gd.yes rfl rfl (decide_eq_false h5)) rfl (decide_eq_true h6) rfl ?_
      refine o_pickF (.lit (.bool ng)) gn rfl (decide_eq_false h5) rfl ?_
      refine aops_end (hK6 _ ?_)
      refine awp_condB (b := ng) rfl (fun h8 => ?_) (fun h8 => ?_)
      ·refine awp_seq fun K10 hK10 => awp_region rfl (o_as Fv rfl (aops_end (hK10 _ ?_)))
       refine awp_ret ?_
       refine post_ret ⟨[Fv], ⟨AV.le_refl _, trivial⟩, rfl, ?_⟩
       refine bl_eq (okS_no fun h => ?_)
       obtain ⟨o1, o2, o3, o4⟩ := h
       first | omega | (have := str_nil.1 (by assumption); omega) | (have e := hb 0 (by omega); rw [Nat.add_zero] at e; omega) | (have e := hb 0 (by omega); have := hng1 (by assumption); rw [Nat.add_zero] at e; omega) | (have e := o4 (sgnAt a + pos) (by omega) (by omega); rw [← hb pos (by omega)] at e; have e2 := utf8_lo (a := b) (pos := pos) (by omega) (by omega); simp only [e2] at *; omega)
      ·refine awp_skip (hK5 _ (awp_seq fun K11 hK11 => awp_seq fun K12 hK12 => awp_region rfl (o_mv (Sv b) rfl ?_)))
       refine o_iterNew 201 gn f37_ rfl rfl ?_
       refine aops_end (hK12 _ ?_)
       refine awp_block ?_
       refine awp_loopR (fun κ σ => ∃ (pos : Nat), (pos ≤ b.size) ∧ (∀ k, k < pos → 48 ≤ byt b k ∧ byt b k ≤ 57) ∧ (b.size - pos) = κ ∧ σ = ⟨[(40, .ref 201 0)], [(201, .blk (.stringIter b pos))]⟩) ⟨_, _, ⟨0, (by omega), (fun k hk => by omega), rfl, rfl⟩, ?wk2⟩ ?rd2
       case wk2 =>
        exact Wk.sub ⟨rfl, trivial⟩ ⟨(by first | rfl | exact congrArg (fun x => some (.blk (.stringIter _ x))) (by omega)), trivial⟩
       rintro κ _ ⟨pos, hp, hv, rfl, rfl⟩
       refine awp_seq fun K13 hK13 => awp_region rfl ?_
       refine aops_em (pos < b.size) (fun h9 => ?_) (fun h9 => ?_)
       ·refine o_iterNext ((Utf8.decode b pos).1 : Int) (pos + (Utf8.decode b pos).2) [(201, .blk (.stringIter b (pos + (Utf8.decode b pos).2)))] gn rfl rfl h9 rfl rfl rfl ?_
        refine o_extract Tv gn rfl rfl (aops_end (hK13 _ (awp_seq fun K14 hK14 => ?_)))
        refine awp_condB (b := true) rfl (fun _ => ?_) (fun hh => absurd (hh.symm.trans rfl) (by decide))
        refine awp_skip (hK14 _ ?_)
        refine awp_block ?_
        refine awp_seq fun K15 hK15 => awp_region rfl (o_extract (.lit (.int .i32 ((Utf8.decode b pos).1 : Int))) gn rfl rfl (o_as (.lit (.int .i32 ((Utf8.decode b pos).1 : Int))) rfl (aops_end (hK15 _ (awp_seq fun K16 hK16 => awp_region rfl (o_mv (.lit (.int .i32 ((Utf8.decode b pos).1 : Int))) rfl ?_))))))
        refine o_lss (a := ((Utf8.decode b pos).1 : Int)) (c := ((48 : Nat) : Int)) gn rfl rfl ?_
        refine o_mv (bp (((Utf8.decode b pos).1 : Int) < ((48 : Nat) : Int))) rfl ?_
        refine o_splitP (q := ((Utf8.decode b pos).1 : Int) < ((48 : Nat) : Int)) 46 rfl (fun h10 => ?_) (fun h10 => ?_)
        ·refine o_skip rfl rfl (decide_eq_true h10) (o_skip rfl rfl (decide_eq_true h10) ?_)
         refine o_pickT Tv gn rfl (decide_eq_true h10) rfl ?_
         refine aops_end (hK16 _ ?_)
         refine awp_condB (b := true) rfl (fun _ => ?_) (fun hh => absurd (hh.symm.trans rfl) (by decide))
         refine awp_seq fun K17 hK17 => awp_region rfl (o_as Fv rfl (aops_end (hK17 _ ?_)))
         refine awp_ret ?_
         refine post_ret ⟨[Fv], ⟨AV.le_refl _, trivial⟩, rfl, ?_⟩
         refine bl_eq (okS_no fun h => ?_)
         obtain ⟨o1, o2, o3, o4⟩ := h
         first | omega | (have := str_nil.1 (by assumption); omega) | (have e := hb 0 (by omega); rw [Nat.add_zero] at e; omega) | (have e := hb 0 (by omega); have := hng1 (by assumption); rw [Nat.add_zero] at e; omega) | (have e := o4 (sgnAt a + pos) (by omega) (by omega); rw [← hb pos (by omega)] at e; have e2 := utf8_lo (a := b) (pos := pos) (by omega) (by omega); simp only [e2] at *; omega)
        ·refine o_move (.lit (.int .i32 ((Utf8.decode b pos).1 : Int))) (Gd.yes rfl rfl (decide_eq_false h10)) rfl ?_
         refine o_gtr (a := ((Utf8.decode b pos).1 : Int)) (c := ((57 : Nat) : Int)) (Gd.yes rfl rfl (decide_eq_false h10)) rfl rfl ?_
         refine o_pickF (bp (((57 : Nat) : Int) < ((Utf8.decode b pos).1 : Int))) gn rfl (decide_eq_false h10) rfl ?_
         refine aops_end (hK16 _ ?_)
         refine awp_condQ (q := ((57 : Nat) : Int) < ((Utf8.decode b pos).1 : Int)) rfl (fun h11 => ?_) (fun h11 => ?_)
         ·refine awp_seq fun K18 hK18 => awp_region rfl (o_as Fv rfl (aops_end (hK18 _ ?_)))
          refine awp_ret ?_
          refine post_ret ⟨[Fv], ⟨AV.le_refl _, trivial⟩, rfl, ?_⟩
          refine bl_eq (okS_no fun h => ?_)
          obtain ⟨o1, o2, o3, o4⟩ := h
          first | omega | (have := str_nil.1 (by assumption); omega) | (have e := hb 0 (by omega); rw [Nat.add_zero] at e; omega) | (have e := hb 0 (by omega); have := hng1 (by assumption); rw [Nat.add_zero] at e; omega) | (have e := o4 (sgnAt a + pos) (by omega) (by omega); rw [← hb pos (by omega)] at e; have e2 := utf8_lo (a := b) (pos := pos) (by omega) (by omega); simp only [e2] at *; omega)
         ·refine awp_skip ?_
          have hu := utf8_dig (a := b) (pos := pos) (by assumption) (by omega)
          simp only [hu] at *
          refine ⟨_, _, ?lt, ⟨pos + 1, (by omega), (fun k hk => by by_cases e : k = pos; subst e; omega; exact hv k (by omega)), rfl, rfl⟩, ?wk⟩
          case lt => omega
          case wk => exact Wk.sub ⟨rfl, trivial⟩ ⟨(by first | rfl | exact congrArg (fun x => some (.blk (.stringIter _ x))) (by omega)), trivial⟩
       ·refine o_iterEnd gn rfl rfl h9 ?_
        refine o_extract Fv gn rfl rfl (aops_end (hK13 _ (awp_seq fun K19 hK19 => ?_)))
        refine awp_condB (b := false) rfl (fun hh => absurd (hh.symm.trans rfl) (by decide)) (fun _ => ?_)
        refine awp_exit ?_
        refine hK11 _ (awp_seq fun K20 hK20 => awp_region rfl (o_as Tv rfl (aops_end (hK20 _ ?_))))
        refine awp_ret ?_
        refine post_ret ⟨[Tv], ⟨AV.le_refl _, trivial⟩, rfl, ?_⟩
        have e0 := hb 0 (by omega)
        rw [Nat.add_zero] at e0
        refine bl_eq (okS_yes ⟨by omega, by omega, fun hh => ?_, fun i hi1 hi2 => ?_⟩)
        ·first | omega | (have := hng0 (by assumption); omega)
        ·have := hv (i - sgnAt a) (by omega)
         rw [hb _ (by omega), show sgnAt a + (i - sgnAt a) = i by omega] at this
         exact this
    ·refine o_skip rfl rfl (decide_eq_false h6) (o_skip rfl rfl (decide_eq_false h6) (o_skip rfl rfl (decide_eq_false h6) (o_skip rfl rfl (decide_eq_false h6) (o_skipU rfl rfl (o_skip rfl rfl (decide_eq_false h6) ?_)))))
     refine o_pickF Fv (Gd.yes rfl rfl (decide_eq_false h5)) rfl (decide_eq_false h6) rfl ?_
     refine o_pickF Fv gn rfl (decide_eq_false h5) rfl ?_
     refine aops_end (hK6 _ ?_)
     refine awp_condB (b := false) rfl (fun hh => absurd (hh.symm.trans rfl) (by decide)) (fun _ => ?_)
     refine awp_skip (hK5 _ (awp_seq fun K21 hK21 => awp_seq fun K22 hK22 => awp_region rfl (o_mv (Sv b) rfl ?_)))
     refine o_iterNew 201 gn f37_ rfl rfl ?_
     refine aops_end (hK22 _ ?_)
     refine awp_block ?_
     refine awp_loopR (fun κ σ => ∃ (pos : Nat), (pos ≤ b.size) ∧ (∀ k, k < pos → 48 ≤ byt b k ∧ byt b k ≤ 57) ∧ (b.size - pos) = κ ∧ σ = ⟨[(40, .ref 201 0)], [(201, .blk (.stringIter b pos))]⟩) ⟨_, _, ⟨0, (by omega), (fun k hk => by omega), rfl, rfl⟩, ?wk3⟩ ?rd3
     case wk3 =>
      exact Wk.sub ⟨rfl, trivial⟩ ⟨(by first | rfl | exact congrArg (fun x => some (.blk (.stringIter _ x))) (by omega)), trivial⟩
     rintro κ _ ⟨pos, hp, hv, rfl, rfl⟩
     refine awp_seq fun K23 hK23 => awp_region rfl ?_
     refine aops_em (pos < b.size) (fun h12 => ?_) (fun h12 => ?_)
     ·refine o_iterNext ((Utf8.decode b pos).1 : Int) (pos + (Utf8.decode b pos).2) [(201, .blk (.stringIter b (pos + (Utf8.decode b pos).2)))] gn rfl rfl h12 rfl rfl rfl ?_
      refine o_extract Tv gn rfl rfl (aops_end (hK23 _ (awp_seq fun K24 hK24 => ?_)))
      refine awp_condB (b := true) rfl (fun _ => ?_) (fun hh => absurd (hh.symm.trans rfl) (by decide))
      refine awp_skip (hK24 _ ?_)
      refine awp_block ?_
      refine awp_seq fun K25 hK25 => awp_region rfl (o_extract (.lit (.int .i32 ((Utf8.decode b pos).1 : Int))) gn rfl rfl (o_as (.lit (.int .i32 ((Utf8.decode b pos).1 : Int))) rfl (aops_end (hK25 _ (awp_seq fun K26 hK26 => awp_region rfl (o_mv (.lit (.int .i32 ((Utf8.decode b pos).1 : Int))) rfl ?_))))))
      refine o_lss (a := ((Utf8.decode b pos).1 : Int)) (c := ((48 : Nat) : Int)) gn rfl rfl ?_
      refine o_mv (bp (((Utf8.decode b pos).1 : Int) < ((48 : Nat) : Int))) rfl ?_
      refine o_splitP (q := ((Utf8.decode b pos).1 : Int) < ((48 : Nat) : Int)) 46 rfl (fun h13 => ?_) (fun h13 => ?_)
      ·refine o_skip rfl rfl (decide_eq_true h13) (o_skip rfl rfl (decide_eq_true h13) ?_)
       refine o_pickT Tv gn rfl (decide_eq_true h13) rfl ?_
       refine aops_end (hK26 _ ?_)
       refine awp_condB (b := true) rfl (fun _ => ?_) (fun hh => absurd (hh.symm.trans rfl) (by decide))
       refine awp_seq fun K27 hK27 => awp_region rfl (o_as Fv rfl (aops_end (hK27 _ ?_)))
       refine awp_ret ?_
       refine post_ret ⟨[Fv], ⟨AV.le_refl _, trivial⟩, rfl, ?_⟩
       refine bl_eq (okS_no fun h => ?_)
       obtain ⟨o1, o2, o3, o4⟩ := h
       first | omega | (have := str_nil.1 (by assumption); omega) | (have e := hb 0 (by omega); rw [Nat.add_zero] at e; omega) | (have e := hb 0 (by omega); have := hng1 (by assumption); rw [Nat.add_zero] at e; omega) | (have e := o4 (sgnAt a + pos) (by omega) (by omega); rw [← hb pos (by omega)] at e; have e2 := utf8_lo (a := b) (pos := pos) (by omega) (by omega); simp only [e2] at *; omega)
      ·refine o_move (.lit (.int .i32 ((Utf8.decode b pos).1 : Int))) (Gd.yes rfl rfl (decide_eq_false h13)) rfl ?_
       refine o_gtr (a := ((Utf8.decode b pos).1 : Int)) (c := ((57 : Nat) : Int)) (Gd.yes rfl rfl (decide_eq_false h13)) rfl rfl ?_
       refine o_pickF (bp (((57 : Nat) : Int) < ((Utf8.decode b pos).1 : Int))) gn rfl (decide_eq_false h13) rfl ?_
       refine aops_end (hK26 _ ?_)
       refine awp_condQ (q := ((57 : Nat) : Int) < ((Utf8.decode b pos).1 : Int)) rfl (fun h14 => ?_) (fun h14 => ?_)
       ·refine awp_seq fun K28 hK28 => awp_region rfl (o_as Fv rfl (aops_end (hK28 _ ?_)))
        refine awp_ret ?_
        refine post_ret ⟨[Fv], ⟨AV.le_refl _, trivial⟩, rfl, ?_⟩
        refine bl_eq (okS_no fun h => ?_)
        obtain ⟨o1, o2, o3, o4⟩ := h
        first | omega | (have := str_nil.1 (by assumption); omega) | (have e := hb 0 (by omega); rw [Nat.add_zero] at e; omega) | (have e := hb 0 (by omega); have := hng1 (by assumption); rw [Nat.add_zero] at e; omega) | (have e := o4 (sgnAt a + pos) (by omega) (by omega); rw [← hb pos (by omega)] at e; have e2 := utf8_lo (a := b) (pos := pos) (by omega) (by omega); simp only [e2] at *; omega)
       ·refine awp_skip ?_
        have hu := utf8_dig (a := b) (pos := pos) (by assumption) (by omega)
        simp only [hu] at *
        refine ⟨_, _, ?lt, ⟨pos + 1, (by omega), (fun k hk => by by_cases e : k = pos; subst e; omega; exact hv k (by omega)), rfl, rfl⟩, ?wk⟩
        case lt => omega
        case wk => exact Wk.sub ⟨rfl, trivial⟩ ⟨(by first | rfl | exact congrArg (fun x => some (.blk (.stringIter _ x))) (by omega)), trivial⟩
     ·refine o_iterEnd gn rfl rfl h12 ?_
      refine o_extract Fv gn rfl rfl (aops_end (hK23 _ (awp_seq fun K29 hK29 => ?_)))
      refine awp_condB (b := false) rfl (fun hh => absurd (hh.symm.trans rfl) (by decide)) (fun _ => ?_)
      refine awp_exit ?_
      refine hK21 _ (awp_seq fun K30 hK30 => awp_region rfl (o_as Tv rfl (aops_end (hK30 _ ?_))))
      refine awp_ret ?_
      refine post_ret ⟨[Tv], ⟨AV.le_refl _, trivial⟩, rfl, ?_⟩
      have e0 := hb 0 (by omega)
      rw [Nat.add_zero] at e0
      refine bl_eq (okS_yes ⟨by omega, by omega, fun hh => ?_, fun i hi1 hi2 => ?_⟩)
      ·first | omega | (have := hng0 (by assumption); omega)
      ·have := hv (i - sgnAt a) (by omega)
       rw [hb _ (by omega), show sgnAt a + (i - sgnAt a) = i by omega] at this
       exact this

end Go.Proofs.Ytaeknciienkijaa

namespace Go.Proofs.Ytaeknciienkijaa
open Go Go.Ab Go.Mth
theorem f70_ : tyField cx.P 25 0 = some (0, 3) := by kernel_rfl
theorem f71_ : callable cx.P 43 = true := by kernel_rfl
theorem f72_ : tyAgg cx.P 25 = some 3 := by kernel_rfl
theorem f73_ : callable cx.P 20 = true := by kernel_rfl
theorem f74_ : tyField cx.P 25 1 = some (1, 23) := by kernel_rfl
theorem f75_ : callable cx.P 44 = true := by kernel_rfl
theorem f76_ : tyField cx.P 25 2 = some (2, 23) := by kernel_rfl
theorem c_gRest (m : MapM) (z : Int) (hm : OkM m) (hz : (digs z.natAbs).length ≤ 1000000) : ECalls cx 20 [mapV m, intR z] (.lit (.int .i64 (z % m.mod))) := by
 refine ecalls_of_awp Try.func20 (c := _) rfl (Nat.le_of_ble_eq_true rfl) ?_
 show awp cx 15 _ (postF cx Try.f20 _) ⟨[(0, mapV m), (1, intR z)], []⟩
 have hM := hm
 obtain ⟨o1, o2, o3, o4, o5⟩ := hm
 have hr0 := Int.emod_nonneg z (b := m.mod) (by omega)
 have hr1 := Int.emod_lt_of_pos z (b := m.mod) (by omega)
 have hr := o5 (z % m.mod).toNat (by omega)
 refine awp_seq fun K0 hK0 => awp_region rfl ?_
 refine o_box 2 [Iv m.mod, Lv m.mul, Lv m.add] gn rfl rfl ?_
 refine o_box 3 [bp (z < 0), .sl 1 (ns .i64 (digs z.natAbs))] gn rfl rfl ?_
 refine o_as (Nv 0) rfl (aops_end (hK0 _ (awp_seq fun K1 hK1 => awp_region rfl ?_)))
 refine o_loadA [bp (z < 0), .sl 1 (ns .i64 (digs z.natAbs))] gn f58_ rfl rfl rfl rfl rfl ?_
 refine o_fieldRef 0 gn f70_ rfl rfl ?_
 refine o_loadS (Iv m.mod) gn f55_ rfl rfl rfl ?_
 refine n_as (v' := (Nv m.mod.toNat)) (nm_int (by omega)) ?_
 refine o_ct (c_rQR z m.mod.toNat (by omega) (by omega) (by first | omega | assumption | (simp only [Int.natAbs_neg]; omega))) gn f71_ rfl ?_
 refine o_mv (.tup [(intR (z / ((m.mod.toNat : Nat) : Int))), (Iv (z % ((m.mod.toNat : Nat) : Int)))]) rfl (o_extract (intR (z / ((m.mod.toNat : Nat) : Int))) gn rfl rfl (o_extract (Iv (z % ((m.mod.toNat : Nat) : Int))) gn rfl rfl ?_))
 refine o_alloc 4 [Fv, Zv] gn f53_ rfl rfl rfl ?_
 refine o_store [(4, (oZ 31 .i64 (z / ((m.mod.toNat : Nat) : Int)))), (3, oZ 31 .i64 z), (2, oM 25 m)] gn f57_ rfl rfl rfl rfl rfl rfl ?_
 refine o_as (Iv (z % ((m.mod.toNat : Nat) : Int))) rfl (aops_end (hK1 _ (awp_seq fun K2 hK2 => awp_region rfl (o_mv (Iv (z % ((m.mod.toNat : Nat) : Int))) rfl (o_as (Iv (z % ((m.mod.toNat : Nat) : Int))) rfl (aops_end (hK2 _ ?_)))))))
 refine awp_ret ?_
 refine post_ret ⟨[(Iv (z % ((m.mod.toNat : Nat) : Int)))], ⟨AV.le_refl _, trivial⟩, rfl, ?_⟩
 exact int_eq (by rw [Int.toNat_of_nonneg (by omega)])

theorem c_gStep (m : MapM) (z : Int) (hm : OkM m) (hz : (digs z.natAbs).length ≤ 1000000) : ECalls cx 21 [mapV m, intR z] (intR (stepZ m z)) := by
 refine ecalls_of_awp Try.func21 (c := _) rfl (Nat.le_of_ble_eq_true rfl) ?_
 show awp cx 33 _ (postF cx Try.f21 _) ⟨[(0, mapV m), (1, intR z)], []⟩
 have hM := hm
 obtain ⟨o1, o2, o3, o4, o5⟩ := hm
 have hr0 := Int.emod_nonneg z (b := m.mod) (by omega)
 have hr1 := Int.emod_lt_of_pos z (b := m.mod) (by omega)
 have hr := o5 (z % m.mod).toNat (by omega)
 have hL1 := small_len (z := ((m.mul).getD ((z % m.mod).toNat) 0)) (by omega)
 have hL2 := small_len (z := ((m.add).getD ((z % m.mod).toNat) 0)) (by omega)
 have hL3 := len_mulZ ((m.mul).getD ((z % m.mod).toNat) 0) z
 have hL4 := len_addZ (((m.mul).getD ((z % m.mod).toNat) 0) * z) ((m.add).getD ((z % m.mod).toNat) 0)
 refine awp_seq fun K0 hK0 => awp_region rfl ?_
 refine o_box 2 [Iv m.mod, Lv m.mul, Lv m.add] gn rfl rfl ?_
 refine o_box 3 [bp (z < 0), .sl 1 (ns .i64 (digs z.natAbs))] gn rfl rfl ?_
 refine o_alloc 4 [Fv, Zv] gn f53_ rfl rfl rfl ?_
 refine aops_end (hK0 _ (awp_seq fun K1 hK1 => awp_region rfl ?_))
 refine o_loadA [Iv m.mod, Lv m.mul, Lv m.add] gn f72_ rfl rfl rfl rfl rfl ?_
 refine o_loadA [bp (z < 0), .sl 1 (ns .i64 (digs z.natAbs))] gn f58_ rfl rfl rfl rfl rfl ?_
 refine o_ct (c_gRest m z (by first | assumption | exact okM_iff.1 (by assumption)) (by first | omega | assumption | (simp only [Int.natAbs_neg]; omega))) gn f73_ rfl ?_
 refine o_as (Iv (z % m.mod)) rfl (aops_end (hK1 _ (awp_seq fun K2 hK2 => awp_regionD rfl ?_)))
 refine o_fieldRef 1 gn f74_ rfl rfl ?_
 refine o_loadS (Lv m.mul) gn f50_ rfl rfl rfl ?_
 refine o_mv (Iv (z % m.mod)) rfl ?_
 refine n_as (v' := (Nv ((z % m.mod).toNat))) (nm_int (by omega)) ?_
 refine i_index m.mul ((z % m.mod).toNat) gn f54_ rfl rfl (by omega) ?_
 refine i_loadI m.mul ((z % m.mod).toNat) gn f55_ rfl (by omega) ?_
 refine o_ct (c_rOf ((m.mul).getD ((z % m.mod).toNat) 0) (by first | decide | omega) (by first | decide | omega)) gn f69_ rfl ?_
 refine o_loadA [bp (z < 0), .sl 1 (ns .i64 (digs z.natAbs))] gn f58_ rfl rfl rfl rfl rfl ?_
 refine o_ct (c_rMul ((m.mul).getD ((z % m.mod).toNat) 0) z (by first | omega | assumption | (simp only [Int.natAbs_neg]; omega)) (by first | omega | assumption | (simp only [Int.natAbs_neg]; omega))) gn f75_ rfl ?_
 refine o_fieldRef 2 gn f76_ rfl rfl ?_
 refine o_loadS (Lv m.add) gn f50_ rfl rfl rfl ?_
 refine o_mv (Iv (z % m.mod)) rfl ?_
 refine n_as (v' := (Nv ((z % m.mod).toNat))) (nm_int (by omega)) ?_
 refine i_index m.add ((z % m.mod).toNat) gn f54_ rfl rfl (by omega) ?_
 refine i_loadI m.add ((z % m.mod).toNat) gn f55_ rfl (by omega) ?_
 refine o_ct (c_rOf ((m.add).getD ((z % m.mod).toNat) 0) (by first | decide | omega) (by first | decide | omega)) gn f69_ rfl ?_
 refine o_ct (c_rAdd ((m.mul).getD ((z % m.mod).toNat) 0 * z) ((m.add).getD ((z % m.mod).toNat) 0) (by first | omega | assumption | (simp only [Int.natAbs_neg]; omega)) (by first | omega | assumption | (simp only [Int.natAbs_neg]; omega))) gn f67_ rfl ?_
 refine o_fieldRef 0 gn f70_ rfl rfl ?_
 refine o_loadS (Iv m.mod) gn f55_ rfl rfl rfl ?_
 refine n_as (v' := (Nv m.mod.toNat)) (nm_int (by omega)) ?_
 refine o_ct (c_rQR (((m.mul).getD ((z % m.mod).toNat) 0 * z) + (m.add).getD ((z % m.mod).toNat) 0) m.mod.toNat (by omega) (by omega) (by first | omega | assumption | (simp only [Int.natAbs_neg]; omega))) gn f71_ rfl ?_
 refine o_mv (.tup [(intR ((((m.mul).getD ((z % m.mod).toNat) 0 * z) + (m.add).getD ((z % m.mod).toNat) 0) / ((m.mod.toNat : Nat) : Int))), (Iv ((((m.mul).getD ((z % m.mod).toNat) 0 * z) + (m.add).getD ((z % m.mod).toNat) 0) % ((m.mod.toNat : Nat) : Int)))]) rfl (o_extract (intR ((((m.mul).getD ((z % m.mod).toNat) 0 * z) + (m.add).getD ((z % m.mod).toNat) 0) / ((m.mod.toNat : Nat) : Int))) gn rfl rfl (o_extract (Iv ((((m.mul).getD ((z % m.mod).toNat) 0 * z) + (m.add).getD ((z % m.mod).toNat) 0) % ((m.mod.toNat : Nat) : Int))) gn rfl rfl ?_))
 refine o_alloc 5 [Fv, Zv] gn f53_ rfl rfl rfl ?_
 refine o_store [(5, (oZ 31 .i64 ((((m.mul).getD ((z % m.mod).toNat) 0 * z) + (m.add).getD ((z % m.mod).toNat) 0) / ((m.mod.toNat : Nat) : Int)))), (4, .var 31 [Fv, Zv]), (3, oZ 31 .i64 z), (2, oM 25 m)] gn f57_ rfl rfl rfl rfl rfl rfl ?_
 refine o_as (Iv ((((m.mul).getD ((z % m.mod).toNat) 0 * z) + (m.add).getD ((z % m.mod).toNat) 0) % ((m.mod.toNat : Nat) : Int))) rfl ?_
 refine aops_end ⟨by kernel_rfl, ?_⟩
 refine hK2 _ (awp_seq fun K3 hK3 => awp_region rfl ?_)
 refine o_loadA [(bp (((((m.mul).getD ((z % m.mod).toNat) 0 * z) + (m.add).getD ((z % m.mod).toNat) 0) / ((m.mod.toNat : Nat) : Int)) < 0)), (.sl 1 (ns .i64 (digs ((((m.mul).getD ((z % m.mod).toNat) 0 * z) + (m.add).getD ((z % m.mod).toNat) 0) / ((m.mod.toNat : Nat) : Int)).natAbs)))] gn f58_ rfl rfl rfl rfl rfl ?_
 refine o_store [(5, (oZ 31 .i64 ((((m.mul).getD ((z % m.mod).toNat) 0 * z) + (m.add).getD ((z % m.mod).toNat) 0) / ((m.mod.toNat : Nat) : Int)))), (4, (oZ 31 .i64 ((((m.mul).getD ((z % m.mod).toNat) 0 * z) + (m.add).getD ((z % m.mod).toNat) 0) / ((m.mod.toNat : Nat) : Int)))), (3, oZ 31 .i64 z), (2, oM 25 m)] gn f57_ rfl rfl rfl rfl rfl rfl ?_
 refine aops_end (hK3 _ ?_)
 refine awp_ret ?_
 refine post_ret ⟨[(intR ((((m.mul).getD ((z % m.mod).toNat) 0 * z) + (m.add).getD ((z % m.mod).toNat) 0) / ((m.mod.toNat : Nat) : Int)))], ⟨⟨4, (oZ 31 .i64 ((((m.mul).getD ((z % m.mod).toNat) 0 * z) + (m.add).getD ((z % m.mod).toNat) 0) / ((m.mod.toNat : Nat) : Int))), rfl, rfl, rfl, Or.inl ⟨f58_, AV.le_refl _⟩⟩, trivial⟩, rfl, ?_⟩
 refine congrArg (intK .i64) ?_
 unfold stepZ
 rw [Int.toNat_of_nonneg (a := m.mod) (by omega)]

end Go.Proofs.Ytaeknciienkijaa

namespace Go.Proofs.Ytaeknciienkijaa
open Go Go.Ab Go.Mth
end Go.Proofs.Ytaeknciienkijaa

namespace Go.Proofs.Ytaeknciienkijaa
open Go Go.Ab Go.Mth
theorem f77_ : tyZero cx.P 25 = some [Go.Value.int IntKind.i64 0, Go.Value.slice none 0 0, Go.Value.slice none 0 0] := by kernel_rfl
theorem f78_ : tyPlaces cx.P 25 = some (fun i => (#[(0, 1), (1, 1), (2, 1)] : Array (Nat × Nat))[i]?) := by kernel_rfl
theorem f79_ : tySize cx.P 25 = some 3 := by kernel_rfl
theorem c_gKin (q c : Int) : ECalls cx 4 [Iv q, Iv c] (.tup [mapV (if kinOk q c then kinM q c else noM), bp (kinOk q c)]) := by
 refine ecalls_of_awp Try.func4 (c := _) rfl (Nat.le_of_ble_eq_true rfl) ?_
 show awp cx 36 _ (postF cx Try.f4 _) ⟨[(0, Iv q), (1, Iv c)], []⟩
 refine awp_seq fun K0 hK0 => awp_region rfl ?_
 refine o_alloc 2 [Nv 0, Zv, Zv] gn f77_ rfl rfl rfl ?_
 refine o_as Fv rfl (aops_end (hK0 _ (awp_seq fun K1 hK1 => awp_seq fun K2 hK2 => awp_region rfl (o_mv (Iv q) rfl ?_))))
 refine o_lss (a := q) (c := ((1 : Nat) : Int)) gn rfl rfl ?_
 refine o_mv (bp (q < ((1 : Nat) : Int))) rfl ?_
 refine o_splitP (q := q < ((1 : Nat) : Int)) 8 rfl (fun h1 => ?_) (fun h1 => ?_)
 ·refine o_skip rfl rfl (decide_eq_true h1) (o_skip rfl rfl (decide_eq_true h1) ?_)
  refine o_pickT Tv gn rfl (decide_eq_true h1) rfl ?_
  refine o_mv Tv rfl (o_skip rfl rfl rfl (o_skip rfl rfl rfl ?_))
  refine o_pickT Tv gn rfl rfl rfl ?_
  refine o_mv Tv rfl (o_skip rfl rfl rfl (o_skip rfl rfl rfl ?_))
  refine o_pickT Tv gn rfl rfl rfl ?_
  refine o_mv Tv rfl (o_skip rfl rfl rfl (o_skip rfl rfl rfl (o_skip rfl rfl rfl ?_)))
  refine o_pickT Tv gn rfl rfl rfl ?_
  refine o_mv Tv rfl (o_skip rfl rfl rfl (o_skip rfl rfl rfl (o_skip rfl rfl rfl ?_)))
  refine o_pickT Tv gn rfl rfl rfl ?_
  refine aops_end (hK2 _ ?_)
  refine awp_condB (b := true) rfl (fun _ => ?_) (fun hh => absurd (hh.symm.trans rfl) (by decide))
  refine awp_seq fun K3 hK3 => awp_region rfl ?_
  refine o_build [Nv 0, Zv, Zv] [] gn f78_ f77_ rfl rfl rfl ?_
  refine o_store [(2, .var 25 [Nv 0, Zv, Zv])] gn f79_ rfl rfl rfl rfl rfl rfl ?_
  refine o_as Fv rfl (aops_end (hK3 _ ?_))
  refine awp_ret ?_
  refine post_ret ⟨[mapV noM, Fv], ⟨⟨2, .var 25 [Nv 0, Zv, Zv], rfl, rfl, rfl, Or.inl ⟨f72_, AV.le_agg (LeL.cons (AV.le_refl _) (LeL.cons (AV.le_nil' (by decide) (by first | rfl | simp [digs_zero, ns, is])) (LeL.cons (AV.le_nil' (by decide) (by first | rfl | simp [digs_zero, ns, is])) LeL.nil)))⟩⟩, AV.le_refl _, trivial⟩, rfl, ?_⟩
  have hk : ¬ kinOk q c := by unfold kinOk; first | omega | (intro hh; simp_all)
  exact tup_eq2 (congrArg mapV (if_neg hk)) (bl_bp (b := false) (by simp [hk])).symm
 ·refine o_move (Iv q) (Gd.yes rfl rfl (decide_eq_false h1)) rfl ?_
  refine o_gtr (a := q) (c := ((999 : Nat) : Int)) (Gd.yes rfl rfl (decide_eq_false h1)) rfl rfl ?_
  refine o_pickF (bp (((999 : Nat) : Int) < q)) gn rfl (decide_eq_false h1) rfl ?_
  refine o_mv (bp (((999 : Nat) : Int) < q)) rfl ?_
  refine o_splitP (q := ((999 : Nat) : Int) < q) 12 rfl (fun h2 => ?_) (fun h2 => ?_)
  ·refine o_skip rfl rfl (decide_eq_true h2) (o_skip rfl rfl (decide_eq_true h2) ?_)
   refine o_pickT Tv gn rfl (decide_eq_true h2) rfl ?_
   refine o_mv Tv rfl (o_skip rfl rfl rfl (o_skip rfl rfl rfl ?_))
   refine o_pickT Tv gn rfl rfl rfl ?_
   refine o_mv Tv rfl (o_skip rfl rfl rfl (o_skip rfl rfl rfl (o_skip rfl rfl rfl ?_)))
   refine o_pickT Tv gn rfl rfl rfl ?_
   refine o_mv Tv rfl (o_skip rfl rfl rfl (o_skip rfl rfl rfl (o_skip rfl rfl rfl ?_)))
   refine o_pickT Tv gn rfl rfl rfl ?_
   refine aops_end (hK2 _ ?_)
   refine awp_condB (b := true) rfl (fun _ => ?_) (fun hh => absurd (hh.symm.trans rfl) (by decide))
   refine awp_seq fun K4 hK4 => awp_region rfl ?_
   refine o_build [Nv 0, Zv, Zv] [] gn f78_ f77_ rfl rfl rfl ?_
   refine o_store [(2, .var 25 [Nv 0, Zv, Zv])] gn f79_ rfl rfl rfl rfl rfl rfl ?_
   refine o_as Fv rfl (aops_end (hK4 _ ?_))
   refine awp_ret ?_
   refine post_ret ⟨[mapV noM, Fv], ⟨⟨2, .var 25 [Nv 0, Zv, Zv], rfl, rfl, rfl, Or.inl ⟨f72_, AV.le_agg (LeL.cons (AV.le_refl _) (LeL.cons (AV.le_nil' (by decide) (by first | rfl | simp [digs_zero, ns, is])) (LeL.cons (AV.le_nil' (by decide) (by first | rfl | simp [digs_zero, ns, is])) LeL.nil)))⟩⟩, AV.le_refl _, trivial⟩, rfl, ?_⟩
   have hk : ¬ kinOk q c := by unfold kinOk; first | omega | (intro hh; simp_all)
   exact tup_eq2 (congrArg mapV (if_neg hk)) (bl_bp (b := false) (by simp [hk])).symm
  ·refine o_move (Iv c) (Gd.yes rfl rfl (decide_eq_false h2)) rfl ?_
   refine o_lss (a := c) (c := (-999999)) (Gd.yes rfl rfl (decide_eq_false h2)) rfl rfl ?_
   refine o_pickF (bp (c < (-999999))) gn rfl (decide_eq_false h2) rfl ?_
   refine o_mv (bp (c < (-999999))) rfl ?_
   refine o_splitP (q := c < (-999999)) 16 rfl (fun h3 => ?_) (fun h3 => ?_)
   ·refine o_skip rfl rfl (decide_eq_true h3) (o_skip rfl rfl (decide_eq_true h3) ?_)
    refine o_pickT Tv gn rfl (decide_eq_true h3) rfl ?_
    refine o_mv Tv rfl (o_skip rfl rfl rfl (o_skip rfl rfl rfl (o_skip rfl rfl rfl ?_)))
    refine o_pickT Tv gn rfl rfl rfl ?_
    refine o_mv Tv rfl (o_skip rfl rfl rfl (o_skip rfl rfl rfl (o_skip rfl rfl rfl ?_)))
    refine o_pickT Tv gn rfl rfl rfl ?_
    refine aops_end (hK2 _ ?_)
    refine awp_condB (b := true) rfl (fun _ => ?_) (fun hh => absurd (hh.symm.trans rfl) (by decide))
    refine awp_seq fun K5 hK5 => awp_region rfl ?_
    refine o_build [Nv 0, Zv, Zv] [] gn f78_ f77_ rfl rfl rfl ?_
    refine o_store [(2, .var 25 [Nv 0, Zv, Zv])] gn f79_ rfl rfl rfl rfl rfl rfl ?_
    refine o_as Fv rfl (aops_end (hK5 _ ?_))
    refine awp_ret ?_
    refine post_ret ⟨[mapV noM, Fv], ⟨⟨2, .var 25 [Nv 0, Zv, Zv], rfl, rfl, rfl, Or.inl ⟨f72_, AV.le_agg (LeL.cons (AV.le_refl _) (LeL.cons (AV.le_nil' (by decide) (by first | rfl | simp [digs_zero, ns, is])) (LeL.cons (AV.le_nil' (by decide) (by first | rfl | simp [digs_zero, ns, is])) LeL.nil)))⟩⟩, AV.le_refl _, trivial⟩, rfl, ?_⟩
    have hk : ¬ kinOk q c := by unfold kinOk; first | omega | (intro hh; simp_all)
    exact tup_eq2 (congrArg mapV (if_neg hk)) (bl_bp (b := false) (by simp [hk])).symm
   ·refine o_move (Iv c) (Gd.yes rfl rfl (decide_eq_false h3)) rfl ?_
    refine o_gtr (a := c) (c := ((999999 : Nat) : Int)) (Gd.yes rfl rfl (decide_eq_false h3)) rfl rfl ?_
    refine o_pickF (bp (((999999 : Nat) : Int) < c)) gn rfl (decide_eq_false h3) rfl ?_
    refine o_mv (bp (((999999 : Nat) : Int) < c)) rfl ?_
    refine o_splitP (q := ((999999 : Nat) : Int) < c) 20 rfl (fun h4 => ?_) (fun h4 => ?_)
    ·refine o_skip rfl rfl (decide_eq_true h4) (o_skip rfl rfl (decide_eq_true h4) (o_skip rfl rfl (decide_eq_true h4) ?_))
     refine o_pickT Tv gn rfl (decide_eq_true h4) rfl ?_
     refine o_mv Tv rfl (o_skip rfl rfl rfl (o_skip rfl rfl rfl (o_skip rfl rfl rfl ?_)))
     refine o_pickT Tv gn rfl rfl rfl ?_
     refine aops_end (hK2 _ ?_)
     refine awp_condB (b := true) rfl (fun _ => ?_) (fun hh => absurd (hh.symm.trans rfl) (by decide))
     refine awp_seq fun K6 hK6 => awp_region rfl ?_
     refine o_build [Nv 0, Zv, Zv] [] gn f78_ f77_ rfl rfl rfl ?_
     refine o_store [(2, .var 25 [Nv 0, Zv, Zv])] gn f79_ rfl rfl rfl rfl rfl rfl ?_
     refine o_as Fv rfl (aops_end (hK6 _ ?_))
     refine awp_ret ?_
     refine post_ret ⟨[mapV noM, Fv], ⟨⟨2, .var 25 [Nv 0, Zv, Zv], rfl, rfl, rfl, Or.inl ⟨f72_, AV.le_agg (LeL.cons (AV.le_refl _) (LeL.cons (AV.le_nil' (by decide) (by first | rfl | simp [digs_zero, ns, is])) (LeL.cons (AV.le_nil' (by decide) (by first | rfl | simp [digs_zero, ns, is])) LeL.nil)))⟩⟩, AV.le_refl _, trivial⟩, rfl, ?_⟩
     have hk : ¬ kinOk q c := by unfold kinOk; first | omega | (intro hh; simp_all)
     exact tup_eq2 (congrArg mapV (if_neg hk)) (bl_bp (b := false) (by simp [hk])).symm
    ·refine o_move (Iv q) (Gd.yes rfl rfl (decide_eq_false h4)) rfl ?_
     refine o_remT (a := q) (c := ((2 : Nat) : Int)) (Gd.yes rfl rfl (decide_eq_false h4)) rfl rfl (by omega) ?_
     refine o_eql (a := (Int.tmod q ((2 : Nat) : Int))) (c := ((0 : Nat) : Int)) (Gd.yes rfl rfl (decide_eq_false h4)) rfl rfl ?_
     refine o_pickF (bp ((Int.tmod q ((2 : Nat) : Int)) = ((0 : Nat) : Int))) gn rfl (decide_eq_false h4) rfl ?_
     refine o_mv (bp ((Int.tmod q ((2 : Nat) : Int)) = ((0 : Nat) : Int))) rfl ?_
     refine o_splitP (q := (Int.tmod q ((2 : Nat) : Int)) = ((0 : Nat) : Int)) 25 rfl (fun h5 => ?_) (fun h5 => ?_)
     ·refine o_skip rfl rfl (decide_eq_true h5) (o_skip rfl rfl (decide_eq_true h5) (o_skip rfl rfl (decide_eq_true h5) ?_))
      refine o_pickT Tv gn rfl (decide_eq_true h5) rfl ?_
      refine aops_end (hK2 _ ?_)
      refine awp_condB (b := true) rfl (fun _ => ?_) (fun hh => absurd (hh.symm.trans rfl) (by decide))
      refine awp_seq fun K7 hK7 => awp_region rfl ?_
      refine o_build [Nv 0, Zv, Zv] [] gn f78_ f77_ rfl rfl rfl ?_
      refine o_store [(2, .var 25 [Nv 0, Zv, Zv])] gn f79_ rfl rfl rfl rfl rfl rfl ?_
      refine o_as Fv rfl (aops_end (hK7 _ ?_))
      refine awp_ret ?_
      refine post_ret ⟨[mapV noM, Fv], ⟨⟨2, .var 25 [Nv 0, Zv, Zv], rfl, rfl, rfl, Or.inl ⟨f72_, AV.le_agg (LeL.cons (AV.le_refl _) (LeL.cons (AV.le_nil' (by decide) (by first | rfl | simp [digs_zero, ns, is])) (LeL.cons (AV.le_nil' (by decide) (by first | rfl | simp [digs_zero, ns, is])) LeL.nil)))⟩⟩, AV.le_refl _, trivial⟩, rfl, ?_⟩
      have hk : ¬ kinOk q c := by unfold kinOk; first | omega | (intro hh; simp_all)
      exact tup_eq2 (congrArg mapV (if_neg hk)) (bl_bp (b := false) (by simp [hk])).symm
     ·refine o_move (Iv c) (Gd.yes rfl rfl (decide_eq_false h5)) rfl ?_
      refine o_remT (a := c) (c := ((2 : Nat) : Int)) (Gd.yes rfl rfl (decide_eq_false h5)) rfl rfl (by omega) ?_
      refine o_eql (a := (Int.tmod c ((2 : Nat) : Int))) (c := ((0 : Nat) : Int)) (Gd.yes rfl rfl (decide_eq_false h5)) rfl rfl ?_
      refine o_pickF (bp ((Int.tmod c ((2 : Nat) : Int)) = ((0 : Nat) : Int))) gn rfl (decide_eq_false h5) rfl ?_
      refine aops_end (hK2 _ ?_)
      refine awp_condQ (q := (Int.tmod c ((2 : Nat) : Int)) = ((0 : Nat) : Int)) rfl (fun h6 => ?_) (fun h6 => ?_)
      ·refine awp_seq fun K8 hK8 => awp_region rfl ?_
       refine o_build [Nv 0, Zv, Zv] [] gn f78_ f77_ rfl rfl rfl ?_
       refine o_store [(2, .var 25 [Nv 0, Zv, Zv])] gn f79_ rfl rfl rfl rfl rfl rfl ?_
       refine o_as Fv rfl (aops_end (hK8 _ ?_))
       refine awp_ret ?_
       refine post_ret ⟨[mapV noM, Fv], ⟨⟨2, .var 25 [Nv 0, Zv, Zv], rfl, rfl, rfl, Or.inl ⟨f72_, AV.le_agg (LeL.cons (AV.le_refl _) (LeL.cons (AV.le_nil' (by decide) (by first | rfl | simp [digs_zero, ns, is])) (LeL.cons (AV.le_nil' (by decide) (by first | rfl | simp [digs_zero, ns, is])) LeL.nil)))⟩⟩, AV.le_refl _, trivial⟩, rfl, ?_⟩
       have hk : ¬ kinOk q c := by unfold kinOk; first | omega | (intro hh; simp_all)
       exact tup_eq2 (congrArg mapV (if_neg hk)) (bl_bp (b := false) (by simp [hk])).symm
      ·refine awp_skip (hK1 _ (awp_seq fun K9 hK9 => awp_region rfl (o_mv (Iv q) rfl ?_)))
       refine o_buildSlice 3 ([Nv 1, Iv q]) [(0, [Nv 1]), (1, [Iv q])] gn f54_ rfl f62_ rfl rfl rfl rfl rfl rfl rfl ?_
       refine o_mv (Iv c) rfl ?_
       refine o_buildSlice 4 ([Nv 0, Iv c]) [(0, [Nv 0]), (1, [Iv c])] gn f54_ rfl f62_ rfl rfl rfl rfl rfl rfl rfl ?_
       refine o_build [Nv 2, .row 3, .row 4] [(0, [Nv 2]), (1, [.row 3]), (2, [.row 4])] gn f78_ f77_ rfl rfl rfl ?_
       refine o_store [(4, .row 3 1 ([Nv 0, Iv c])), (3, .row 3 1 ([Nv 1, Iv q])), (2, .var 25 [Nv 2, .row 3, .row 4])] gn f79_ rfl rfl rfl rfl rfl rfl ?_
       refine o_as Tv rfl (aops_end (hK9 _ ?_))
       refine awp_wk (σ' := ⟨[(4, .ref 2 0), (5, Tv)], [(2, .var 25 [Nv 2, .row 3, .row 4]), (3, .row 3 1 ([Nv 1, Iv q])), (4, .row 3 1 ([Nv 0, Iv c]))]⟩) (Wk.sub ⟨rfl, rfl, trivial⟩ ⟨rfl, rfl, rfl, trivial⟩) ?_
       refine awp_wk (σ' := ⟨[(4, .ref 2 0), (5, Tv)], [(2, .var 25 [Nv 2, .sl 1 ([Nv 1, Iv q]), .row 4]), (4, .row 3 1 ([Nv 0, Iv c]))]⟩) (Wk.freeze (id := 3) (e := 3) (sz := 1) (cs := ([Nv 1, Iv q])) rfl) ?_
       refine awp_wk (σ' := ⟨[(4, .ref 2 0), (5, Tv)], [(2, .var 25 [Nv 2, .sl 1 ([Nv 1, Iv q]), .sl 1 ([Nv 0, Iv c])])]⟩) (Wk.freeze (id := 4) (e := 3) (sz := 1) (cs := ([Nv 0, Iv c])) rfl) ?_
       refine awp_ret ?_
       refine post_ret ⟨[mapV (kinM q c), Tv], ⟨⟨2, .var 25 [Nv 2, .sl 1 ([Nv 1, Iv q]), .sl 1 ([Nv 0, Iv c])], rfl, rfl, rfl, Or.inl ⟨f72_, AV.le_agg (LeL.cons (AV.le_refl _) (LeL.cons (AV.le_refl _) (LeL.cons (AV.le_refl _) LeL.nil)))⟩⟩, AV.le_refl _, trivial⟩, rfl, ?_⟩
       have hk : kinOk q c := by unfold kinOk; first | omega | (refine ⟨?_, ?_, ?_, ?_, ?_, ?_⟩ <;> omega)
       exact tup_eq2 (congrArg mapV (if_pos hk)) (bl_bp (b := true) (by simp [hk])).symm

end Go.Proofs.Ytaeknciienkijaa

namespace Go.Proofs.Ytaeknciienkijaa
open Go Go.Ab Go.Mth
theorem f80_ : callable cx.P 40 = true := by kernel_rfl
theorem f81_ : callable cx.P 27 = true := by kernel_rfl
theorem f82_ : callable cx.P 33 = true := by kernel_rfl
theorem f83_ : callable cx.P 48 = true := by kernel_rfl
theorem f84_ : callable cx.P 47 = true := by kernel_rfl
theorem f85_ : callable cx.P 28 = true := by kernel_rfl
theorem f86_ : callable cx.P 26 = true := by kernel_rfl
theorem f87_ : tyPlaces cx.P 86 = some (fun i => (#[(0, 1), (1, 1), (2, 1), (3, 1), (4, 1), (5, 1)] : Array (Nat × Nat))[i]?) := by kernel_rfl
theorem f88_ : tyZero cx.P 86 = some [Go.Value.slice none 0 0, Go.Value.slice none 0 0, Go.Value.slice none 0 0, Go.Value.slice none 0 0, Go.Value.slice none 0 0, Go.Value.slice none 0 0] := by kernel_rfl
theorem f89_ : tyField cx.P 86 0 = some (0, 61) := by kernel_rfl
theorem f90_ : tyField cx.P 86 2 = some (2, 61) := by kernel_rfl
theorem f91_ : tySize cx.P 61 = some 1 := by kernel_rfl
theorem f92_ : tyField cx.P 86 3 = some (3, 61) := by kernel_rfl
theorem f93_ : tyField cx.P 86 4 = some (4, 61) := by kernel_rfl
theorem f94_ : tyField cx.P 86 5 = some (5, 61) := by kernel_rfl
theorem f95_ : callable cx.P 39 = true := by kernel_rfl
theorem c_bAsks (q c N a : Nat) (hk : KinB (q : Int) (c : Int)) (hN : 0 < N) (hf : Fit (N : Int)) (ha : 1 ≤ a) (ha2 : a ≤ 20000) : ECalls cx 25 [Nv q, Nv c, (Sv (txt ((N : Nat) : Int))), Nv a] (.tup [nm .i64 (txt ((q * N + c : Nat) : Int)).size, nm .i64 0]) := by
 refine ecalls_of_awp Try.func25 (c := _) rfl (Nat.le_of_ble_eq_true rfl) ?_
 show awp cx 44 _ (postF cx Try.f25 _) ⟨[(0, Nv q), (1, Nv c), (2, (Sv (txt ((N : Nat) : Int)))), (3, Nv a)], []⟩
 have hS : OkS (txt ((N : Nat) : Int)) := okS_txt hf
 have hsz := okS_sz6 hS
 obtain ⟨e1, e2, e3, e4, e5, e6⟩ := hk
 obtain ⟨f2, f4, f5, f6⟩ := fit6 hf (q := q) (c := c) (by omega) (by omega)
 have hna : (Mw.digs ((N : Nat) : Int).natAbs).length ≤ 1000000 := Nat.le_trans f2 (by decide)
 have h00 : (Mw.digs (0 : Int).natAbs).length ≤ 1000000 := by rw [show (0 : Int).natAbs = 0 from rfl, Mw.digs_zero]; decide
 have fq : (Mw.digs q).length ≤ 1 := Mw.digs_len_of_lt (k := 1) (by omega)
 have fc : (Mw.digs c).length ≤ 1 := Mw.digs_len_of_lt (k := 1) (by omega)
 refine awp_seq fun K0 hK0 => awp_region rfl (o_as (Nv 0) rfl (o_as (Nv 0) rfl (aops_end (hK0 _ (awp_seq fun K1 hK1 => awp_seq fun K2 hK2 => awp_region rfl (o_mv (Sv (txt ((N : Nat) : Int))) rfl ?_))))))
 refine o_ct (c_nValid (txt ((N : Nat) : Int)) (by first | assumption | decide | omega)) gn f80_ rfl ?_
 refine n_as (v' := Tv) (by rw [okS_yes hS]) ?_
 refine o_not (b := true) gn rfl ?_
 refine aops_end (hK2 _ ?_)
 refine awp_condB (b := false) rfl (fun hh => absurd (hh.symm.trans rfl) (by decide)) (fun _ => ?_)
 refine awp_skip (hK1 _ (awp_seq fun K3 hK3 => awp_region rfl (o_mv (Sv (txt ((N : Nat) : Int))) rfl ?_)))
 refine o_ct (c_xParse (txt ((N : Nat) : Int)) (by first | assumption | exact okS_iff.1 (by assumption))) gn f81_ rfl ?_
 refine n_as (v' := (intX ((N : Nat) : Int))) (by exact congrArg intX (numS_txt _)) ?_
 refine o_alloc 2 [Fv, Zv] gn f21_ rfl rfl rfl ?_
 refine o_store [(2, (.var 63 [(bp (((N : Nat) : Int) < 0)), (.sl 1 (ns .u64 (Mw.digs ((N : Nat) : Int).natAbs)))]))] gn f23_ rfl rfl rfl rfl rfl rfl ?_
 refine aops_end (hK3 _ (awp_seq fun K4 hK4 => awp_seq fun K5 hK5 => awp_regionD rfl (o_mv (Nv q) rfl (o_mv (Nv c) rfl ?_))))
 refine o_ct (c_bKin ((q : Nat) : Int) ((c : Nat) : Int)) gn f82_ rfl ?_
 refine n_as (v' := Tv) (by exact bp6y ⟨e1, e2, e3, e4, e5, e6⟩) ?_
 refine o_not (b := true) gn rfl ?_
 refine o_mv Fv rfl ?_
 refine o_loadA [(bp (((N : Nat) : Int) < 0)), (.sl 1 (ns .u64 (Mw.digs ((N : Nat) : Int).natAbs)))] (Gd.yes rfl rfl rfl) f24_ rfl rfl rfl rfl rfl ?_
 refine o_ct c_xSmall0 (Gd.yes rfl rfl rfl) f83_ rfl ?_
 refine o_ct (c_xICmp ((N : Nat) : Int) 0 (by first | omega | assumption) (by first | omega | assumption)) (Gd.yes rfl rfl rfl) f84_ rfl ?_
 refine o_leq (a := (cmpZ ((N : Nat) : Int) 0)) (c := ((0 : Nat) : Int)) (Gd.yes rfl rfl rfl) rfl rfl ?_
 refine n_as (v' := Fv) (by exact bp6n (fun e => by have h9 : cmpZ ((N : Nat) : Int) 0 = 1 := cmp_pos6 hN; omega)) ?_
 refine o_pickF Fv gn rfl rfl rfl ?_
 refine o_mv Fv rfl (o_move (Nv a) (Gd.yes rfl rfl rfl) rfl ?_)
 refine n_lss a 1 (Gd.yes rfl rfl rfl) rfl rfl ?_
 refine n_as (v' := Fv) (by exact bp6n (by omega)) ?_
 refine o_pickF Fv gn rfl rfl rfl ?_
 refine o_mv Fv rfl (o_move (Nv a) (Gd.yes rfl rfl rfl) rfl ?_)
 refine n_gtr a 20000 (Gd.yes rfl rfl rfl) rfl rfl ?_
 refine n_as (v' := Fv) (by exact bp6n (by omega)) ?_
 refine o_pickF Fv gn rfl rfl rfl ?_
 refine aops_end ⟨by kernel_rfl, ?_⟩
 refine hK5 _ ?_
 refine awp_condB (b := false) rfl (fun hh => absurd (hh.symm.trans rfl) (by decide)) (fun _ => ?_)
 refine awp_skip (hK4 _ (awp_seq fun K6 hK6 => ?_))
 refine awp_wk (σ' := ⟨[(0, Nv q), (1, Nv c), (2, (Sv (txt ((N : Nat) : Int)))), (3, Nv a), (11, (Sv (txt ((N : Nat) : Int)))), (12, Tv), (13, Fv), (14, (Sv (txt ((N : Nat) : Int)))), (15, (intX ((N : Nat) : Int))), (10, .ref 2 0), (16, Nv q), (17, Nv c), (18, Tv), (19, Fv), (20, Fv), (21, (.agg [(bp (((N : Nat) : Int) < 0)), (.sl 1 (ns .u64 (Mw.digs ((N : Nat) : Int).natAbs)))])), (22, intX 0), (23, (Iv (cmpZ ((N : Nat) : Int) 0))), (24, Fv), (25, Fv), (26, Fv), (27, Nv a), (28, Fv), (29, Fv), (30, Fv), (31, Nv a), (32, Fv), (33, Fv)], [(2, (.var 63 [(bp (((N : Nat) : Int) < 0)), (.sl 1 (ns .u64 (Mw.digs ((N : Nat) : Int).natAbs)))]))]⟩) (Wk.sub ⟨rfl, rfl, rfl, rfl, rfl, rfl, rfl, rfl, rfl, rfl, rfl, rfl, rfl, rfl, rfl, rfl, rfl, rfl, rfl, rfl, rfl, rfl, rfl, rfl, rfl, rfl, rfl, rfl, trivial⟩ ⟨rfl, trivial⟩) ?_
 refine awp_regionSK 4 38 _ 26 [] _ _ _ _ _ [Nv q, Nv c, .sl 1 (ns .u64 (Mw.digs N))] (.ref 3 0) [(3, .var 86 [.sl 1 (ns .u64 (Mw.digs q)), .sl 1 (ns .u64 (Mw.digs N)), .sl 1 (ns .u64 (Mw.digs (q * N + c))), .sl 1 (ns .u64 (Mw.digs 1)), .sl 1 (ns .u64 (Mw.digs 1)), .sl 1 (ns .u64 (Mw.digs 1))]), (2, (.var 63 [(bp (((N : Nat) : Int) < 0)), (.sl 1 (ns .u64 (Mw.digs ((N : Nat) : Int).natAbs)))]))] rfl rfl f86_ ?_
 refine o_mv (Nv q) rfl (o_mv (Nv c) rfl ?_)
 refine o_loadA [(bp (((N : Nat) : Int) < 0)), (.sl 1 (ns .u64 (Mw.digs ((N : Nat) : Int).natAbs)))] gn f24_ rfl rfl rfl rfl rfl ?_
 refine o_ct (c_xNat ((N : Nat) : Int)) gn f85_ rfl ?_
 refine n_as (v' := (.sl 1 (ns .u64 (Mw.digs N)))) (by rfl) ?_
 refine aops_end ⟨rfl, rfl, ?sc0, ?_⟩
 case sc0 =>
  refine scalls_of_awpB 9009 Try.func26 (c := _) rfl (Nat.le_of_ble_eq_true rfl) rfl rfl rfl (fun us0 => ?_)
  show awp cx 40 _ (postS cx Try.f26 (.ref 3 0) [(3, .var 86 [.sl 1 (ns .u64 (Mw.digs q)), .sl 1 (ns .u64 (Mw.digs N)), .sl 1 (ns .u64 (Mw.digs (q * N + c))), .sl 1 (ns .u64 (Mw.digs 1)), .sl 1 (ns .u64 (Mw.digs 1)), .sl 1 (ns .u64 (Mw.digs 1))]), (2, (.var 63 [(bp (((N : Nat) : Int) < 0)), (.sl 1 (ns .u64 (Mw.digs ((N : Nat) : Int).natAbs)))]))] 9009 [.sl 1 (ns .u64 (Mw.digs N)), (.agg [(bp (((N : Nat) : Int) < 0)), (.sl 1 (ns .u64 (Mw.digs ((N : Nat) : Int).natAbs)))]), Nv c, Nv q, Nv q, Nv c, (Sv (txt ((N : Nat) : Int))), Nv a, (Sv (txt ((N : Nat) : Int))), Tv, Fv, (Sv (txt ((N : Nat) : Int))), (intX ((N : Nat) : Int)), .ref 2 0, Nv q, Nv c, Tv, Fv, Fv, (.agg [(bp (((N : Nat) : Int) < 0)), (.sl 1 (ns .u64 (Mw.digs ((N : Nat) : Int).natAbs)))]), intX 0, (Iv (cmpZ ((N : Nat) : Int) 0)), Fv, Fv, Fv, Nv a, Fv, Fv, Fv, Nv a, Fv, Fv] us0) ⟨[(0, Nv q), (1, Nv c), (2, .sl 1 (ns .u64 (Mw.digs N)))], [(9009, (.pin [.sl 1 (ns .u64 (Mw.digs N)), (.agg [(bp (((N : Nat) : Int) < 0)), (.sl 1 (ns .u64 (Mw.digs ((N : Nat) : Int).natAbs)))]), Nv c, Nv q, Nv q, Nv c, (Sv (txt ((N : Nat) : Int))), Nv a, (Sv (txt ((N : Nat) : Int))), Tv, Fv, (Sv (txt ((N : Nat) : Int))), (intX ((N : Nat) : Int)), .ref 2 0, Nv q, Nv c, Tv, Fv, Fv, (.agg [(bp (((N : Nat) : Int) < 0)), (.sl 1 (ns .u64 (Mw.digs ((N : Nat) : Int).natAbs)))]), intX 0, (Iv (cmpZ ((N : Nat) : Int) 0)), Fv, Fv, Fv, Nv a, Fv, Fv, Fv, Nv a, Fv, Fv] us0)), (2, (.var 63 [(bp (((N : Nat) : Int) < 0)), (.sl 1 (ns .u64 (Mw.digs ((N : Nat) : Int).natAbs)))]))]⟩
  refine awp_seq fun K7 hK7 => awp_region rfl (o_as (.lit (Go.Value.pointer none)) rfl (aops_end (hK7 _ (awp_seq fun K8 hK8 => awp_region rfl (o_mv (Nv q) rfl ?_)))))
  refine n_conv q gn rfl f18_ f34_ (by simp only [topOf]; omega) ?_
  refine o_ct (c_xOf q (by first | omega | assumption)) gn f15_ rfl ?_
  refine o_mv (.sl 1 (ns .u64 (Mw.digs N))) rfl ?_
  refine o_build [.sl 1 (ns .u64 (Mw.digs q)), .sl 1 (ns .u64 (Mw.digs N)), Zv, Zv, Zv, Zv] [(0, [.sl 1 (ns .u64 (Mw.digs q))]), (1, [.sl 1 (ns .u64 (Mw.digs N))])] gn f87_ f88_ rfl rfl rfl ?_
  refine o_box 3 [.sl 1 (ns .u64 (Mw.digs q)), .sl 1 (ns .u64 (Mw.digs N)), Zv, Zv, Zv, Zv] gn rfl rfl ?_
  refine o_as (.ref 3 0) rfl (aops_end (hK8 _ (awp_seq fun K9 hK9 => awp_region rfl (o_mv (.ref 3 0) rfl (o_mv (.ref 3 0) rfl ?_)))))
  refine o_nilRef gn rfl ?_
  refine o_fieldRef 0 gn f89_ rfl rfl ?_
  refine o_loadS (.sl 1 (ns .u64 (Mw.digs q))) gn f26_ rfl rfl rfl ?_
  refine o_mv (.sl 1 (ns .u64 (Mw.digs N))) rfl ?_
  refine o_ct (c_xTimes q N (by first | omega | assumption) (by first | omega | assumption)) gn f16_ rfl ?_
  refine o_mv (Nv c) rfl ?_
  refine n_conv c gn rfl f18_ f34_ (by simp only [topOf]; omega) ?_
  refine o_ct (c_xOf c (by first | omega | assumption)) gn f15_ rfl ?_
  refine o_ct (c_xPlus (q * N) c (by first | omega | assumption) (by first | omega | assumption)) gn f30_ rfl ?_
  refine o_nilRef gn rfl ?_
  refine o_fieldRef 2 gn f90_ rfl rfl ?_
  refine o_store [(3, .var 86 [.sl 1 (ns .u64 (Mw.digs q)), .sl 1 (ns .u64 (Mw.digs N)), .sl 1 (ns .u64 (Mw.digs (q * N + c))), Zv, Zv, Zv]), (9009, (.pin [.sl 1 (ns .u64 (Mw.digs N)), (.agg [(bp (((N : Nat) : Int) < 0)), (.sl 1 (ns .u64 (Mw.digs ((N : Nat) : Int).natAbs)))]), Nv c, Nv q, Nv q, Nv c, (Sv (txt ((N : Nat) : Int))), Nv a, (Sv (txt ((N : Nat) : Int))), Tv, Fv, (Sv (txt ((N : Nat) : Int))), (intX ((N : Nat) : Int)), .ref 2 0, Nv q, Nv c, Tv, Fv, Fv, (.agg [(bp (((N : Nat) : Int) < 0)), (.sl 1 (ns .u64 (Mw.digs ((N : Nat) : Int).natAbs)))]), intX 0, (Iv (cmpZ ((N : Nat) : Int) 0)), Fv, Fv, Fv, Nv a, Fv, Fv, Fv, Nv a, Fv, Fv] us0)), (2, (.var 63 [(bp (((N : Nat) : Int) < 0)), (.sl 1 (ns .u64 (Mw.digs ((N : Nat) : Int).natAbs)))]))] gn f91_ rfl rfl rfl rfl rfl rfl ?_
  refine aops_end (hK9 _ (awp_seq fun K10 hK10 => awp_region rfl (o_mv (.ref 3 0) rfl (o_mv (.ref 3 0) rfl (o_mv (.ref 3 0) rfl ?_)))))
  refine o_ct (c_xOf 1 (by first | omega | assumption)) gn f15_ rfl ?_
  refine o_ct (c_xOf 1 (by first | omega | assumption)) gn f15_ rfl ?_
  refine o_ct (c_xOf 1 (by first | omega | assumption)) gn f15_ rfl ?_
  refine o_nilRef gn rfl ?_
  refine o_fieldRef 3 gn f92_ rfl rfl ?_
  refine o_store [(3, .var 86 [.sl 1 (ns .u64 (Mw.digs q)), .sl 1 (ns .u64 (Mw.digs N)), .sl 1 (ns .u64 (Mw.digs (q * N + c))), .sl 1 (ns .u64 (Mw.digs 1)), Zv, Zv]), (9009, (.pin [.sl 1 (ns .u64 (Mw.digs N)), (.agg [(bp (((N : Nat) : Int) < 0)), (.sl 1 (ns .u64 (Mw.digs ((N : Nat) : Int).natAbs)))]), Nv c, Nv q, Nv q, Nv c, (Sv (txt ((N : Nat) : Int))), Nv a, (Sv (txt ((N : Nat) : Int))), Tv, Fv, (Sv (txt ((N : Nat) : Int))), (intX ((N : Nat) : Int)), .ref 2 0, Nv q, Nv c, Tv, Fv, Fv, (.agg [(bp (((N : Nat) : Int) < 0)), (.sl 1 (ns .u64 (Mw.digs ((N : Nat) : Int).natAbs)))]), intX 0, (Iv (cmpZ ((N : Nat) : Int) 0)), Fv, Fv, Fv, Nv a, Fv, Fv, Fv, Nv a, Fv, Fv] us0)), (2, (.var 63 [(bp (((N : Nat) : Int) < 0)), (.sl 1 (ns .u64 (Mw.digs ((N : Nat) : Int).natAbs)))]))] gn f91_ rfl rfl rfl rfl rfl rfl ?_
  refine o_nilRef gn rfl ?_
  refine o_fieldRef 4 gn f93_ rfl rfl ?_
  refine o_store [(3, .var 86 [.sl 1 (ns .u64 (Mw.digs q)), .sl 1 (ns .u64 (Mw.digs N)), .sl 1 (ns .u64 (Mw.digs (q * N + c))), .sl 1 (ns .u64 (Mw.digs 1)), .sl 1 (ns .u64 (Mw.digs 1)), Zv]), (9009, (.pin [.sl 1 (ns .u64 (Mw.digs N)), (.agg [(bp (((N : Nat) : Int) < 0)), (.sl 1 (ns .u64 (Mw.digs ((N : Nat) : Int).natAbs)))]), Nv c, Nv q, Nv q, Nv c, (Sv (txt ((N : Nat) : Int))), Nv a, (Sv (txt ((N : Nat) : Int))), Tv, Fv, (Sv (txt ((N : Nat) : Int))), (intX ((N : Nat) : Int)), .ref 2 0, Nv q, Nv c, Tv, Fv, Fv, (.agg [(bp (((N : Nat) : Int) < 0)), (.sl 1 (ns .u64 (Mw.digs ((N : Nat) : Int).natAbs)))]), intX 0, (Iv (cmpZ ((N : Nat) : Int) 0)), Fv, Fv, Fv, Nv a, Fv, Fv, Fv, Nv a, Fv, Fv] us0)), (2, (.var 63 [(bp (((N : Nat) : Int) < 0)), (.sl 1 (ns .u64 (Mw.digs ((N : Nat) : Int).natAbs)))]))] gn f91_ rfl rfl rfl rfl rfl rfl ?_
  refine o_nilRef gn rfl ?_
  refine o_fieldRef 5 gn f94_ rfl rfl ?_
  refine o_store [(3, .var 86 [.sl 1 (ns .u64 (Mw.digs q)), .sl 1 (ns .u64 (Mw.digs N)), .sl 1 (ns .u64 (Mw.digs (q * N + c))), .sl 1 (ns .u64 (Mw.digs 1)), .sl 1 (ns .u64 (Mw.digs 1)), .sl 1 (ns .u64 (Mw.digs 1))]), (9009, (.pin [.sl 1 (ns .u64 (Mw.digs N)), (.agg [(bp (((N : Nat) : Int) < 0)), (.sl 1 (ns .u64 (Mw.digs ((N : Nat) : Int).natAbs)))]), Nv c, Nv q, Nv q, Nv c, (Sv (txt ((N : Nat) : Int))), Nv a, (Sv (txt ((N : Nat) : Int))), Tv, Fv, (Sv (txt ((N : Nat) : Int))), (intX ((N : Nat) : Int)), .ref 2 0, Nv q, Nv c, Tv, Fv, Fv, (.agg [(bp (((N : Nat) : Int) < 0)), (.sl 1 (ns .u64 (Mw.digs ((N : Nat) : Int).natAbs)))]), intX 0, (Iv (cmpZ ((N : Nat) : Int) 0)), Fv, Fv, Fv, Nv a, Fv, Fv, Fv, Nv a, Fv, Fv] us0)), (2, (.var 63 [(bp (((N : Nat) : Int) < 0)), (.sl 1 (ns .u64 (Mw.digs ((N : Nat) : Int).natAbs)))]))] gn f91_ rfl rfl rfl rfl rfl rfl ?_
  refine aops_end (hK10 _ (awp_seq fun K11 hK11 => awp_region rfl (o_mv (.ref 3 0) rfl (o_as (.ref 3 0) rfl (aops_end (hK11 _ ?_))))))
  refine awp_wk (σ' := ⟨[(6, .ref 3 0)], [(9009, (.pin [.sl 1 (ns .u64 (Mw.digs N)), (.agg [(bp (((N : Nat) : Int) < 0)), (.sl 1 (ns .u64 (Mw.digs ((N : Nat) : Int).natAbs)))]), Nv c, Nv q, Nv q, Nv c, (Sv (txt ((N : Nat) : Int))), Nv a, (Sv (txt ((N : Nat) : Int))), Tv, Fv, (Sv (txt ((N : Nat) : Int))), (intX ((N : Nat) : Int)), .ref 2 0, Nv q, Nv c, Tv, Fv, Fv, (.agg [(bp (((N : Nat) : Int) < 0)), (.sl 1 (ns .u64 (Mw.digs ((N : Nat) : Int).natAbs)))]), intX 0, (Iv (cmpZ ((N : Nat) : Int) 0)), Fv, Fv, Fv, Nv a, Fv, Fv, Fv, Nv a, Fv, Fv] us0)), (3, .var 86 [.sl 1 (ns .u64 (Mw.digs q)), .sl 1 (ns .u64 (Mw.digs N)), .sl 1 (ns .u64 (Mw.digs (q * N + c))), .sl 1 (ns .u64 (Mw.digs 1)), .sl 1 (ns .u64 (Mw.digs 1)), .sl 1 (ns .u64 (Mw.digs 1))]), (2, (.var 63 [(bp (((N : Nat) : Int) < 0)), (.sl 1 (ns .u64 (Mw.digs ((N : Nat) : Int).natAbs)))]))]⟩) (Wk.sub ⟨rfl, trivial⟩ ⟨rfl, (by first | rfl | rfl), rfl, trivial⟩) ?_
  refine awp_ret ?_
  try dsimp only [thenK, inBlk]
  refine postS_ret (extra := []) ?_ rfl
  refine ⟨[.ref 3 0], ⟨AV.le_refl _, trivial⟩, ?_⟩
  rfl
 refine o_nilRef gn rfl ?_
 refine o_fieldRef 2 gn f90_ rfl rfl ?_
 refine o_loadS (.sl 1 (ns .u64 (Mw.digs (q * N + c)))) gn f26_ rfl rfl rfl ?_
 refine o_ct (c_xDigits (q * N + c) (by first | omega | assumption) (by first | omega | assumption)) gn f95_ rfl ?_
 refine n_lenS (txt ((q * N + c : Nat) : Int)) gn rfl f37_ ?_
 refine o_as (Nv ((txt ((q * N + c : Nat) : Int)).size)) rfl (o_as (Nv 0) rfl (aops_end (hK6 _ ?_)))
 refine awp_ret ?_
 refine post_ret ⟨[(Nv ((txt ((q * N + c : Nat) : Int)).size)), Nv 0], ⟨AV.le_refl _, AV.le_refl _, trivial⟩, rfl, ?_⟩
 rfl

end Go.Proofs.Ytaeknciienkijaa

namespace Go.Mth
open Go Go.Ab
def FitB (q c N a k : Nat) : Prop := q ^ a < 2 ^ k ∧ N ^ a * 2 ^ k ≤ (q * N + c) ^ a
instance (q c N a k : Nat) : Decidable (FitB q c N a k) := inferInstanceAs (Decidable (q ^ a < 2 ^ k ∧ N ^ a * 2 ^ k ≤ (q * N + c) ^ a))
theorem pow_len6 {x L a : Nat} (h : (Mw.digs x).length ≤ L) : (Mw.digs (x ^ a)).length ≤ L * a + 1 := by
 refine Mw.digs_len_of_lt ?_
 have h1 : x < 18446744073709551616 ^ L := Nat.lt_of_lt_of_le (Mw.digs_hi x) (Nat.pow_le_pow_right (by decide) h)
 have h2 := Nat.pow_le_pow_left (Nat.le_of_lt h1) a
 rw [← Nat.pow_mul] at h2
 exact Nat.lt_of_le_of_lt h2 (Nat.pow_lt_pow_right (by decide) (by omega))
theorem up_len6 {x k A : Nat} (h : (Mw.digs x).length ≤ A) : (Mw.digs (x * 2 ^ k)).length ≤ A + k := by
 refine Mw.digs_len_of_lt ?_
 have d1 := Nat.lt_of_lt_of_le (Mw.digs_hi x) (Nat.pow_le_pow_right (show 0 < 18446744073709551616 by decide) h)
 have d2 := Nat.pow_le_pow_left (show 2 ≤ 18446744073709551616 by decide) k
 rw [Nat.pow_add]
 exact Nat.mul_lt_mul_of_lt_of_le d1 d2 (Nat.pow_pos (by decide))
theorem pow6 {N q t a k : Nat} (h1 : (Mw.digs N).length ≤ 2000) (h2 : (Mw.digs t).length ≤ 2007) (h3 : (Mw.digs q).length ≤ 1) (ha : a ≤ 60) (hk : k ≤ 10000) : (Mw.digs (q ^ a)).length ≤ 1000 ∧ (Mw.digs (N ^ a)).length ≤ 200000 ∧ (Mw.digs (t ^ a)).length ≤ 200000 ∧ (Mw.digs (N ^ a * 2 ^ k)).length ≤ 300000 := by
 have a1 := pow_len6 (a := a) h1
 have a2 := pow_len6 (a := a) h2
 have a3 := pow_len6 (a := a) h3
 have b1 := Nat.mul_le_mul_left 2000 ha
 have b2 := Nat.mul_le_mul_left 2007 ha
 have a4 := up_len6 (k := k) a1
 exact ⟨by omega, by omega, by omega, by omega⟩
end Go.Mth

namespace Go.Mth
open Go Go.Ab
def FitL (q c N j : Nat) : Prop := N ^ j * 2 ^ Mw.bits (q ^ j) ≤ (q * N + c) ^ j
instance (q c N j : Nat) : Decidable (FitL q c N j) := inferInstanceAs (Decidable (N ^ j * 2 ^ Mw.bits (q ^ j) ≤ (q * N + c) ^ j))
def lsG (q c N a : Nat) : Nat → Nat
 | 0 => 0
 | f + 1 => if FitL q c N (a - f) then a - f else lsG q c N a f
def lsF (q c N a : Nat) : Nat := lsG q c N a a
theorem lsG_no {q c N a i : Nat} (hi : i ≤ a) (h : ∀ j, 1 ≤ j → j ≤ i → ¬ FitL q c N j) : lsF q c N a = lsG q c N a (a - i) := by
 induction i with
 | zero => rfl
 | succ i ih =>
  rw [ih (by omega) (fun j h1 h2 => h j h1 (by omega)), show a - i = (a - (i + 1)) + 1 from by omega]
  show (if FitL q c N (a - (a - (i + 1))) then _ else _) = _
  rw [show a - (a - (i + 1)) = i + 1 from by omega, if_neg (h (i + 1) (by omega) (by omega))]
theorem lsF_hit {q c N a i : Nat} (hi : i < a) (h : ∀ j, 1 ≤ j → j ≤ i → ¬ FitL q c N j) (hf : FitL q c N (i + 1)) : lsF q c N a = i + 1 := by
 rw [lsG_no (by omega) h, show a - i = (a - (i + 1)) + 1 from by omega]
 show (if FitL q c N (a - (a - (i + 1))) then _ else _) = _
 rw [show a - (a - (i + 1)) = i + 1 from by omega, if_pos hf]
theorem lsF_none {q c N a i : Nat} (hi : i = a) (h : ∀ j, 1 ≤ j → j ≤ i → ¬ FitL q c N j) : lsF q c N a = 0 := by
 rw [lsG_no (by omega) h, hi, Nat.sub_self]; rfl
theorem no_s {q c N i : Nat} (h : ∀ j, 1 ≤ j → j ≤ i → ¬ FitL q c N j) (h2 : ¬ FitL q c N (i + 1)) : ∀ j, 1 ≤ j → j ≤ i + 1 → ¬ FitL q c N j := by
 intro j a1 a2
 rcases Nat.lt_or_ge i j with e | e
 ·rw [show j = i + 1 from by omega]; exact h2
 ·exact h j a1 e
theorem bits_pow6 {q a : Nat} (hq : q ≤ 999) (ha : a ≤ 60) : Mw.bits (q ^ a) ≤ 601 := by
 have h2 : Mw.bits (q ^ a) ≤ 10 * a + 1 := by
  refine Mw.bits_le.2 ?_
  have h1 := Nat.pow_le_pow_left (show q ≤ 2 ^ 10 by omega) a
  rw [← Nat.pow_mul] at h1
  exact Nat.lt_of_le_of_lt h1 (Nat.pow_lt_pow_right (by decide) (by omega))
 omega
theorem pow7 {N q t i : Nat} (h1 : (Mw.digs N).length ≤ 2000) (h2 : (Mw.digs t).length ≤ 2007) (h3 : (Mw.digs q).length ≤ 1) (hq : q ≤ 999) (ha : i ≤ 60) :
  (Mw.digs (q ^ i)).length ≤ 1000 ∧ (Mw.digs (N ^ i)).length ≤ 200000 ∧ (Mw.digs (t ^ i)).length ≤ 200000 ∧ (Mw.digs (q ^ i * q)).length ≤ 1000 ∧ (Mw.digs (N ^ i * N)).length ≤ 200000 ∧ (Mw.digs (t ^ i * t)).length ≤ 200000 ∧ Mw.bits (q ^ i * q) ≤ 1000 ∧ (Mw.digs (N ^ i * N * 2 ^ Mw.bits (q ^ i * q))).length ≤ 300000 := by
 obtain ⟨u1, u2, u3, u4⟩ := pow6 (k := 0) h1 h2 h3 ha (by omega)
 have a1 := pow_len6 (a := i + 1) h1
 have a2 := pow_len6 (a := i + 1) h2
 have a3 := pow_len6 (a := i + 1) h3
 have b : Mw.bits (q ^ i * q) ≤ 1000 := by
  have h2 : Mw.bits (q ^ i * q) ≤ 10 * (i + 1) + 1 := by
   refine Mw.bits_le.2 ?_
   have h1 := Nat.pow_le_pow_left (show q ≤ 2 ^ 10 by omega) (i + 1)
   rw [← Nat.pow_mul] at h1
   exact Nat.lt_of_le_of_lt h1 (Nat.pow_lt_pow_right (by decide) (by omega))
  omega
 have a4 := up_len6 (k := Mw.bits (q ^ i * q)) a1
 rw [Nat.pow_succ] at a1 a2 a3 a4
 exact ⟨u1, u2, u3, by omega, by omega, by omega, b, by omega⟩
noncomputable def lsV (q c N a : Nat) : AV := .tup [nm .i64 (lsF q c N a), nm .i64 (if lsF q c N a = 0 then 0 else Mw.bits (q ^ lsF q c N a)), nm .i64 (if lsF q c N a = 0 then 4 else 0)]
theorem lsV_hit {q c N a i : Nat} (hi : i < a) (h : ∀ j, 1 ≤ j → j ≤ i → ¬ FitL q c N j) (hf : FitL q c N (i + 1)) : lsV q c N a = .tup [nm .i64 (i + 1), nm .i64 (Mw.bits (q ^ (i + 1))), nm .i64 0] := by
 unfold lsV; rw [lsF_hit hi h hf, if_neg (Nat.succ_ne_zero i), if_neg (Nat.succ_ne_zero i)]
theorem lsV_none {q c N a i : Nat} (hi : i = a) (h : ∀ j, 1 ≤ j → j ≤ i → ¬ FitL q c N j) : lsV q c N a = .tup [nm .i64 0, nm .i64 0, nm .i64 4] := by
 unfold lsV; rw [lsF_none hi h, if_pos rfl, if_pos rfl]
end Go.Mth

namespace Go.Ab
open Go.RowKit
def Lex (C : Ctx) (n : Nat) (ops : Array Oper) (i : Nat) (os : List Oper) (σ : St) (Q : St → Prop) : Prop :=
 ∀ (w0 : World) (r : Option Nat) (Qx : Exit → Act → World → Prop) (rest : List Nat) (H : Heap) (L : Loc) (a : Act) (w : World), (ops.toList.drop i).take os.length = os → dstsB n ops.toList = true → Rep C n w0 H L σ.sem a w →
  (∀ a' w' H' L' σ', Ext w0.heap.size H H' → Rep C n w0 H' L' σ'.sem a' w' → Q σ' → wpOpsIn (fen r) 0 C.P ops Qx rest a' w') → wpOpsIn (fen r) 0 C.P ops Qx (List.range' i os.length ++ rest) a w
theorem Lex.fin {C : Ctx} {n : Nat} {ops : Array Oper} {i : Nat} {os : List Oper} {σ : St} {Q : St → Prop} (h : aops C ops σ os fun _ σ' => Q σ') : Lex C n ops i os σ Q := fun w0 r Qx rest H L a w hos hd hr hQ => by
 obtain ⟨es, σ1, ht, hq⟩ := h
 have hsub : ∀ o ∈ os, o ∈ ops.toList := fun o ho => by rw [← hos] at ho; exact List.mem_of_mem_drop (List.mem_of_mem_take ho)
 exact lex_prefix (C := C) (n := n) (w0 := w0) r rest os i σ.sem σ1.sem es H L a w hos ht hr (fun o ho => dsts_spec hd o (hsub o ho)) fun a' w' H' L' hx hr' => hQ a' w' H' L' σ1 hx hr' hq
theorem Lex.call {C : Ctx} {n : Nat} {ops : Array Oper} {i : Nat} {os : List Oper} {σ : St} {Q : St → Prop} (k d : Nat) (y : Operand) (f : FuncId) (caps : List AV) (args : Array Operand) (tys : Array TypeId) (t : TypeId) (p : String) (af : Array Edge) (asx : List AV) (res : AV) (m' : List (Nat × AO))
  (hk : os[k]? = some ⟨some d, .call { callee := .value y, args := args, argTypes := tys }, t, p, af, none⟩) (hb : callable C.P f = true)
  (h : aops C ops σ (os.take k) fun _ σ1 => σ1.ev y = .clo f caps ∧ args.toList.map σ1.sem.ev ++ caps = asx ∧ SCalls C n f asx σ1.slots σ1.objs res m' ∧ Lex C n ops (i + k + 1) (os.drop (k + 1)) ⟨(d, res) :: σ1.slots, m'⟩ Q) : Lex C n ops i os σ Q := fun w0 r Qx rest H L a w hos hd hr hQ => by
 obtain ⟨es, σ1, ht, hy, has, hS, hL⟩ := h
 obtain ⟨hl, hx0⟩ := List.getElem?_eq_some_iff.1 hk
 have hsub : ∀ o ∈ os, o ∈ ops.toList := fun o ho => by rw [← hos] at ho; exact List.mem_of_mem_drop (List.mem_of_mem_take ho)
 have hdst := dsts_spec hd
 have hlen : os.length = k + (1 + (os.length - (k + 1))) := by omega
 have hget : ∀ j, j < os.length → ops.toList[i + j]? = os[j]? := fun j hj => by
  have := congrArg (fun l : List Oper => l[j]?) hos
  simp only [List.getElem?_take, hj, if_true, List.getElem?_drop] at this
  exact this
 rw [hlen, ← List.range'_append_1, List.append_assoc]
 have htk : (os.take k).length = k := by rw [List.length_take]; omega
 have h1 := lex_prefix (C := C) (n := n) (w0 := w0) (ops := ops) (Q := Qx) r (List.range' (i + k) (1 + (os.length - (k + 1))) ++ rest) (os.take k) i σ.sem σ1.sem es H L a w (by rw [htk]; rw [← hos, List.take_take, Nat.min_eq_left (by omega)]) ht hr (fun o ho => hdst o (hsub o (List.mem_of_mem_take ho)))
 rw [htk] at h1
 refine h1 fun a' w' H' L' hx hr' => ?_
 rw [Nat.add_comm 1, List.range'_succ, List.cons_append, wpOpsIn_cons]
 have hi : ops[i + k]? = some ⟨some d, .call { callee := .value y, args := args, argTypes := tys }, t, p, af, none⟩ := by
  rw [← Array.getElem?_toList, hget k hl, hk]
 unfold wpOpIn
 simp only [hi]
 rw [if_pos (by simp [Region.wanted])]
 have hyv := hr'.ev y
 rw [ev_sem, hy] at hyv
 simp only [RepV] at hyv
 obtain ⟨cv, hev, hcr⟩ := hyv
 have hargs : ∀ (xs : List Operand), RepL H' (xs.map σ1.sem.ev) L' (xs.map a'.eval) := by
  intro xs
  induction xs with
  | nil => simp only [List.map_nil, RepL]
  | cons x xs ih => simp only [List.map_cons, RepL]; exact ⟨_, _, rfl, hr'.ev x, ih⟩
 have hal := (hargs args.toList).app hcr
 rw [has] at hal
 have hc := hS w0 H' L' a' w' _ hr' hal
 have e1 : (List.map a'.eval args.toList ++ cv).toArray = args.map a'.eval ++ cv.toArray := by apply Array.ext'; simp
 rw [e1] at hc
 refine wp_enter (run_call_val rfl hev (callable_spec hb).1 (callable_spec hb).2) (hc.mono ?_) r
 rintro e w2 ⟨v, H2, L2, rfl, hx2, hv2, hr2⟩
 refine ⟨v, rfl, ?_⟩
 have hmem : (⟨some d, .call { callee := .value y, args := args, argTypes := tys }, t, p, af, none⟩ : Oper) ∈ ops.toList := hsub _ (by rw [← hx0]; exact List.getElem_mem _)
 have hdn : d < n := hdst _ hmem d rfl
 have hv := hr2.val (dst := some d) (fun d' hd' => by cases hd'; exact hdn) (x := res) (v := v) hv2 [] []
 rw [← sem_app] at hv
 have hdl : (os.drop (k + 1)).length = os.length - (k + 1) := by rw [List.length_drop]
 have h2 := hL w0 r Qx rest H2 L2 _ w2 (by
  rw [hdl, ← hos, List.drop_take, List.drop_drop, List.length_take]
  congr 1
  have := congrArg List.length hos
  rw [List.length_take] at this
  omega) hd hv fun a3 w3 H3 L3 σ3 hx3 hr3 hq3 => hQ a3 w3 H3 L3 σ3 ((hx.trans hx2).trans hx3) hr3 hq3
 rw [hdl] at h2
 exact h2
theorem awp_regionN {C : Ctx} {n : Nat} {Q : Exit → St → Prop} {σ : St} {id : Nat} {ops : Array Oper} (hd : dstsB n ops.toList = true) (h : Lex C n ops 0 ops.toList σ fun σ' => Q .normal σ') : awp C n (.region id ops false) Q σ := fun w0 H L a w hr r => by
 refine wpIn_region ?_
 rw [List.range_eq_range']
 have := h w0 r (fun e a w => Post C n w0 H Q e a w) [] H L a w (by rw [List.drop_zero, List.take_length]) hd hr fun a' w' H' L' σ' hx hr' hq => ⟨σ', H', L', hx, hr', hq⟩
 rw [List.append_nil] at this
 simpa using this
end Go.Ab

namespace Go.Proofs.Ytaeknciienkijaa
open Go Go.Ab Go.Mth
theorem f96_ : callable cx.P 25 = true := by kernel_rfl
theorem f97_ : callable cx.P 31 = true := by kernel_rfl
theorem f98_ : tyField cx.P 86 1 = some (1, 61) := by kernel_rfl
theorem f99_ : callable cx.P 32 = true := by kernel_rfl
theorem f100_ : callable cx.P 55 = true := by kernel_rfl
theorem f101_ : callable cx.P 30 = true := by kernel_rfl
theorem f102_ : callable cx.P 36 = true := by kernel_rfl
theorem c_bLeast (q c N a : Nat) (hk : KinB (q : Int) (c : Int)) (hN : 0 < N) (hf : Fit (N : Int)) (ha : 1 ≤ a) (ha2 : a ≤ 60) (hsz : a * (txt ((q * N + c : Nat) : Int)).size ≤ 100000) : ECalls cx 15 [Nv q, Nv c, (Sv (txt ((N : Nat) : Int))), Nv a] (lsV q c N a) := by
 refine ecalls_of_awp Try.func15 (c := _) rfl (Nat.le_of_ble_eq_true rfl) ?_
 show awp cx 53 _ (postF cx Try.f15 _) ⟨[(0, Nv q), (1, Nv c), (2, (Sv (txt ((N : Nat) : Int)))), (3, Nv a)], []⟩
 have hS : OkS (txt ((N : Nat) : Int)) := okS_txt hf
 have hk0 := hk
 obtain ⟨e1, e2, e3, e4, e5, e6⟩ := hk0
 obtain ⟨f2, f4, f5, f6⟩ := fit6 hf (q := q) (c := c) (by omega) (by omega)
 have fq : (Mw.digs q).length ≤ 1 := Mw.digs_len_of_lt (k := 1) (by omega)
 have fc : (Mw.digs c).length ≤ 1 := Mw.digs_len_of_lt (k := 1) (by omega)
 have g0 : 1 ≤ q * N + c := by omega
 refine awp_seq fun K0 hK0 => awp_region rfl (o_as (Nv 0) rfl (o_as (Nv 0) rfl (o_as (Nv 0) rfl (aops_end (hK0 _ (awp_seq fun K1 hK1 => awp_region rfl (o_mv (Nv q) rfl (o_mv (Nv c) rfl (o_mv (Sv (txt ((N : Nat) : Int))) rfl ?_)))))))))
 refine o_mv (Nv a) rfl ?_
 refine o_ct (c_bAsks q c N a hk hN hf ha (by omega)) gn f96_ rfl ?_
 refine o_mv (.tup [(Nv ((txt ((q * N + c : Nat) : Int)).size)), Nv 0]) rfl (o_extract (Nv ((txt ((q * N + c : Nat) : Int)).size)) gn rfl rfl (o_extract (Nv 0) gn rfl rfl (o_as (Nv ((txt ((q * N + c : Nat) : Int)).size)) rfl (o_as (Nv 0) rfl (aops_end (hK1 _ (awp_seq fun K2 hK2 => ?_)))))))
 refine awp_block ?_
 refine awp_seq fun K3 hK3 => awp_region rfl (o_mv (Nv 0) rfl ?_)
 refine n_neq 0 0 gn rfl rfl ?_
 refine n_as (v' := Fv) (by exact bp6n (by omega)) ?_
 refine o_as Fv rfl (aops_end (hK3 _ ?_))
 refine awp_condB (b := false) rfl (fun hh => absurd (hh.symm.trans rfl) (by decide)) (fun _ => ?_)
 refine awp_seq fun K4 hK4 => awp_region rfl (o_mv (Nv a) rfl (o_mv (Nv ((txt ((q * N + c : Nat) : Int)).size)) rfl ?_))
 refine n_mul a ((txt ((q * N + c : Nat) : Int)).size) gn rfl rfl (by simp only [topOf]; omega) ?_
 refine n_gtr (a * ((txt ((q * N + c : Nat) : Int)).size)) 100000 gn rfl rfl ?_
 refine n_as (v' := Fv) (by exact bp6n (by omega)) ?_
 refine o_as Fv rfl (aops_end (hK4 _ ?_))
 refine awp_condB (b := false) rfl (fun hh => absurd (hh.symm.trans rfl) (by decide)) (fun _ => ?_)
 refine awp_skip (hK2 _ (awp_seq fun K5 hK5 => ?_))
 refine awp_wk (σ' := ⟨[(0, Nv q), (1, Nv c), (2, (Sv (txt ((N : Nat) : Int)))), (3, Nv a), (8, Nv 0), (9, Nv 0), (10, Nv 0), (16, Nv q), (17, Nv c), (18, (Sv (txt ((N : Nat) : Int)))), (19, Nv a), (20, (.tup [(Nv ((txt ((q * N + c : Nat) : Int)).size)), Nv 0])), (15, (.tup [(Nv ((txt ((q * N + c : Nat) : Int)).size)), Nv 0])), (21, (Nv ((txt ((q * N + c : Nat) : Int)).size))), (22, Nv 0), (11, (Nv ((txt ((q * N + c : Nat) : Int)).size))), (12, Nv 0), (24, Nv 0), (25, Fv), (23, Fv), (28, Nv a), (29, (Nv ((txt ((q * N + c : Nat) : Int)).size))), (30, (Nv (a * ((txt ((q * N + c : Nat) : Int)).size)))), (31, Fv), (27, Fv)], []⟩) (Wk.sub ⟨rfl, rfl, rfl, rfl, rfl, rfl, rfl, rfl, rfl, rfl, rfl, rfl, rfl, rfl, rfl, rfl, rfl, rfl, rfl, rfl, rfl, rfl, rfl, rfl, rfl, trivial⟩ trivial) ?_
 refine awp_regionN rfl ?_
 refine Lex.call 5 37 _ 26 [] _ _ _ _ _ [Nv q, Nv c, .sl 1 (ns .u64 (Mw.digs N))] (.ref 2 0) [(2, .var 86 [.sl 1 (ns .u64 (Mw.digs q)), .sl 1 (ns .u64 (Mw.digs N)), .sl 1 (ns .u64 (Mw.digs (q * N + c))), .sl 1 (ns .u64 (Mw.digs 1)), .sl 1 (ns .u64 (Mw.digs 1)), .sl 1 (ns .u64 (Mw.digs 1))])] rfl f86_ ?_
 refine o_mv (Nv q) rfl (o_mv (Nv c) rfl (o_mv (Sv (txt ((N : Nat) : Int))) rfl ?_))
 refine o_ct (c_xParse (txt ((N : Nat) : Int)) (by first | assumption | exact okS_iff.1 (by assumption))) gn f81_ rfl ?_
 refine n_as (v' := (intX ((N : Nat) : Int))) (by exact congrArg intX (numS_txt _)) ?_
 refine o_ct (c_xNat ((N : Nat) : Int)) gn f85_ rfl ?_
 refine n_as (v' := (.sl 1 (ns .u64 (Mw.digs N)))) (by rfl) ?_
 refine aops_end ⟨rfl, rfl, ?sc0, ?_⟩
 case sc0 =>
  refine scalls_of_awpB 9009 Try.func26 (c := _) rfl (Nat.le_of_ble_eq_true rfl) rfl rfl rfl (fun us0 => ?_)
  show awp cx 40 _ (postS cx Try.f26 (.ref 2 0) [(2, .var 86 [.sl 1 (ns .u64 (Mw.digs q)), .sl 1 (ns .u64 (Mw.digs N)), .sl 1 (ns .u64 (Mw.digs (q * N + c))), .sl 1 (ns .u64 (Mw.digs 1)), .sl 1 (ns .u64 (Mw.digs 1)), .sl 1 (ns .u64 (Mw.digs 1))])] 9009 [.sl 1 (ns .u64 (Mw.digs N)), (intX ((N : Nat) : Int)), (Sv (txt ((N : Nat) : Int))), Nv c, Nv q, Nv q, Nv c, (Sv (txt ((N : Nat) : Int))), Nv a, Nv 0, Nv 0, Nv 0, Nv q, Nv c, (Sv (txt ((N : Nat) : Int))), Nv a, (.tup [(Nv ((txt ((q * N + c : Nat) : Int)).size)), Nv 0]), (.tup [(Nv ((txt ((q * N + c : Nat) : Int)).size)), Nv 0]), (Nv ((txt ((q * N + c : Nat) : Int)).size)), Nv 0, (Nv ((txt ((q * N + c : Nat) : Int)).size)), Nv 0, Nv 0, Fv, Fv, Nv a, (Nv ((txt ((q * N + c : Nat) : Int)).size)), (Nv (a * ((txt ((q * N + c : Nat) : Int)).size))), Fv, Fv] us0) ⟨[(0, Nv q), (1, Nv c), (2, .sl 1 (ns .u64 (Mw.digs N)))], [(9009, (.pin [.sl 1 (ns .u64 (Mw.digs N)), (intX ((N : Nat) : Int)), (Sv (txt ((N : Nat) : Int))), Nv c, Nv q, Nv q, Nv c, (Sv (txt ((N : Nat) : Int))), Nv a, Nv 0, Nv 0, Nv 0, Nv q, Nv c, (Sv (txt ((N : Nat) : Int))), Nv a, (.tup [(Nv ((txt ((q * N + c : Nat) : Int)).size)), Nv 0]), (.tup [(Nv ((txt ((q * N + c : Nat) : Int)).size)), Nv 0]), (Nv ((txt ((q * N + c : Nat) : Int)).size)), Nv 0, (Nv ((txt ((q * N + c : Nat) : Int)).size)), Nv 0, Nv 0, Fv, Fv, Nv a, (Nv ((txt ((q * N + c : Nat) : Int)).size)), (Nv (a * ((txt ((q * N + c : Nat) : Int)).size))), Fv, Fv] us0))]⟩
  refine awp_seq fun K6 hK6 => awp_region rfl (o_as (.lit (Go.Value.pointer none)) rfl (aops_end (hK6 _ (awp_seq fun K7 hK7 => awp_region rfl (o_mv (Nv q) rfl ?_)))))
  refine n_conv q gn rfl f18_ f34_ (by simp only [topOf]; omega) ?_
  refine o_ct (c_xOf q (by first | omega | assumption)) gn f15_ rfl ?_
  refine o_mv (.sl 1 (ns .u64 (Mw.digs N))) rfl ?_
  refine o_build [.sl 1 (ns .u64 (Mw.digs q)), .sl 1 (ns .u64 (Mw.digs N)), Zv, Zv, Zv, Zv] [(0, [.sl 1 (ns .u64 (Mw.digs q))]), (1, [.sl 1 (ns .u64 (Mw.digs N))])] gn f87_ f88_ rfl rfl rfl ?_
  refine o_box 2 [.sl 1 (ns .u64 (Mw.digs q)), .sl 1 (ns .u64 (Mw.digs N)), Zv, Zv, Zv, Zv] gn rfl rfl ?_
  refine o_as (.ref 2 0) rfl (aops_end (hK7 _ (awp_seq fun K8 hK8 => awp_region rfl (o_mv (.ref 2 0) rfl (o_mv (.ref 2 0) rfl ?_)))))
  refine o_nilRef gn rfl ?_
  refine o_fieldRef 0 gn f89_ rfl rfl ?_
  refine o_loadS (.sl 1 (ns .u64 (Mw.digs q))) gn f26_ rfl rfl rfl ?_
  refine o_mv (.sl 1 (ns .u64 (Mw.digs N))) rfl ?_
  refine o_ct (c_xTimes q N (by first | omega | assumption) (by first | omega | assumption)) gn f16_ rfl ?_
  refine o_mv (Nv c) rfl ?_
  refine n_conv c gn rfl f18_ f34_ (by simp only [topOf]; omega) ?_
  refine o_ct (c_xOf c (by first | omega | assumption)) gn f15_ rfl ?_
  refine o_ct (c_xPlus (q * N) c (by first | omega | assumption) (by first | omega | assumption)) gn f30_ rfl ?_
  refine o_nilRef gn rfl ?_
  refine o_fieldRef 2 gn f90_ rfl rfl ?_
  refine o_store [(2, .var 86 [.sl 1 (ns .u64 (Mw.digs q)), .sl 1 (ns .u64 (Mw.digs N)), .sl 1 (ns .u64 (Mw.digs (q * N + c))), Zv, Zv, Zv]), (9009, (.pin [.sl 1 (ns .u64 (Mw.digs N)), (intX ((N : Nat) : Int)), (Sv (txt ((N : Nat) : Int))), Nv c, Nv q, Nv q, Nv c, (Sv (txt ((N : Nat) : Int))), Nv a, Nv 0, Nv 0, Nv 0, Nv q, Nv c, (Sv (txt ((N : Nat) : Int))), Nv a, (.tup [(Nv ((txt ((q * N + c : Nat) : Int)).size)), Nv 0]), (.tup [(Nv ((txt ((q * N + c : Nat) : Int)).size)), Nv 0]), (Nv ((txt ((q * N + c : Nat) : Int)).size)), Nv 0, (Nv ((txt ((q * N + c : Nat) : Int)).size)), Nv 0, Nv 0, Fv, Fv, Nv a, (Nv ((txt ((q * N + c : Nat) : Int)).size)), (Nv (a * ((txt ((q * N + c : Nat) : Int)).size))), Fv, Fv] us0))] gn f91_ rfl rfl rfl rfl rfl rfl ?_
  refine aops_end (hK8 _ (awp_seq fun K9 hK9 => awp_region rfl (o_mv (.ref 2 0) rfl (o_mv (.ref 2 0) rfl (o_mv (.ref 2 0) rfl ?_)))))
  refine o_ct (c_xOf 1 (by first | omega | assumption)) gn f15_ rfl ?_
  refine o_ct (c_xOf 1 (by first | omega | assumption)) gn f15_ rfl ?_
  refine o_ct (c_xOf 1 (by first | omega | assumption)) gn f15_ rfl ?_
  refine o_nilRef gn rfl ?_
  refine o_fieldRef 3 gn f92_ rfl rfl ?_
  refine o_store [(2, .var 86 [.sl 1 (ns .u64 (Mw.digs q)), .sl 1 (ns .u64 (Mw.digs N)), .sl 1 (ns .u64 (Mw.digs (q * N + c))), .sl 1 (ns .u64 (Mw.digs 1)), Zv, Zv]), (9009, (.pin [.sl 1 (ns .u64 (Mw.digs N)), (intX ((N : Nat) : Int)), (Sv (txt ((N : Nat) : Int))), Nv c, Nv q, Nv q, Nv c, (Sv (txt ((N : Nat) : Int))), Nv a, Nv 0, Nv 0, Nv 0, Nv q, Nv c, (Sv (txt ((N : Nat) : Int))), Nv a, (.tup [(Nv ((txt ((q * N + c : Nat) : Int)).size)), Nv 0]), (.tup [(Nv ((txt ((q * N + c : Nat) : Int)).size)), Nv 0]), (Nv ((txt ((q * N + c : Nat) : Int)).size)), Nv 0, (Nv ((txt ((q * N + c : Nat) : Int)).size)), Nv 0, Nv 0, Fv, Fv, Nv a, (Nv ((txt ((q * N + c : Nat) : Int)).size)), (Nv (a * ((txt ((q * N + c : Nat) : Int)).size))), Fv, Fv] us0))] gn f91_ rfl rfl rfl rfl rfl rfl ?_
  refine o_nilRef gn rfl ?_
  refine o_fieldRef 4 gn f93_ rfl rfl ?_
  refine o_store [(2, .var 86 [.sl 1 (ns .u64 (Mw.digs q)), .sl 1 (ns .u64 (Mw.digs N)), .sl 1 (ns .u64 (Mw.digs (q * N + c))), .sl 1 (ns .u64 (Mw.digs 1)), .sl 1 (ns .u64 (Mw.digs 1)), Zv]), (9009, (.pin [.sl 1 (ns .u64 (Mw.digs N)), (intX ((N : Nat) : Int)), (Sv (txt ((N : Nat) : Int))), Nv c, Nv q, Nv q, Nv c, (Sv (txt ((N : Nat) : Int))), Nv a, Nv 0, Nv 0, Nv 0, Nv q, Nv c, (Sv (txt ((N : Nat) : Int))), Nv a, (.tup [(Nv ((txt ((q * N + c : Nat) : Int)).size)), Nv 0]), (.tup [(Nv ((txt ((q * N + c : Nat) : Int)).size)), Nv 0]), (Nv ((txt ((q * N + c : Nat) : Int)).size)), Nv 0, (Nv ((txt ((q * N + c : Nat) : Int)).size)), Nv 0, Nv 0, Fv, Fv, Nv a, (Nv ((txt ((q * N + c : Nat) : Int)).size)), (Nv (a * ((txt ((q * N + c : Nat) : Int)).size))), Fv, Fv] us0))] gn f91_ rfl rfl rfl rfl rfl rfl ?_
  refine o_nilRef gn rfl ?_
  refine o_fieldRef 5 gn f94_ rfl rfl ?_
  refine o_store [(2, .var 86 [.sl 1 (ns .u64 (Mw.digs q)), .sl 1 (ns .u64 (Mw.digs N)), .sl 1 (ns .u64 (Mw.digs (q * N + c))), .sl 1 (ns .u64 (Mw.digs 1)), .sl 1 (ns .u64 (Mw.digs 1)), .sl 1 (ns .u64 (Mw.digs 1))]), (9009, (.pin [.sl 1 (ns .u64 (Mw.digs N)), (intX ((N : Nat) : Int)), (Sv (txt ((N : Nat) : Int))), Nv c, Nv q, Nv q, Nv c, (Sv (txt ((N : Nat) : Int))), Nv a, Nv 0, Nv 0, Nv 0, Nv q, Nv c, (Sv (txt ((N : Nat) : Int))), Nv a, (.tup [(Nv ((txt ((q * N + c : Nat) : Int)).size)), Nv 0]), (.tup [(Nv ((txt ((q * N + c : Nat) : Int)).size)), Nv 0]), (Nv ((txt ((q * N + c : Nat) : Int)).size)), Nv 0, (Nv ((txt ((q * N + c : Nat) : Int)).size)), Nv 0, Nv 0, Fv, Fv, Nv a, (Nv ((txt ((q * N + c : Nat) : Int)).size)), (Nv (a * ((txt ((q * N + c : Nat) : Int)).size))), Fv, Fv] us0))] gn f91_ rfl rfl rfl rfl rfl rfl ?_
  refine aops_end (hK9 _ (awp_seq fun K10 hK10 => awp_region rfl (o_mv (.ref 2 0) rfl (o_as (.ref 2 0) rfl (aops_end (hK10 _ ?_))))))
  refine awp_wk (σ' := ⟨[(6, .ref 2 0)], [(9009, (.pin [.sl 1 (ns .u64 (Mw.digs N)), (intX ((N : Nat) : Int)), (Sv (txt ((N : Nat) : Int))), Nv c, Nv q, Nv q, Nv c, (Sv (txt ((N : Nat) : Int))), Nv a, Nv 0, Nv 0, Nv 0, Nv q, Nv c, (Sv (txt ((N : Nat) : Int))), Nv a, (.tup [(Nv ((txt ((q * N + c : Nat) : Int)).size)), Nv 0]), (.tup [(Nv ((txt ((q * N + c : Nat) : Int)).size)), Nv 0]), (Nv ((txt ((q * N + c : Nat) : Int)).size)), Nv 0, (Nv ((txt ((q * N + c : Nat) : Int)).size)), Nv 0, Nv 0, Fv, Fv, Nv a, (Nv ((txt ((q * N + c : Nat) : Int)).size)), (Nv (a * ((txt ((q * N + c : Nat) : Int)).size))), Fv, Fv] us0)), (2, .var 86 [.sl 1 (ns .u64 (Mw.digs q)), .sl 1 (ns .u64 (Mw.digs N)), .sl 1 (ns .u64 (Mw.digs (q * N + c))), .sl 1 (ns .u64 (Mw.digs 1)), .sl 1 (ns .u64 (Mw.digs 1)), .sl 1 (ns .u64 (Mw.digs 1))])]⟩) (Wk.sub ⟨rfl, trivial⟩ ⟨rfl, (by first | rfl | rfl), trivial⟩) ?_
  refine awp_ret ?_
  try dsimp only [thenK, inBlk]
  refine postS_ret (extra := []) ?_ rfl
  refine ⟨[.ref 2 0], ⟨AV.le_refl _, trivial⟩, ?_⟩
  rfl
 refine Lex.fin ?_
 refine o_as (.ref 2 0) rfl (aops_end (hK5 _ (awp_seq fun K11 hK11 => awp_seq fun K12 hK12 => awp_region rfl (o_mv (Nv a) rfl (o_mv (Nv 0) rfl (aops_end (hK12 _ ?_)))))))
 refine awp_block ?_
 refine awp_loopR (fun κ σ => ∃ (i : Nat), (i ≤ a) ∧ (∀ j, 1 ≤ j → j ≤ i → ¬ FitL q c N j) ∧ (a - i) = κ ∧ σ = ⟨[(13, .ref 2 0), (38, Nv a), (39, Nv i)], [(2, .var 86 [.sl 1 (ns .u64 (Mw.digs q)), .sl 1 (ns .u64 (Mw.digs N)), .sl 1 (ns .u64 (Mw.digs (q * N + c))), .sl 1 (ns .u64 (Mw.digs (q ^ i))), .sl 1 (ns .u64 (Mw.digs (N ^ i))), .sl 1 (ns .u64 (Mw.digs ((q * N + c) ^ i)))])]⟩) ⟨_, _, ⟨0, Nat.zero_le _, (fun j h1 h2 => absurd h1 (by omega)), rfl, rfl⟩, ?wk1⟩ ?rd1
 case wk1 =>
  exact Wk.sub ⟨rfl, rfl, (by first | rfl | exact nm_int (by omega)), trivial⟩ ⟨rfl, trivial⟩
 rintro κ _ ⟨i, hi, hno, rfl, rfl⟩
 obtain ⟨u1, u2, u3, u4, u5, u6, u7, u8⟩ := pow7 (i := i) f2 f4 fq (by omega) (by omega)
 refine awp_seq fun K13 hK13 => awp_region rfl ?_
 refine n_lss i a gn rfl rfl ?_
 refine aops_end (hK13 _ (awp_seq fun K14 hK14 => ?_))
 refine awp_condQ (q := i < a) rfl (fun h1 => ?_) (fun h1 => ?_)
 ·refine awp_skip (hK14 _ (awp_seq fun K15 hK15 => ?_))
  refine awp_block ?_
  refine awp_seq fun K16 hK16 => awp_region rfl (o_mv (Nv i) rfl (o_as (Nv i) rfl (aops_end (hK16 _ (awp_seq fun K17 hK17 => ?_)))))
  refine awp_wk (σ' := ⟨[(13, .ref 2 0), (38, Nv a), (39, Nv i), (40, bp (i < a)), (41, Nv i), (14, Nv i)], [(2, .var 86 [.sl 1 (ns .u64 (Mw.digs q)), .sl 1 (ns .u64 (Mw.digs N)), .sl 1 (ns .u64 (Mw.digs (q * N + c))), .sl 1 (ns .u64 (Mw.digs (q ^ i))), .sl 1 (ns .u64 (Mw.digs (N ^ i))), .sl 1 (ns .u64 (Mw.digs ((q * N + c) ^ i)))])]⟩) (Wk.sub ⟨rfl, rfl, rfl, rfl, rfl, rfl, trivial⟩ ⟨rfl, trivial⟩) ?_
  refine awp_regionN rfl ?_
  refine Lex.call 1 43 _ 31 [] _ _ _ _ _ [.ref 2 0] (.tup []) [(2, .var 86 [.sl 1 (ns .u64 (Mw.digs q)), .sl 1 (ns .u64 (Mw.digs N)), .sl 1 (ns .u64 (Mw.digs (q * N + c))), .sl 1 (ns .u64 (Mw.digs (q ^ i * q))), .sl 1 (ns .u64 (Mw.digs (N ^ i * N))), .sl 1 (ns .u64 (Mw.digs ((q * N + c) ^ i * (q * N + c))))])] rfl f97_ ?_
  refine o_mv (.ref 2 0) rfl ?_
  refine aops_end ⟨rfl, rfl, ?sc2, ?_⟩
  case sc2 =>
   refine scalls_of_awpB 9011 Try.func31 (c := _) rfl (Nat.le_of_ble_eq_true rfl) rfl rfl rfl (fun us2 => ?_)
   show awp cx 38 _ (postS cx Try.f31 (.tup []) [(2, .var 86 [.sl 1 (ns .u64 (Mw.digs q)), .sl 1 (ns .u64 (Mw.digs N)), .sl 1 (ns .u64 (Mw.digs (q * N + c))), .sl 1 (ns .u64 (Mw.digs (q ^ i * q))), .sl 1 (ns .u64 (Mw.digs (N ^ i * N))), .sl 1 (ns .u64 (Mw.digs ((q * N + c) ^ i * (q * N + c))))])] 9011 [.ref 2 0, .ref 2 0, Nv a, Nv i, bp (i < a), Nv i, Nv i] us2) ⟨[(0, .ref 2 0)], [(9011, .pin [.ref 2 0, .ref 2 0, Nv a, Nv i, bp (i < a), Nv i, Nv i] us2), (2, .var 86 [.sl 1 (ns .u64 (Mw.digs q)), .sl 1 (ns .u64 (Mw.digs N)), .sl 1 (ns .u64 (Mw.digs (q * N + c))), .sl 1 (ns .u64 (Mw.digs (q ^ i))), .sl 1 (ns .u64 (Mw.digs (N ^ i))), .sl 1 (ns .u64 (Mw.digs ((q * N + c) ^ i)))])]⟩
   refine awp_regionD rfl (o_mv (.ref 2 0) rfl (o_mv (.ref 2 0) rfl (o_mv (.ref 2 0) rfl (o_mv (.ref 2 0) rfl ?_))))
   refine o_nilRef gn rfl ?_
   refine o_fieldRef 3 gn f92_ rfl rfl ?_
   refine o_loadS (.sl 1 (ns .u64 (Mw.digs (q ^ i)))) gn f26_ rfl rfl rfl ?_
   refine o_mv (.ref 2 0) rfl ?_
   refine o_nilRef gn rfl ?_
   refine o_fieldRef 0 gn f89_ rfl rfl ?_
   refine o_loadS (.sl 1 (ns .u64 (Mw.digs q))) gn f26_ rfl rfl rfl ?_
   refine o_ct (c_xTimes (q ^ i) q (by first | omega | assumption) (by first | omega | assumption)) gn f16_ rfl ?_
   refine o_mv (.ref 2 0) rfl ?_
   refine o_nilRef gn rfl ?_
   refine o_fieldRef 4 gn f93_ rfl rfl ?_
   refine o_loadS (.sl 1 (ns .u64 (Mw.digs (N ^ i)))) gn f26_ rfl rfl rfl ?_
   refine o_mv (.ref 2 0) rfl ?_
   refine o_nilRef gn rfl ?_
   refine o_fieldRef 1 gn f98_ rfl rfl ?_
   refine o_loadS (.sl 1 (ns .u64 (Mw.digs N))) gn f26_ rfl rfl rfl ?_
   refine o_ct (c_xTimes (N ^ i) N (by first | omega | assumption) (by first | omega | assumption)) gn f16_ rfl ?_
   refine o_mv (.ref 2 0) rfl ?_
   refine o_nilRef gn rfl ?_
   refine o_fieldRef 5 gn f94_ rfl rfl ?_
   refine o_loadS (.sl 1 (ns .u64 (Mw.digs ((q * N + c) ^ i)))) gn f26_ rfl rfl rfl ?_
   refine o_mv (.ref 2 0) rfl ?_
   refine o_nilRef gn rfl ?_
   refine o_fieldRef 2 gn f90_ rfl rfl ?_
   refine o_loadS (.sl 1 (ns .u64 (Mw.digs (q * N + c)))) gn f26_ rfl rfl rfl ?_
   refine o_ct (c_xTimes ((q * N + c) ^ i) (q * N + c) (by first | omega | assumption) (by first | omega | assumption)) gn f16_ rfl ?_
   refine o_nilRef gn rfl ?_
   refine o_fieldRef 3 gn f92_ rfl rfl ?_
   refine o_store [(9011, .pin [.ref 2 0, .ref 2 0, Nv a, Nv i, bp (i < a), Nv i, Nv i] us2), (2, .var 86 [.sl 1 (ns .u64 (Mw.digs q)), .sl 1 (ns .u64 (Mw.digs N)), .sl 1 (ns .u64 (Mw.digs (q * N + c))), .sl 1 (ns .u64 (Mw.digs (q ^ i * q))), .sl 1 (ns .u64 (Mw.digs (N ^ i))), .sl 1 (ns .u64 (Mw.digs ((q * N + c) ^ i)))])] gn f91_ rfl rfl rfl rfl rfl rfl ?_
   refine o_nilRef gn rfl ?_
   refine o_fieldRef 4 gn f93_ rfl rfl ?_
   refine o_store [(9011, .pin [.ref 2 0, .ref 2 0, Nv a, Nv i, bp (i < a), Nv i, Nv i] us2), (2, .var 86 [.sl 1 (ns .u64 (Mw.digs q)), .sl 1 (ns .u64 (Mw.digs N)), .sl 1 (ns .u64 (Mw.digs (q * N + c))), .sl 1 (ns .u64 (Mw.digs (q ^ i * q))), .sl 1 (ns .u64 (Mw.digs (N ^ i * N))), .sl 1 (ns .u64 (Mw.digs ((q * N + c) ^ i)))])] gn f91_ rfl rfl rfl rfl rfl rfl ?_
   refine o_nilRef gn rfl ?_
   refine o_fieldRef 5 gn f94_ rfl rfl ?_
   refine o_store [(9011, .pin [.ref 2 0, .ref 2 0, Nv a, Nv i, bp (i < a), Nv i, Nv i] us2), (2, .var 86 [.sl 1 (ns .u64 (Mw.digs q)), .sl 1 (ns .u64 (Mw.digs N)), .sl 1 (ns .u64 (Mw.digs (q * N + c))), .sl 1 (ns .u64 (Mw.digs (q ^ i * q))), .sl 1 (ns .u64 (Mw.digs (N ^ i * N))), .sl 1 (ns .u64 (Mw.digs ((q * N + c) ^ i * (q * N + c))))])] gn f91_ rfl rfl rfl rfl rfl rfl ?_
   refine aops_end ⟨by kernel_rfl, ?_⟩
   try dsimp only [thenK, inBlk]
   try simp only [show Nat.beq 0 0 = true from rfl, show Nat.beq 1 1 = true from rfl, cond_true]
   refine postS_nrm (extra := []) ?_ rfl
   refine ⟨[], trivial, ?_⟩
   rfl
  refine Lex.fin ?_
  refine aops_end (hK17 _ (awp_seq fun K18 hK18 => ?_))
  refine awp_wk (σ' := ⟨[(43, .tup []), (42, .ref 2 0), (13, .ref 2 0), (38, Nv a), (39, Nv i), (40, bp (i < a)), (41, Nv i), (14, Nv i)], [(2, .var 86 [.sl 1 (ns .u64 (Mw.digs q)), .sl 1 (ns .u64 (Mw.digs N)), .sl 1 (ns .u64 (Mw.digs (q * N + c))), .sl 1 (ns .u64 (Mw.digs (q ^ i * q))), .sl 1 (ns .u64 (Mw.digs (N ^ i * N))), .sl 1 (ns .u64 (Mw.digs ((q * N + c) ^ i * (q * N + c))))])]⟩) (Wk.sub ⟨rfl, rfl, rfl, rfl, rfl, rfl, rfl, rfl, trivial⟩ ⟨rfl, trivial⟩) ?_
  refine awp_regionN rfl ?_
  refine Lex.call 2 46 _ 32 [] _ _ _ _ _ [.ref 2 0] (Nv (Mw.bits (q ^ i * q))) [(2, .var 86 [.sl 1 (ns .u64 (Mw.digs q)), .sl 1 (ns .u64 (Mw.digs N)), .sl 1 (ns .u64 (Mw.digs (q * N + c))), .sl 1 (ns .u64 (Mw.digs (q ^ i * q))), .sl 1 (ns .u64 (Mw.digs (N ^ i * N))), .sl 1 (ns .u64 (Mw.digs ((q * N + c) ^ i * (q * N + c))))])] rfl f99_ ?_
  refine o_mv (.ref 2 0) rfl (o_mv (.ref 2 0) rfl ?_)
  refine aops_end ⟨rfl, rfl, ?sc3, ?_⟩
  case sc3 =>
   refine scalls_of_awpB 9012 Try.func32 (c := _) rfl (Nat.le_of_ble_eq_true rfl) rfl rfl rfl (fun us3 => ?_)
   show awp cx 8 _ (postS cx Try.f32 (Nv (Mw.bits (q ^ i * q))) [(2, .var 86 [.sl 1 (ns .u64 (Mw.digs q)), .sl 1 (ns .u64 (Mw.digs N)), .sl 1 (ns .u64 (Mw.digs (q * N + c))), .sl 1 (ns .u64 (Mw.digs (q ^ i * q))), .sl 1 (ns .u64 (Mw.digs (N ^ i * N))), .sl 1 (ns .u64 (Mw.digs ((q * N + c) ^ i * (q * N + c))))])] 9012 [.ref 2 0, .ref 2 0, .tup [], .ref 2 0, .ref 2 0, Nv a, Nv i, bp (i < a), Nv i, Nv i] us3) ⟨[(0, .ref 2 0)], [(9012, .pin [.ref 2 0, .ref 2 0, .tup [], .ref 2 0, .ref 2 0, Nv a, Nv i, bp (i < a), Nv i, Nv i] us3), (2, .var 86 [.sl 1 (ns .u64 (Mw.digs q)), .sl 1 (ns .u64 (Mw.digs N)), .sl 1 (ns .u64 (Mw.digs (q * N + c))), .sl 1 (ns .u64 (Mw.digs (q ^ i * q))), .sl 1 (ns .u64 (Mw.digs (N ^ i * N))), .sl 1 (ns .u64 (Mw.digs ((q * N + c) ^ i * (q * N + c))))])]⟩
   refine awp_seq fun K19 hK19 => awp_region rfl (o_as (Nv 0) rfl (aops_end (hK19 _ (awp_seq fun K20 hK20 => awp_region rfl (o_mv (.ref 2 0) rfl ?_)))))
   refine o_nilRef gn rfl ?_
   refine o_fieldRef 3 gn f92_ rfl rfl ?_
   refine o_loadS (.sl 1 (ns .u64 (Mw.digs (q ^ i * q)))) gn f26_ rfl rfl rfl ?_
   refine o_ct (c_xBits (q ^ i * q) (by first | omega | assumption)) gn f100_ rfl ?_
   refine o_as (Nv (Mw.bits (q ^ i * q))) rfl (aops_end (hK20 _ ?_))
   refine awp_wk (σ' := ⟨[(2, Nv (Mw.bits (q ^ i * q)))], [(9012, .pin [.ref 2 0, .ref 2 0, .tup [], .ref 2 0, .ref 2 0, Nv a, Nv i, bp (i < a), Nv i, Nv i] us3), (2, .var 86 [.sl 1 (ns .u64 (Mw.digs q)), .sl 1 (ns .u64 (Mw.digs N)), .sl 1 (ns .u64 (Mw.digs (q * N + c))), .sl 1 (ns .u64 (Mw.digs (q ^ i * q))), .sl 1 (ns .u64 (Mw.digs (N ^ i * N))), .sl 1 (ns .u64 (Mw.digs ((q * N + c) ^ i * (q * N + c))))])]⟩) (Wk.sub ⟨rfl, trivial⟩ ⟨rfl, rfl, trivial⟩) ?_
   refine awp_ret ?_
   try dsimp only [thenK, inBlk]
   refine postS_ret (extra := []) ?_ rfl
   refine ⟨[Nv (Mw.bits (q ^ i * q))], ⟨AV.le_refl _, trivial⟩, ?_⟩
   rfl
  refine Lex.call 0 47 _ 30 [] _ _ _ _ _ [.ref 2 0, Nv (Mw.bits (q ^ i * q))] (bp (FitL q c N (i + 1))) [(2, .var 86 [.sl 1 (ns .u64 (Mw.digs q)), .sl 1 (ns .u64 (Mw.digs N)), .sl 1 (ns .u64 (Mw.digs (q * N + c))), .sl 1 (ns .u64 (Mw.digs (q ^ i * q))), .sl 1 (ns .u64 (Mw.digs (N ^ i * N))), .sl 1 (ns .u64 (Mw.digs ((q * N + c) ^ i * (q * N + c))))])] rfl f101_ ?_
  refine aops_end ⟨rfl, rfl, ?sc4, ?_⟩
  case sc4 =>
   refine scalls_of_awpB 9013 Try.func30 (c := _) rfl (Nat.le_of_ble_eq_true rfl) rfl rfl rfl (fun us4 => ?_)
   show awp cx 26 _ (postS cx Try.f30 (bp (FitL q c N (i + 1))) [(2, .var 86 [.sl 1 (ns .u64 (Mw.digs q)), .sl 1 (ns .u64 (Mw.digs N)), .sl 1 (ns .u64 (Mw.digs (q * N + c))), .sl 1 (ns .u64 (Mw.digs (q ^ i * q))), .sl 1 (ns .u64 (Mw.digs (N ^ i * N))), .sl 1 (ns .u64 (Mw.digs ((q * N + c) ^ i * (q * N + c))))])] 9013 [Nv (Mw.bits (q ^ i * q)), .ref 2 0, .ref 2 0, .tup [], .ref 2 0, .ref 2 0, Nv a, Nv i, bp (i < a), Nv i, Nv i] us4) ⟨[(0, .ref 2 0), (1, Nv (Mw.bits (q ^ i * q)))], [(9013, .pin [Nv (Mw.bits (q ^ i * q)), .ref 2 0, .ref 2 0, .tup [], .ref 2 0, .ref 2 0, Nv a, Nv i, bp (i < a), Nv i, Nv i] us4), (2, .var 86 [.sl 1 (ns .u64 (Mw.digs q)), .sl 1 (ns .u64 (Mw.digs N)), .sl 1 (ns .u64 (Mw.digs (q * N + c))), .sl 1 (ns .u64 (Mw.digs (q ^ i * q))), .sl 1 (ns .u64 (Mw.digs (N ^ i * N))), .sl 1 (ns .u64 (Mw.digs ((q * N + c) ^ i * (q * N + c))))])]⟩
   refine awp_seq fun K21 hK21 => awp_region rfl (o_as Fv rfl (aops_end (hK21 _ (awp_seq fun K22 hK22 => awp_regionD rfl (o_mv (.ref 2 0) rfl ?_)))))
   refine o_nilRef gn rfl ?_
   refine o_fieldRef 3 gn f92_ rfl rfl ?_
   refine o_loadS (.sl 1 (ns .u64 (Mw.digs (q ^ i * q)))) gn f26_ rfl rfl rfl ?_
   refine o_ct (c_xBits (q ^ i * q) (by first | omega | assumption)) gn f100_ rfl ?_
   refine o_mv (Nv (Mw.bits (q ^ i * q))) rfl ?_
   refine n_leq (Mw.bits (q ^ i * q)) (Mw.bits (q ^ i * q)) gn rfl rfl ?_
   refine o_mv (bp ((Mw.bits (q ^ i * q)) ≤ (Mw.bits (q ^ i * q)))) rfl ?_
   refine o_splitP (q := (Mw.bits (q ^ i * q)) ≤ (Mw.bits (q ^ i * q))) 12 rfl (fun h2 => ?_) (fun h2 => ?_)
   ·refine o_move (.ref 2 0) (Gd.yes rfl rfl (decide_eq_true h2)) rfl ?_
    refine o_nilRef (Gd.yes rfl rfl (decide_eq_true h2)) rfl ?_
    refine o_fieldRef 4 (Gd.yes rfl rfl (decide_eq_true h2)) f93_ rfl rfl ?_
    refine o_loadS (.sl 1 (ns .u64 (Mw.digs (N ^ i * N)))) (Gd.yes rfl rfl (decide_eq_true h2)) f26_ rfl rfl rfl ?_
    refine o_move (Nv (Mw.bits (q ^ i * q))) (Gd.yes rfl rfl (decide_eq_true h2)) rfl ?_
    refine o_ct (c_xUp (N ^ i * N) (Mw.bits (q ^ i * q)) (by first | omega | assumption) (by first | omega | assumption)) (Gd.yes rfl rfl (decide_eq_true h2)) f102_ rfl ?_
    refine o_move (.ref 2 0) (Gd.yes rfl rfl (decide_eq_true h2)) rfl ?_
    refine o_nilRef (Gd.yes rfl rfl (decide_eq_true h2)) rfl ?_
    refine o_fieldRef 5 (Gd.yes rfl rfl (decide_eq_true h2)) f94_ rfl rfl ?_
    refine o_loadS (.sl 1 (ns .u64 (Mw.digs ((q * N + c) ^ i * (q * N + c))))) (Gd.yes rfl rfl (decide_eq_true h2)) f26_ rfl rfl rfl ?_
    refine o_ct (c_xCmp (N ^ i * N * 2 ^ (Mw.bits (q ^ i * q))) ((q * N + c) ^ i * (q * N + c)) (by first | omega | assumption) (by first | omega | assumption)) (Gd.yes rfl rfl (decide_eq_true h2)) f32_ rfl ?_
    refine o_leq (a := (cmpN (N ^ i * N * 2 ^ (Mw.bits (q ^ i * q))) ((q * N + c) ^ i * (q * N + c)))) (c := ((0 : Nat) : Int)) (Gd.yes rfl rfl (decide_eq_true h2)) rfl rfl ?_
    refine o_pickT (bp ((cmpN (N ^ i * N * 2 ^ (Mw.bits (q ^ i * q))) ((q * N + c) ^ i * (q * N + c))) ≤ ((0 : Nat) : Int))) gn rfl (decide_eq_true h2) rfl ?_
    refine o_as (bp ((cmpN (N ^ i * N * 2 ^ (Mw.bits (q ^ i * q))) ((q * N + c) ^ i * (q * N + c))) ≤ ((0 : Nat) : Int))) rfl ?_
    refine aops_end ⟨by kernel_rfl, ?_⟩
    refine hK22 _ ?_
    refine awp_wk (σ' := ⟨[(4, (bp ((cmpN (N ^ i * N * 2 ^ (Mw.bits (q ^ i * q))) ((q * N + c) ^ i * (q * N + c))) ≤ ((0 : Nat) : Int))))], [(9013, .pin [Nv (Mw.bits (q ^ i * q)), .ref 2 0, .ref 2 0, .tup [], .ref 2 0, .ref 2 0, Nv a, Nv i, bp (i < a), Nv i, Nv i] us4), (2, .var 86 [.sl 1 (ns .u64 (Mw.digs q)), .sl 1 (ns .u64 (Mw.digs N)), .sl 1 (ns .u64 (Mw.digs (q * N + c))), .sl 1 (ns .u64 (Mw.digs (q ^ i * q))), .sl 1 (ns .u64 (Mw.digs (N ^ i * N))), .sl 1 (ns .u64 (Mw.digs ((q * N + c) ^ i * (q * N + c))))])]⟩) (Wk.sub ⟨rfl, trivial⟩ ⟨rfl, rfl, trivial⟩) ?_
    refine awp_ret ?_
    try dsimp only [thenK, inBlk]
    refine postS_ret (extra := []) ?_ rfl
    refine ⟨[(bp ((cmpN (N ^ i * N * 2 ^ (Mw.bits (q ^ i * q))) ((q * N + c) ^ i * (q * N + c))) ≤ ((0 : Nat) : Int)))], ⟨AV.le_refl _, trivial⟩, ?_⟩
    have key : ∀ x y : Nat, (cmpN x y ≤ ((0 : Nat) : Int)) ↔ x ≤ y := fun x y => by unfold cmpN; constructor <;> intro h <;> (repeat' split at h) <;> (repeat' split) <;> omega
    exact bp_congr ⟨fun h => (key _ _).2 h, fun h => (key _ _).1 h⟩
   ·refine o_skip rfl rfl (decide_eq_false h2) (o_skip rfl rfl (decide_eq_false h2) (o_skip rfl rfl (decide_eq_false h2) (o_skip rfl rfl (decide_eq_false h2) (o_skip rfl rfl (decide_eq_false h2) (o_skip rfl rfl (decide_eq_false h2) (o_skip rfl rfl (decide_eq_false h2) (o_skip rfl rfl (decide_eq_false h2) (o_skip rfl rfl (decide_eq_false h2) (o_skip rfl rfl (decide_eq_false h2) (o_skip rfl rfl (decide_eq_false h2) (o_skip rfl rfl (decide_eq_false h2) ?_)))))))))))
    refine o_pickF Fv gn rfl (decide_eq_false h2) rfl ?_
    refine o_as Fv rfl ?_
    refine aops_end ⟨by kernel_rfl, ?_⟩
    refine hK22 _ ?_
    refine awp_wk (σ' := ⟨[(4, Fv)], [(9013, .pin [Nv (Mw.bits (q ^ i * q)), .ref 2 0, .ref 2 0, .tup [], .ref 2 0, .ref 2 0, Nv a, Nv i, bp (i < a), Nv i, Nv i] us4), (2, .var 86 [.sl 1 (ns .u64 (Mw.digs q)), .sl 1 (ns .u64 (Mw.digs N)), .sl 1 (ns .u64 (Mw.digs (q * N + c))), .sl 1 (ns .u64 (Mw.digs (q ^ i * q))), .sl 1 (ns .u64 (Mw.digs (N ^ i * N))), .sl 1 (ns .u64 (Mw.digs ((q * N + c) ^ i * (q * N + c))))])]⟩) (Wk.sub ⟨rfl, trivial⟩ ⟨rfl, rfl, trivial⟩) ?_
    refine awp_ret ?_
    try dsimp only [thenK, inBlk]
    refine postS_ret (extra := []) ?_ rfl
    refine ⟨[Fv], ⟨AV.le_refl _, trivial⟩, ?_⟩
    exact absurd (Nat.le_refl _) (by assumption)
  refine Lex.fin ?_
  refine aops_end (hK18 _ ?_)
  refine awp_condQ (q := FitL q c N (i + 1)) rfl (fun h3 => ?_) (fun h3 => ?_)
  ·refine awp_seq fun K23 hK23 => ?_
   refine awp_wk (σ' := ⟨[(47, bp (FitL q c N (i + 1))), (46, Nv (Mw.bits (q ^ i * q))), (45, .ref 2 0), (44, .ref 2 0), (43, .tup []), (42, .ref 2 0), (13, .ref 2 0), (38, Nv a), (39, Nv i), (40, bp (i < a)), (41, Nv i), (14, Nv i)], [(2, .var 86 [.sl 1 (ns .u64 (Mw.digs q)), .sl 1 (ns .u64 (Mw.digs N)), .sl 1 (ns .u64 (Mw.digs (q * N + c))), .sl 1 (ns .u64 (Mw.digs (q ^ i * q))), .sl 1 (ns .u64 (Mw.digs (N ^ i * N))), .sl 1 (ns .u64 (Mw.digs ((q * N + c) ^ i * (q * N + c))))])]⟩) (Wk.sub ⟨rfl, rfl, rfl, rfl, rfl, rfl, rfl, rfl, rfl, rfl, rfl, rfl, trivial⟩ ⟨rfl, trivial⟩) ?_
   refine awp_regionN rfl ?_
   refine Lex.call 3 51 _ 32 [] _ _ _ _ _ [.ref 2 0] (Nv (Mw.bits (q ^ i * q))) [(2, .var 86 [.sl 1 (ns .u64 (Mw.digs q)), .sl 1 (ns .u64 (Mw.digs N)), .sl 1 (ns .u64 (Mw.digs (q * N + c))), .sl 1 (ns .u64 (Mw.digs (q ^ i * q))), .sl 1 (ns .u64 (Mw.digs (N ^ i * N))), .sl 1 (ns .u64 (Mw.digs ((q * N + c) ^ i * (q * N + c))))])] rfl f99_ ?_
   refine o_mv (Nv i) rfl ?_
   refine n_add i 1 gn rfl rfl (by simp only [topOf]; omega) ?_
   refine o_mv (.ref 2 0) rfl ?_
   refine aops_end ⟨rfl, rfl, ?sc5, ?_⟩
   case sc5 =>
    refine scalls_of_awpB 9014 Try.func32 (c := _) rfl (Nat.le_of_ble_eq_true rfl) rfl rfl rfl (fun us5 => ?_)
    show awp cx 8 _ (postS cx Try.f32 (Nv (Mw.bits (q ^ i * q))) [(2, .var 86 [.sl 1 (ns .u64 (Mw.digs q)), .sl 1 (ns .u64 (Mw.digs N)), .sl 1 (ns .u64 (Mw.digs (q * N + c))), .sl 1 (ns .u64 (Mw.digs (q ^ i * q))), .sl 1 (ns .u64 (Mw.digs (N ^ i * N))), .sl 1 (ns .u64 (Mw.digs ((q * N + c) ^ i * (q * N + c))))])] 9014 [.ref 2 0, Nv (i + 1), Nv i, bp (FitL q c N (i + 1)), Nv (Mw.bits (q ^ i * q)), .ref 2 0, .ref 2 0, .tup [], .ref 2 0, .ref 2 0, Nv a, Nv i, bp (i < a), Nv i, Nv i] us5) ⟨[(0, .ref 2 0)], [(9014, .pin [.ref 2 0, Nv (i + 1), Nv i, bp (FitL q c N (i + 1)), Nv (Mw.bits (q ^ i * q)), .ref 2 0, .ref 2 0, .tup [], .ref 2 0, .ref 2 0, Nv a, Nv i, bp (i < a), Nv i, Nv i] us5), (2, .var 86 [.sl 1 (ns .u64 (Mw.digs q)), .sl 1 (ns .u64 (Mw.digs N)), .sl 1 (ns .u64 (Mw.digs (q * N + c))), .sl 1 (ns .u64 (Mw.digs (q ^ i * q))), .sl 1 (ns .u64 (Mw.digs (N ^ i * N))), .sl 1 (ns .u64 (Mw.digs ((q * N + c) ^ i * (q * N + c))))])]⟩
    refine awp_seq fun K24 hK24 => awp_region rfl (o_as (Nv 0) rfl (aops_end (hK24 _ (awp_seq fun K25 hK25 => awp_region rfl (o_mv (.ref 2 0) rfl ?_)))))
    refine o_nilRef gn rfl ?_
    refine o_fieldRef 3 gn f92_ rfl rfl ?_
    refine o_loadS (.sl 1 (ns .u64 (Mw.digs (q ^ i * q)))) gn f26_ rfl rfl rfl ?_
    refine o_ct (c_xBits (q ^ i * q) (by first | omega | assumption)) gn f100_ rfl ?_
    refine o_as (Nv (Mw.bits (q ^ i * q))) rfl (aops_end (hK25 _ ?_))
    refine awp_wk (σ' := ⟨[(2, Nv (Mw.bits (q ^ i * q)))], [(9014, .pin [.ref 2 0, Nv (i + 1), Nv i, bp (FitL q c N (i + 1)), Nv (Mw.bits (q ^ i * q)), .ref 2 0, .ref 2 0, .tup [], .ref 2 0, .ref 2 0, Nv a, Nv i, bp (i < a), Nv i, Nv i] us5), (2, .var 86 [.sl 1 (ns .u64 (Mw.digs q)), .sl 1 (ns .u64 (Mw.digs N)), .sl 1 (ns .u64 (Mw.digs (q * N + c))), .sl 1 (ns .u64 (Mw.digs (q ^ i * q))), .sl 1 (ns .u64 (Mw.digs (N ^ i * N))), .sl 1 (ns .u64 (Mw.digs ((q * N + c) ^ i * (q * N + c))))])]⟩) (Wk.sub ⟨rfl, trivial⟩ ⟨rfl, rfl, trivial⟩) ?_
    refine awp_ret ?_
    try dsimp only [thenK, inBlk]
    refine postS_ret (extra := []) ?_ rfl
    refine ⟨[Nv (Mw.bits (q ^ i * q))], ⟨AV.le_refl _, trivial⟩, ?_⟩
    rfl
   refine Lex.fin ?_
   refine o_as (Nv (i + 1)) rfl (o_as (Nv (Mw.bits (q ^ i * q))) rfl (o_as (Nv 0) rfl (aops_end (hK23 _ ?_))))
   refine awp_ret ?_
   refine post_ret ⟨[Nv (i + 1), Nv (Mw.bits (q ^ i * q)), Nv 0], ⟨AV.le_refl _, AV.le_refl _, AV.le_refl _, trivial⟩, rfl, ?_⟩
   exact lsV_hit (by omega) hno (by assumption)
  ·refine awp_skip (hK15 _ (awp_region rfl ?_))
   refine n_add i 1 gn rfl rfl (by simp only [topOf]; omega) ?_
   refine o_mv (Nv (i + 1)) rfl (aops_end ?_)
   refine ⟨_, _, ?lt, ⟨i + 1, (by omega), (no_s hno (by assumption)), rfl, rfl⟩, ?wk⟩
   case lt => omega
   case wk => exact Wk.sub ⟨rfl, rfl, (by first | rfl | exact nm_int (by omega)), trivial⟩ ⟨rfl, trivial⟩
 ·refine awp_exit ?_
  refine hK11 _ (awp_seq fun K26 hK26 => awp_region rfl (o_as (Nv 0) rfl (o_as (Nv 0) rfl (o_as (Nv 4) rfl (aops_end (hK26 _ ?_))))))
  refine awp_ret ?_
  refine post_ret ⟨[Nv 0, Nv 0, Nv 4], ⟨AV.le_refl _, AV.le_refl _, AV.le_refl _, trivial⟩, rfl, ?_⟩
  exact lsV_none (by omega) hno

end Go.Proofs.Ytaeknciienkijaa

namespace Go.Mth
open Go Go.Ab
theorem fitL_mono {q c N M j : Nat} (h : FitL q c N j) (hM : M ≤ N) : FitL q c M j := by
 unfold FitL at *
 rcases Nat.eq_zero_or_pos N with e | hN
 ·rw [show M = N from by omega]; exact h
 ·have h1 : (q * N + c) * M ≤ (q * M + c) * N := by
   have := Nat.mul_le_mul_left c hM
   rw [Nat.add_mul, Nat.add_mul, show q * N * M = q * M * N from by rw [Nat.mul_assoc, Nat.mul_comm N, Nat.mul_assoc]]
   omega
  have h2 := Nat.pow_le_pow_left h1 j
  rw [Nat.mul_pow, Nat.mul_pow] at h2
  have h3 := Nat.mul_le_mul_right (M ^ j) h
  have h4 : M ^ j * 2 ^ Mw.bits (q ^ j) * N ^ j ≤ (q * M + c) ^ j * N ^ j := by
   refine Nat.le_trans (Nat.le_of_eq ?_) (Nat.le_trans h3 h2)
   rw [Nat.mul_assoc, Nat.mul_comm (M ^ j), Nat.mul_comm (2 ^ _) (N ^ j)]
  exact Nat.le_of_mul_le_mul_right h4 (Nat.pow_pos hN)
theorem binom_le {x c a : Nat} : (x + c) ^ (a + 1) ≤ x ^ (a + 1) + (a + 1) * (c * (x + c) ^ a) := by
 induction a with
 | zero => simp
 | succ a ih =>
  have h1 := Nat.mul_le_mul_right x ih
  rw [Nat.add_mul] at h1
  have h2 : (a + 1) * (c * (x + c) ^ a) * x ≤ (a + 1) * (c * (x + c) ^ (a + 1)) := by
   rw [Nat.mul_assoc, Nat.mul_assoc, Nat.pow_succ]
   exact Nat.mul_le_mul_left _ (Nat.mul_le_mul_left _ (Nat.mul_le_mul_left _ (by omega)))
  have h3 : (a + 1 + 1) * (c * (x + c) ^ (a + 1)) = (a + 1) * (c * (x + c) ^ (a + 1)) + c * (x + c) ^ (a + 1) := Nat.succ_mul _ _
  have h4 : (x + c) ^ (a + 1 + 1) = (x + c) ^ (a + 1) * x + (x + c) ^ (a + 1) * c := by rw [Nat.pow_succ (x + c) (a + 1), Nat.mul_add]
  have h5 : x ^ (a + 1 + 1) = x ^ (a + 1) * x := Nat.pow_succ _ _
  have h6 := Nat.mul_comm ((x + c) ^ (a + 1)) c
  rw [h3, h4, h5, h6]
  exact Nat.le_trans (Nat.add_le_add_right (Nat.le_trans h1 (Nat.add_le_add_left h2 _)) _) (Nat.le_of_eq (Nat.add_assoc _ _ _))
theorem fitL_end {q c N a : Nat} (hN : 1 ≤ N) (h : FitL q c N (a + 1)) : N ≤ (a + 1) * (c * (q + c) ^ a) := by
 unfold FitL at h
 have h1 : q ^ (a + 1) + 1 ≤ 2 ^ Mw.bits (q ^ (a + 1)) := Mw.bits_le.1 (Nat.le_refl _)
 have h2 := Nat.le_trans (Nat.mul_le_mul_left (N ^ (a + 1)) h1) (Nat.le_trans h (binom_le (x := q * N) (c := c)))
 rw [Nat.mul_add, Nat.mul_one, Nat.mul_pow, Nat.mul_comm (N ^ (a + 1)) (q ^ (a + 1))] at h2
 have h3 : N ^ (a + 1) ≤ (a + 1) * (c * (q * N + c) ^ a) := by omega
 have h4 : q * N + c ≤ (q + c) * N := by rw [Nat.add_mul]; have := Nat.mul_le_mul_left c hN; omega
 have h5 := Nat.mul_le_mul_left (a + 1) (Nat.mul_le_mul_left c (Nat.pow_le_pow_left h4 a))
 have h6 : (a + 1) * (c * ((q + c) * N) ^ a) = (a + 1) * (c * (q + c) ^ a) * N ^ a := by rw [Nat.mul_pow, ← Nat.mul_assoc c, ← Nat.mul_assoc (a + 1)]
 have h7 := Nat.le_trans h3 (Nat.le_trans h5 (Nat.le_of_eq h6))
 rw [Nat.pow_succ, Nat.mul_comm] at h7
 exact Nat.le_of_mul_le_mul_right h7 (Nat.pow_pos hN)
end Go.Mth

namespace Go.Mth
open Go.Ab
def iterZ (m : MapM) : Nat → Int → Int
 | 0, z => z
 | k + 1, z => stepZ m (iterZ m k z)
def sbs (l : List ByteArray) : List AV := l.map fun s => .lit (.string s)
def strs (zs : List Int) : List AV := sbs (zs.map txt)
section
variable {C : Ctx} {ops : Array Oper} {s : List (Nat × AV)} {m : List (Nat × AO)} {os : List Oper} {K : List Eff → St → Prop} {d : Nat} {t : TypeId} {p : String} {af : Array Edge} {g : Option (Nat × Bool)}
theorem s_len {ty e : TypeId} {x : Operand} (xs : List ByteArray) (hg : Gd ops s g) (ht : C.P.underlying ty = some (.slice e)) (hx : ev s x = .sl 1 (sbs xs)) (kk : aops C ops ⟨(d, nm .i64 xs.length) :: s, m⟩ os fun es σ' => K ({ val := nm .i64 xs.length } :: es) σ') :
  aops C ops ⟨s, m⟩ (⟨some d, .call { callee := .builtin .len, args := #[x], argTypes := #[ty] }, t, p, af, g⟩ :: os) K := o_lenSl xs.length hg ht hx (by simp [sbs]) kk
theorem s_index {ty : TypeId} {x y : Operand} {e by' : Nat} {kk' : IntKind} (xs : List ByteArray) (i : Nat) (hg : Gd ops s g) (ht : tyElem C.P ty = some (e, 1, by')) (hx : ev s x = .sl 1 (sbs xs)) (hy : ev s y = nm kk' i) (h1 : i < xs.length)
  (kk : aops C ops ⟨(d, .ip ((sbs xs).drop i)) :: s, m⟩ os fun es σ' => K ({ val := .ip ((sbs xs).drop i) } :: es) σ') : aops C ops ⟨s, m⟩ (⟨some d, .indexAddr ty x y, t, p, af, g⟩ :: os) K :=
 o_index1 (i := (i : Int)) hg ht hx hy (by omega) (by simpa [sbs] using h1) kk
theorem s_loadI {ty : TypeId} {x : Operand} (xs : List ByteArray) (i : Nat) (hg : Gd ops s g) (ht : tySc C.P ty = true) (hx : ev s x = .ip ((sbs xs).drop i)) (h1 : i < xs.length)
  (kk : aops C ops ⟨(d, .lit (.string (xs.getD i { data := #[] }))) :: s, m⟩ os fun es σ' => K ({ val := .lit (.string (xs.getD i { data := #[] })) } :: es) σ') : aops C ops ⟨s, m⟩ (⟨some d, .load ty x, t, p, af, g⟩ :: os) K :=
 o_loadIS (.lit (.string (xs.getD i { data := #[] }))) hg ht hx (dropMap0 (f := fun s => AV.lit (.string s)) { data := #[] } h1) kk
end
def orbQ (m : MapM) (a : ByteArray) (k : Int) : Prop := okM m = true ∧ okS a = true ∧ 0 ≤ k ∧ k ≤ 1000
open Classical in
noncomputable def orbS (m : MapM) (a : ByteArray) (k : Int) : List Int := if okM m = true ∧ okS a = true ∧ 0 ≤ k ∧ k ≤ 1000 ∧ Fit (runZ m k.toNat (numS a)) then orbZ m k.toNat (numS a) else []
open Classical in
noncomputable def orbE (m : MapM) (a : ByteArray) (k : Int) : Nat := if okM m = true ∧ okS a = true then if 0 ≤ k ∧ k ≤ 1000 then if Fit (runZ m k.toNat (numS a)) then 0 else 3 else 2 else 1
noncomputable def runS (m : MapM) (a : ByteArray) (k : Int) : ByteArray := if okM m = true ∧ okS a = true ∧ 0 ≤ k ∧ k ≤ 20000 then toldS (runZ m k.toNat (numS a)) else { data := #[] }
noncomputable def runE (m : MapM) (a : ByteArray) (k : Int) : Nat := if okM m = true ∧ okS a = true then if 0 ≤ k ∧ k ≤ 20000 then toldE (runZ m k.toNat (numS a)) else 2 else 1
def fallF (m : MapM) (a : ByteArray) (k : Int) : Nat × Int × Nat := fallZ m (numS a) k.toNat (numS a) 1
noncomputable def fallK (m : MapM) (a : ByteArray) (k : Int) : Nat := if okM m = true ∧ okS a = true ∧ 1 ≤ k ∧ k ≤ 20000 then (fallF m a k).1 else 0
noncomputable def fallT (m : MapM) (a : ByteArray) (k : Int) : ByteArray := if okM m = true ∧ okS a = true ∧ 1 ≤ k ∧ k ≤ 20000 ∧ (fallF m a k).2.2 = 0 then txt (fallF m a k).2.1 else { data := #[] }
noncomputable def fallE (m : MapM) (a : ByteArray) (k : Int) : Nat := if okM m = true ∧ okS a = true then if 1 ≤ k ∧ k ≤ 20000 then (fallF m a k).2.2 else 2 else 1
end Go.Mth

namespace Go.Mth
open Go Go.Ab
def rtn (m : MapM) (z : Int) : Nat → Nat → Nat
 | 0, _ => 0
 | f + 1, j => if 700 < ndig (iterZ m (j + 1) z).natAbs then 0 else if iterZ m (j + 1) z = z then j + 1 else rtn m z f (j + 1)
theorem rtn_per {m : MapM} {z : Int} : ∀ f j, 0 < rtn m z f j → iterZ m (rtn m z f j) z = z ∧ rtn m z f j ≤ j + f
 | 0, j, h => by rw [rtn] at h; omega
 | f + 1, j, h => by
  rw [rtn] at h ⊢
  split at h
  ·omega
  ·rename_i e0
   rw [if_neg e0]
   split at h
   ·rename_i e; rw [if_pos e]; exact ⟨e, by omega⟩
   ·rename_i e; rw [if_neg e]
    obtain ⟨a, b⟩ := rtn_per f (j + 1) h
    exact ⟨a, by omega⟩
theorem rtn_0 {m : MapM} {z : Int} {K j : Nat} (h : rtn m z K 0 = rtn m z (K - j) j) (hj : ¬ j < K) : rtn m z K 0 = 0 := by rw [h, show K - j = 0 by omega]; rfl
theorem rtn_big {m : MapM} {z : Int} {K j : Nat} (h : rtn m z K 0 = rtn m z (K - j) j) (hj : j < K) (h1 : 700 < ndig (iterZ m (j + 1) z).natAbs) : rtn m z K 0 = 0 := by rw [h, show K - j = (K - (j + 1)) + 1 by omega, rtn, if_pos h1]
theorem rtn_y {m : MapM} {z : Int} {K j : Nat} (h : rtn m z K 0 = rtn m z (K - j) j) (hj : j < K) (h1 : ¬ 700 < ndig (iterZ m (j + 1) z).natAbs) (h2 : iterZ m (j + 1) z = z) : rtn m z K 0 = j + 1 := by rw [h, show K - j = (K - (j + 1)) + 1 by omega, rtn, if_neg h1, if_pos h2]
theorem rtn_n {m : MapM} {z : Int} {K j : Nat} (h : rtn m z K 0 = rtn m z (K - j) j) (hj : j < K) (h1 : ¬ 700 < ndig (iterZ m (j + 1) z).natAbs) (h2 : iterZ m (j + 1) z ≠ z) : rtn m z K 0 = rtn m z (K - (j + 1)) (j + 1) := by rw [h, show K - j = (K - (j + 1)) + 1 by omega, rtn, if_neg h1, if_neg h2]
def sumR (m : MapM) (z : Int) : Nat → Nat
 | 0 => 0
 | i + 1 => sumR m z i + (iterZ m i z % m.mod).toNat
def leaZ (m : MapM) (z : Int) : Nat → Int
 | 0 => z
 | i + 1 => if iterZ m i z < leaZ m z i then iterZ m i z else leaZ m z i
theorem leaZ_le {m : MapM} {z : Int} : ∀ k j, j < k → leaZ m z k ≤ iterZ m j z
 | 0, j, h => by omega
 | k + 1, j, h => by
  rw [leaZ]
  by_cases e : j = k
  ·subst e; split <;> omega
  ·have := leaZ_le (m := m) (z := z) k j (by omega)
   split <;> omega
theorem leaZ_top {m : MapM} {z : Int} : ∀ k, leaZ m z k ≤ z
 | 0 => Int.le_refl _
 | k + 1 => by
  have := leaZ_top (m := m) (z := z) k
  rw [leaZ]; split <;> omega
theorem leaZ_pos {m : MapM} {z : Int} (hz : 0 < z) : ∀ k, (∀ j, j < k → 0 < iterZ m j z) → 0 < leaZ m z k
 | 0, _ => hz
 | k + 1, h => by
  have := leaZ_pos hz k fun j hj => h j (by omega)
  have := h k (by omega)
  rw [leaZ]; split <;> omega
def isC (m : MapM) (z : Int) (K : Nat) : Prop := 0 < rtn m z K 0 ∧ ∀ j, j < rtn m z K 0 → 0 < iterZ m j z
end Go.Mth

namespace Go.Mth
open Go Go.Ab
section
variable {q c : Nat} {x s : Nat → Nat} {k : Nat}
theorem cr_up {N : Nat} (h : ∀ i, i < k → (s (i + 1) = s i ∧ 2 * x (i + 1) = x i) ∨ (s (i + 1) = s i + 1 ∧ 2 * x (i + 1) = q * x i + c)) (h0 : s 0 = 0) (hN : ∀ i, i < k → N ≤ x i) : ∀ i, i ≤ k → 2 ^ i * x i * N ^ s i ≤ x 0 * (q * N + c) ^ s i
 | 0, _ => by rw [h0]; simp
 | i + 1, hi => by
  have ih := cr_up h h0 hN i (by omega)
  have e1 : 2 ^ (i + 1) * x (i + 1) = 2 ^ i * (2 * x (i + 1)) := by rw [Nat.pow_succ, Nat.mul_assoc]
  rcases h i (by omega) with ⟨a, b⟩ | ⟨a, b⟩
  ·rw [a, e1, b]; exact ih
  ·have h1 : (q * x i + c) * N ≤ x i * (q * N + c) := by
    have := Nat.mul_le_mul_left c (hN i (by omega))
    rw [Nat.add_mul, Nat.mul_add, show q * x i * N = x i * (q * N) from by rw [Nat.mul_comm q, Nat.mul_assoc], Nat.mul_comm (x i) c]
    omega
   have h2 := Nat.mul_le_mul_left (2 ^ i) (Nat.mul_le_mul_right (N ^ s i) h1)
   have h3 := Nat.mul_le_mul_right (q * N + c) ih
   rw [a, e1, b, Nat.pow_succ, Nat.pow_succ]
   refine Nat.le_trans (Nat.le_of_eq ?_) (Nat.le_trans h2 (Nat.le_trans (Nat.le_of_eq ?_) (Nat.le_trans h3 (Nat.le_of_eq ?_))))
   ·rw [Nat.mul_assoc, Nat.mul_assoc, Nat.mul_comm (N ^ s i) N]
   ·rw [Nat.mul_assoc, Nat.mul_assoc, Nat.mul_assoc, Nat.mul_comm (N ^ s i)]
   ·rw [Nat.mul_assoc]
theorem cr_lo (hc : 1 ≤ c) (h : ∀ i, i < k → (s (i + 1) = s i ∧ 2 * x (i + 1) = x i) ∨ (s (i + 1) = s i + 1 ∧ 2 * x (i + 1) = q * x i + c)) (h0 : s 0 = 0) : ∀ i, i ≤ k → q ^ s i * x 0 ≤ 2 ^ i * x i ∧ (0 < s i → q ^ s i * x 0 < 2 ^ i * x i)
 | 0, _ => by rw [h0]; simp
 | i + 1, hi => by
  have ih := cr_lo hc h h0 i (by omega)
  have e1 : 2 ^ (i + 1) * x (i + 1) = 2 ^ i * (2 * x (i + 1)) := by rw [Nat.pow_succ, Nat.mul_assoc]
  rcases h i (by omega) with ⟨a, b⟩ | ⟨a, b⟩
  ·rw [a, e1, b]; exact ih
  ·have h1 := Nat.mul_le_mul_left q ih.1
   have h2 : 2 ^ i * (q * x i + c) = q * (2 ^ i * x i) + 2 ^ i * c := by rw [Nat.mul_add, ← Nat.mul_assoc, Nat.mul_comm (2 ^ i) q, Nat.mul_assoc]
   have h3 : q ^ (s i + 1) * x 0 = q * (q ^ s i * x 0) := by rw [Nat.pow_succ, Nat.mul_comm (q ^ s i) q, Nat.mul_assoc]
   have h4 : 0 < 2 ^ i * c := Nat.mul_pos (Nat.pow_pos (by decide)) hc
   rw [a, e1, b, h2, h3]
   exact ⟨by omega, fun _ => by omega⟩
end
theorem kin_step6 {q c : Nat} {z : Int} (hq : q % 2 = 1) (hc : c % 2 = 1) (hz : 0 < z) : 0 ≤ stepZ (kinM q c) z ∧ (((z % 2).toNat = 0 ∧ 2 * (stepZ (kinM q c) z).toNat = z.toNat) ∨ ((z % 2).toNat = 1 ∧ 2 * (stepZ (kinM q c) z).toNat = q * z.toNat + c)) := by
 obtain ⟨n, rfl⟩ : ∃ n : Nat, z = (n : Int) := ⟨z.toNat, by omega⟩
 rcases Nat.mod_two_eq_zero_or_one n with e | e
 ·have e2 : ((n : Int) % 2).toNat = 0 := by omega
  have e3 : stepZ (kinM q c) (n : Int) = (n : Int) / 2 := by
   unfold stepZ kinM
   dsimp only
   rw [e2]
   simp
  rw [e3, e2]
  exact ⟨by omega, .inl ⟨rfl, by omega⟩⟩
 ·have e2 : ((n : Int) % 2).toNat = 1 := by omega
  have e3 : stepZ (kinM q c) (n : Int) = (((q * n + c : Nat)) : Int) / 2 := by
   unfold stepZ kinM
   dsimp only
   rw [e2]
   simp
  have e4 : (q * n + c) % 2 = 0 := by rw [Nat.add_mod, Nat.mul_mod, hq, e, hc]
  rw [e3, e2]
  exact ⟨by omega, .inr ⟨rfl, by rw [Int.toNat_natCast]; omega⟩⟩
theorem cr_main {q c k : Nat} {z : Int} (hq : q % 2 = 1) (hc : c % 2 = 1) (hk : 0 < k) (hcyc : iterZ (kinM q c) k z = z) (hpos : ∀ j, j < k → 0 < iterZ (kinM q c) j z) :
  1 ≤ sumR (kinM q c) z k ∧ sumR (kinM q c) z k ≤ k ∧ ∀ N : Nat, 1 ≤ N → (N : Int) ≤ leaZ (kinM q c) z k → FitB q c N (sumR (kinM q c) z k) k := by
 have hs : ∀ i, i < k → (sumR (kinM q c) z (i + 1) = sumR (kinM q c) z i ∧ 2 * (iterZ (kinM q c) (i + 1) z).toNat = (iterZ (kinM q c) i z).toNat) ∨ (sumR (kinM q c) z (i + 1) = sumR (kinM q c) z i + 1 ∧ 2 * (iterZ (kinM q c) (i + 1) z).toNat = q * (iterZ (kinM q c) i z).toNat + c) := fun i hi => by
  obtain ⟨-, h⟩ := kin_step6 hq hc (hpos i hi)
  have e1 : sumR (kinM q c) z (i + 1) = sumR (kinM q c) z i + (iterZ (kinM q c) i z % 2).toNat := rfl
  have e2 : iterZ (kinM q c) (i + 1) z = stepZ (kinM q c) (iterZ (kinM q c) i z) := rfl
  rw [e2, e1]
  rcases h with ⟨a, b⟩ | ⟨a, b⟩
  ·exact .inl ⟨by omega, b⟩
  ·exact .inr ⟨by omega, b⟩
 have hz : 0 < z := hpos 0 hk
 have hz' : 0 < z.toNat := by omega
 have hcy : (iterZ (kinM q c) k z).toNat = (iterZ (kinM q c) 0 z).toNat := by rw [hcyc]; rfl
 have hz2 : 0 < (iterZ (kinM q c) 0 z).toNat := hz'
 have up : ∀ N : Nat, (N : Int) ≤ leaZ (kinM q c) z k → 2 ^ k * N ^ sumR (kinM q c) z k ≤ (q * N + c) ^ sumR (kinM q c) z k := fun N hN => by
  have h := cr_up (x := fun i => (iterZ (kinM q c) i z).toNat) (s := sumR (kinM q c) z) (N := N) hs rfl (fun i hi => by have := leaZ_le (m := kinM q c) (z := z) k i hi; show N ≤ (iterZ (kinM q c) i z).toNat; omega) k (Nat.le_refl _)
  rw [hcy, Nat.mul_comm (2 ^ k), Nat.mul_assoc] at h
  exact Nat.le_of_mul_le_mul_left h hz2
 have hl : 0 < leaZ (kinM q c) z k := leaZ_pos hz k hpos
 have h1 : 1 ≤ sumR (kinM q c) z k := by
  refine Decidable.byContradiction fun hn => ?_
  have h := up 1 (by omega)
  rw [show sumR (kinM q c) z k = 0 by omega] at h
  have := Nat.one_lt_two_pow (n := k) (by omega)
  simp at h
  omega
 have hle : ∀ i, i ≤ k → sumR (kinM q c) z i ≤ i := by
  intro i
  induction i with
  | zero => intro _; exact Nat.le_refl _
  | succ i ih =>
   intro hi
   have := ih (by omega)
   rcases hs i (by omega) with ⟨a, _⟩ | ⟨a, _⟩ <;> omega
 refine ⟨h1, hle k (Nat.le_refl _), fun N hN1 hN => ⟨?_, ?_⟩⟩
 ·have h := (cr_lo (x := fun i => (iterZ (kinM q c) i z).toNat) (s := sumR (kinM q c) z) (by omega) hs rfl k (Nat.le_refl _)).2 h1
  rw [hcy] at h
  exact Nat.lt_of_mul_lt_mul_right h
 ·have := up N hN
  rw [Nat.mul_comm] at this
  exact this
theorem fitB_L {q c N a k : Nat} (h : FitB q c N a k) : FitL q c N a := by
 have h1 : Mw.bits (q ^ a) ≤ k := Mw.bits_le.2 h.1
 exact Nat.le_trans (Nat.mul_le_mul_left _ (Nat.pow_le_pow_right (by decide) h1)) h.2
/- the least exponent that fits -/
theorem lsG_fit {q c N a : Nat} : ∀ f, f ≤ a → lsG q c N a f = 0 ∨ (a - f < lsG q c N a f ∧ lsG q c N a f ≤ a ∧ FitL q c N (lsG q c N a f))
 | 0, _ => .inl rfl
 | f + 1, hf => by
  rw [lsG]
  split
  ·rename_i h; refine Or.inr ⟨?_, ?_, h⟩ <;> omega
  ·rcases lsG_fit (q := q) (c := c) (N := N) (a := a) f (by omega) with h | ⟨h1, h2, h3⟩
   ·exact .inl h
   ·refine Or.inr ⟨?_, h2, h3⟩; omega
theorem lsG_zero {q c N a : Nat} : ∀ f, f ≤ a → lsG q c N a f = 0 → ∀ j, a - f < j → j ≤ a → ¬ FitL q c N j
 | 0, _, _, j, h1, h2 => by omega
 | f + 1, hf, h, j, h1, h2 => by
  rw [lsG] at h
  split at h
  ·omega
  ·rename_i hn
   by_cases e : j = a - f
   ·rw [e]; exact hn
   ·exact lsG_zero f (by omega) h j (by omega) h2
theorem lsF_spec {q c N a : Nat} : lsF q c N a = 0 ∨ (1 ≤ lsF q c N a ∧ lsF q c N a ≤ a ∧ FitL q c N (lsF q c N a)) := by
 rcases lsG_fit (q := q) (c := c) (N := N) (a := a) a (Nat.le_refl _) with h | ⟨h1, h2, h3⟩
 ·exact .inl h
 ·exact .inr ⟨by unfold lsF; omega, h2, h3⟩
theorem lsF_zero {q c N a : Nat} (h : lsF q c N a = 0) : ∀ j, 1 ≤ j → j ≤ a → ¬ FitL q c N j := fun j h1 h2 => lsG_zero a (Nat.le_refl _) h j (by omega) h2
theorem lsG_first {q c N a : Nat} : ∀ f, f ≤ a → ∀ j, a - f < j → j < lsG q c N a f → ¬ FitL q c N j
 | 0, _, j, h1, h2 => by rw [lsG] at h2; omega
 | f + 1, hf, j, h1, h2 => by
  rw [lsG] at h2
  split at h2
  ·omega
  ·rename_i hn
   by_cases e : j = a - f
   ·rw [e]; exact hn
   ·exact lsG_first f (by omega) j (by omega) h2
theorem lsF_first {q c N : Nat} (a : Nat) {j : Nat} (h1 : 1 ≤ j) (h2 : j < lsF q c N a) : ¬ FitL q c N j := lsG_first a (Nat.le_refl _) j (by omega) h2
theorem lsF_pred {q c N a : Nat} (ha : 1 < a) (h : FitL q c N a) : 1 ≤ lsF q c N a ∧ lsF q c N a ≤ a ∧ (lsF q c N (a - 1) = 0 ↔ lsF q c N a = a) := by
 rcases lsF_spec (q := q) (c := c) (N := N) (a := a) with e | ⟨e1, e2, e3⟩
 ·exact absurd h (lsF_zero e a (by omega) (Nat.le_refl _))
 ·refine ⟨e1, e2, fun k => ?_, fun k => ?_⟩
  ·refine Decidable.byContradiction fun hn => lsF_zero k _ e1 (by omega) e3
  ·rcases lsF_spec (q := q) (c := c) (N := N) (a := a - 1) with f | ⟨f1, f2, f3⟩
   ·exact f
   ·exact absurd f3 (lsF_first a f1 (by omega))
def blG (q c a : Nat) : Nat → Nat
 | 0 => 0
 | n + 1 => if FitL q c (n + 1) a then n + 1 else blG q c a n
def blN (q c a : Nat) : Nat := blG q c a (a * (c * (q + c) ^ (a - 1)))
theorem blG_fit {q c a : Nat} : ∀ n, 0 < blG q c a n → FitL q c (blG q c a n) a
 | 0, h => by rw [blG] at h; omega
 | n + 1, h => by
  rw [blG] at h ⊢
  split
  ·assumption
  ·rename_i e; rw [if_neg e] at h; exact blG_fit n h
theorem blG_max {q c a N : Nat} (h : FitL q c N a) : ∀ n, N ≤ n → N ≤ blG q c a n
 | 0, hn => by omega
 | n + 1, hn => by
  rw [blG]
  split
  ·omega
  ·rename_i e
   by_cases k : N = n + 1
   ·rw [k] at h; exact absurd h e
   ·exact blG_max h n (by omega)
theorem bl_max {q c a N : Nat} (ha : 1 ≤ a) (h : FitL q c N a) : N ≤ blN q c a := by
 rcases Nat.eq_zero_or_pos N with e | hN
 ·omega
 ·refine blG_max h _ ?_
  have := fitL_end (a := a - 1) hN (by rw [show a - 1 + 1 = a by omega]; exact h)
  rw [show a - 1 + 1 = a by omega] at this
  exact this
theorem bl_eq {q c a low : Nat} (ha : 1 ≤ a) (h1 : low = 0 ∨ FitL q c low a) (h2 : ¬ FitL q c (low + 1) a) : blN q c a = low := by
 have h3 : low ≤ blN q c a := by
  rcases h1 with e | e
  ·omega
  ·exact bl_max ha e
 refine Decidable.byContradiction fun hn => h2 (fitL_mono (blG_fit _ (show 0 < blN q c a by omega)) (show low + 1 ≤ blN q c a by omega))
theorem fitL_lt {q c a N : Nat} (hq : q ≤ 999) (hc : c ≤ 999999) (ha : 1 ≤ a) (ha2 : a ≤ 60) (h : FitL q c N a) : ∃ b, 6 ≤ b ∧ b ≤ 421 ∧ N < 10 ^ b := by
 refine ⟨7 * (a - 1) + 8, by omega, by omega, ?_⟩
 rcases Nat.eq_zero_or_pos N with e | hN
 ·rw [e]; exact Nat.pow_pos (by decide)
 ·have h1 := fitL_end (a := a - 1) hN (by rw [show a - 1 + 1 = a by omega]; exact h)
  rw [show a - 1 + 1 = a by omega] at h1
  have h2 : (q + c) ^ (a - 1) ≤ (10 ^ 7) ^ (a - 1) := Nat.pow_le_pow_left (by omega) _
  rw [← Nat.pow_mul] at h2
  have h4 := Nat.mul_le_mul hc h2
  have h5 := Nat.mul_le_mul ha2 h4
  have h6 : 60 * (999999 * 10 ^ (7 * (a - 1))) < 10 ^ (7 * (a - 1) + 8) := by
   rw [Nat.pow_add]
   have h7 : 0 < 10 ^ (7 * (a - 1)) := Nat.pow_pos (by decide)
   generalize 10 ^ (7 * (a - 1)) = P at *
   omega
  exact Nat.lt_of_le_of_lt (Nat.le_trans h1 h5) h6
theorem bl_lt {q c a : Nat} (hq : q ≤ 999) (hc : c ≤ 999999) (ha : 1 ≤ a) (ha2 : a ≤ 60) : ∃ b, 6 ≤ b ∧ b ≤ 421 ∧ blN q c a < 10 ^ b := by
 rcases Nat.eq_zero_or_pos (blN q c a) with e | hN
 ·exact ⟨6, by decide, by decide, by rw [e]; decide⟩
 ·exact fitL_lt hq hc ha ha2 (blG_fit _ hN)
theorem fitL_pow {q c a j : Nat} (hq : q ≤ 999) (hc : c ≤ 999999) (ha : 1 ≤ a) (ha2 : a ≤ 60) (h : FitL q c (2 ^ j) a) : j < 1700 := by
 obtain ⟨b, b1, b2, h1⟩ := fitL_lt hq hc ha ha2 h
 have h3 : 10 ^ b ≤ 2 ^ (4 * b) := by
  have := Nat.pow_le_pow_left (show 10 ≤ 2 ^ 4 by decide) b
  rw [← Nat.pow_mul] at this
  exact this
 have h4 : j < 4 * b := by
  refine Decidable.byContradiction fun hn => ?_
  have h2 := Nat.pow_le_pow_right (show 0 < 2 by decide) (show 4 * b ≤ j by omega)
  omega
 omega
end Go.Mth

namespace Go.Mth
open Go Go.Ab
theorem dig_lt8 {x L : Nat} (h : (Mw.digs x).length ≤ L) : x < 18446744073709551616 ^ L := Nat.lt_of_lt_of_le (Mw.digs_hi x) (Nat.pow_le_pow_right (by decide) h)
theorem len_s8 {x y L : Nat} (h : (Mw.digs x).length ≤ L) (hy : y < 18446744073709551616 * x + 18446744073709551616) (hx : 0 < x) : (Mw.digs y).length ≤ L + 1 := by
 have h1 := dig_lt8 h
 refine Mw.digs_len_of_lt ?_
 rw [Nat.pow_succ]
 generalize 18446744073709551616 ^ L = P at *
 omega
theorem grow8 {N q c : Nat} (h : (Mw.digs N).length ≤ 2000) (hq : q ≤ 999) (hc : c ≤ 999999) : (Mw.digs (q * N)).length ≤ 2001 ∧ (Mw.digs (q * N + c)).length ≤ 2002 := by
 rcases Nat.eq_zero_or_pos N with e | hN
 ·subst e
  have h1 : (Mw.digs (q * 0)).length ≤ 1 := Mw.digs_len_of_lt (k := 1) (by omega)
  have h2 : (Mw.digs (q * 0 + c)).length ≤ 1 := Mw.digs_len_of_lt (k := 1) (by omega)
  exact ⟨by omega, by omega⟩
 ·have h2 := Nat.mul_le_mul_right N hq
  have a1 := len_s8 (y := q * N) h (by omega) hN
  have a2 := len_s8 (y := q * N + c) h (by omega) hN
  exact ⟨by omega, by omega⟩
theorem has6 {q c a N : Nat} (hk : KinB (q : Int) (c : Int)) (hN : (Mw.digs N).length ≤ 2000) (ha2 : a ≤ 60) : (Mw.digs q).length ≤ 1 ∧ (Mw.digs c).length ≤ 1 ∧ (Mw.digs (q * N + c)).length ≤ 2002 ∧ (Mw.digs (q ^ a)).length ≤ 1000 ∧ (Mw.digs (N ^ a)).length ≤ 200000 ∧ (Mw.digs ((q * N + c) ^ a)).length ≤ 200000 ∧ Mw.bits (q ^ a) ≤ 601 ∧ (Mw.digs (N ^ a * 2 ^ Mw.bits (q ^ a))).length ≤ 300000 := by
 obtain ⟨e1, e2, e3, e4, e5, e6⟩ := hk
 have fq : (Mw.digs q).length ≤ 1 := Mw.digs_len_of_lt (k := 1) (by omega)
 have fc : (Mw.digs c).length ≤ 1 := Mw.digs_len_of_lt (k := 1) (by omega)
 obtain ⟨f2, f4⟩ := grow8 hN (q := q) (c := c) (by omega) (by omega)
 have b := bits_pow6 (q := q) (a := a) (by omega) ha2
 obtain ⟨u1, u2, u3, u4⟩ := pow6 (N := N) (q := q) (t := q * N + c) (a := a) (k := Mw.bits (q ^ a)) hN (by omega) fq ha2 (by omega)
 exact ⟨fq, fc, f4, u1, u2, u3, b, u4⟩
theorem pow2_len {j : Nat} (h : j ≤ 1700) : (Mw.digs (2 ^ j)).length ≤ 1701 ∧ (Mw.digs (2 ^ j * 2 ^ 1)).length ≤ 1702 := by
 have h1 : 2 ^ j < 18446744073709551616 ^ (j + 1) := by
  have := Nat.pow_le_pow_left (show 2 ≤ 18446744073709551616 by decide) j
  exact Nat.lt_of_le_of_lt this (Nat.pow_lt_pow_right (by decide) (by omega))
 have h2 := Mw.digs_len_of_lt h1
 have h3 := up_len6 (k := 1) (x := 2 ^ j) h2
 exact ⟨by omega, by omega⟩
theorem low_pos {j : Nat} (h : 0 < (Mw.digs (2 ^ j / 2)).length) : ∃ i, j = i + 1 ∧ 2 ^ j / 2 = 2 ^ i := by
 rcases j with _ | i
 ·rw [show 2 ^ 0 / 2 = 0 from rfl, Mw.digs_zero] at h; cases h
 ·exact ⟨i, rfl, by rw [Nat.pow_succ]; omega⟩
theorem low_zero {j : Nat} (h : ¬ 0 < (Mw.digs (2 ^ j / 2)).length) : j = 0 := by
 rcases j with _ | i
 ·rfl
 ·exfalso
  have e : 2 ^ (i + 1) / 2 = 2 ^ i := by rw [Nat.pow_succ]; omega
  rw [e] at h
  have : (Mw.digs (2 ^ i)).length = 0 := by omega
  have := Mw.digs_len_zero.1 this
  have := Nat.pow_pos (a := 2) (n := i) (by decide)
  omega
theorem bl_fits {q c a : Nat} (hk : KinB (q : Int) (c : Int)) (ha : 1 ≤ a) (ha2 : a ≤ 60) : Fit (((blN q c a : Nat)) : Int) ∧ (Mw.digs (blN q c a)).length ≤ 1000 ∧ (decs (blN q c a)).length ≤ 1000 := by
 obtain ⟨e1, e2, e3, e4, e5, e6⟩ := hk
 obtain ⟨b, b1, b2, h⟩ := bl_lt (q := q) (c := c) (by omega) (by omega) ha ha2
 have h2 := len6 h
 refine ⟨?_, by omega, by omega⟩
 show ndig (blN q c a) ≤ 2000
 unfold ndig
 split
 ·decide
 ·omega
/- halving -/
theorem halve_len {l h : Nat} (hl : l < h) (hh : (Mw.digs h).length ≤ 1999) : (Mw.digs l).length ≤ 1999 ∧ (Mw.digs (l + h)).length ≤ 2000 ∧ (Mw.digs ((l + h) / 2)).length ≤ 1999 := by
 have h1 := Mw.digs_len_le (show l ≤ h by omega)
 have h2 := Mw.digs_len_le (show (l + h) / 2 ≤ h by omega)
 exact ⟨by omega, len_s8 (y := l + h) hh (by omega) (by omega), by omega⟩
theorem halve_end {l h : Nat} (hl : l < h) (e : cmpN ((l + h) / 2) l = 0) : h = l + 1 := by
 unfold cmpN at e
 split at e
 ·cases e
 ·split at e
  ·cases e
  ·omega
theorem halve_go {l h : Nat} (hl : l < h) (e : ¬ cmpN ((l + h) / 2) l = 0) : l < (l + h) / 2 ∧ (l + h) / 2 < h := by
 have : (l + h) / 2 ≠ l := fun q => e (by unfold cmpN; rw [q, if_neg (by omega), if_neg (by omega)])
 omega
end Go.Mth

namespace Go.Ab
open Go.RowKit
def postO (C : Ctx) (fn : Func) (id : Nat) (t : TypeId) (cs : List AV) : Exit → St → Prop
 | .normal, σ => ResOk C σ fn.results.toList [.ref id 0] ∧ lookO σ.objs id = some (.var t cs)
 | .ret, σ => ResOk C σ fn.results.toList [.ref id 0] ∧ lookO σ.objs id = some (.var t cs)
 | _, _ => False
theorem postO_ret {C : Ctx} {fn : Func} {id : Nat} {t : TypeId} {cs : List AV} {σ : St} (h : ResOk C σ fn.results.toList [.ref id 0] ∧ lookO σ.objs id = some (.var t cs)) : postO C fn id t cs .ret σ := h
theorem ecallsO_of_awp {C : Ctx} {f : FuncId} {fn : Func} {c : Code} {args : List AV} {id : Nat} {t : TypeId} {cs : List AV} (hf : C.P.funcs[f]? = some fn) (hb : fn.body = some c) (hn : args.length ≤ fn.ntmps) (hcl : closedL cs = true) (h : awp C fn.ntmps c (postO C fn id t cs) (entry args)) (hmk : C.marks = [] := by rfl) : ECallsO C f args (.ref id 0) id (.var t cs) := by
 intro H L vals w hG hH hr
 refine calls_of_wp hf hb ((wpIn_wide (n := 0)).1 ?_)
 have hrep := entry_Rep hmk hG hH hn hr
 refine wpIn_mono (h w H L _ w hrep none) fun ex a' w' hp => ?_
 obtain ⟨σ', H', L', hx, hr', hq⟩ := hp
 have fin : (ResOk C σ' fn.results.toList [.ref id 0] ∧ lookO σ'.objs id = some (.var t cs)) → a'.defers = [] ∧ ∃ v, (results fn a'.tmps).run C.P w' = .ok v w' ∧
   ∃ H' v' rv, Ending.returned v = .returned v' ∧ RepV H' (.ref id 0) (noLoc.set id (some rv)) v' ∧ RepO H' w.heap.size w' (noLoc.set id (some rv)) id (.var t cs) ∧ Ext w.heap.size H H' ∧ (∀ b o, H' b = some o → w'.heap[b]? = some o) ∧ Bel w.heap.size w w' := by
  rintro ⟨hres, ho⟩
  obtain ⟨us, hrun, hrl⟩ := res_run hr' _ _ hres
  simp only [RepL, RepV] at hrl
  obtain ⟨u, r, rfl, ⟨x, g1, hl1, ho1, rfl⟩, rfl⟩ := hrl
  obtain ⟨g, vs', hl0, hh, hrl', h1, hB, hH⟩ := hr'.objs id _ ho
  rw [hl0] at hl1
  cases hl1
  simp only [ownB, Option.some.injEq] at ho1
  subst ho1
  refine ⟨hr'.defers.trans hmk, .pointer (some ⟨g, 0, none⟩), ?_, H', _, .pointer (some ⟨g, 0, none⟩), rfl, ?_, ⟨g, vs', by simp [Loc.set], hh, RepL.mono (Heap.le_refl _) (noLoc_le _) (RepL.closed hcl hrl'), h1, hB, hH⟩, hx, hr'.heap, hr'.below⟩
  ·show (do let vs ← fn.results.mapM (resOne a'.tmps); pure (if h : vs.size = 1 then vs[0] else .tuple vs) : Sem Value).run C.P w' = _
   have hm : (fn.results.mapM (resOne a'.tmps)).run C.P w' = .ok #[.pointer (some ⟨g, 0, none⟩)] w' := by
    rw [Array.mapM_eq_mapM_toList]
    simp [hrun]
   simp only [Sem.run_bind, hm, Result.andThen_ok, Sem.run_pure]
   rfl
  ·simp only [RepV]
   exact ⟨.pointer (some ⟨g, 0, none⟩), g, by simp [Loc.set], rfl, rfl⟩
 cases ex with
 | normal => exact fin hq
 | ret => exact fin hq
 | _ => exact hq.elim
theorem succB_spec2 {N : Nat} {ops : Array Oper} (h : succB N ops = true) : ∀ j, j < N → ∃ k o, j < k ∧ k ≤ N ∧ ops[k]? = some o ∧ edgeB j o = true := fun j hj => by
 have h1 := List.all_eq_true.1 h j (List.mem_range.2 hj)
 rw [List.any_eq_true] at h1
 obtain ⟨k, hm, hk⟩ := h1
 simp only [Bool.and_eq_true] at hk
 have hm := List.mem_range.1 hm
 cases ho : ops[k]? with
 | none => rw [ho] at hk; cases hk.2
 | some o => rw [ho] at hk; exact ⟨k, o, Nat.blt_eq.mp hk.1 |> fun h => h, by omega, ho, hk.2⟩
section
variable {C : Ctx} {n : Nat} {w0 : World} {ops : Array Oper} {Q : Exit → Act → World → Prop}
theorem any_soundL2 (r : Option Nat) {S' : SS} {N : Nat} {oz oy : Oper} (hoz : ops[N]? = some oz) (hoy : ops[N + 1]? = some oy) (hyz : edgeB N oy = true) (hN : ops.size = N + 2) (M : Act → World → Prop) (hsuf : ∀ (K : Act → World → Prop) (a : Act) (w : World), M a w → (∀ a' w', Q .normal a' w' → K a' w') → wpOpIn (fen r) 0 C.P ops Q (N + 1) K a w) (hedge : ∀ j o, ops[j]? = some o → ∀ e ∈ o.after, Region.binds .any e = true → e.on < j)
  (hsucc : ∀ j, j < N → ∃ k o, j < k ∧ k ≤ N ∧ ops[k]? = some o ∧ edgeB j o = true) (H0 : Heap) (hlast : ∀ (K : Act → World → Prop) (H : Heap) (L : Loc) (a : Act) (w : World), Ext w0.heap.size H0 H → Rep C n w0 H L S' a w → (∀ a' w', M a' w' → K a' w') → wpOpIn (fen r) 0 C.P ops Q N K a w) :
  ∀ (fuel : Nat) (listed : Array Bool) (R : List It) (S : SS) (H : Heap) (L : Loc) (a : Act) (w : World),
  R.length + 2 ≤ fuel → listed.size = ops.size → (∀ p ∈ R, ops[p.i]? = some p.o) → (∀ p ∈ R, p.i < N) → (∀ j, listed.getD j true = false → (∃ p ∈ R, p.i = j) ∨ j = N ∨ j = N + 1) → (∀ p ∈ R, listed.getD p.i true = false) → listed.getD N true = false → listed.getD (N + 1) true = false →
  (∀ j o, ops[j]? = some o → listed.getD j true = true → ∀ e ∈ o.after, Region.binds .any e = true → listed.getD e.on true = true) →
  R.Pairwise (fun p q => p.i < q.i) → R.Pairwise (fun p q => lateB p q = true ∧ (edgeB p.i q.o = true ∨ indepB ops p q = true)) →
  (∀ p ∈ R, ∀ id ∈ p.e.fresh, S.Fresh id) → (∀ p ∈ R, ∀ d, p.o.dst = some d → d < n) → Tr C ops S R S' → Rep C n w0 H L S a w → Ext w0.heap.size H0 H → wpAnyIn (fen r) 0 C.P .any ops Q fuel listed a w := by
 intro fuel
 induction fuel with
 | zero => intro listed R S H L a w hlen; omega
 | succ fuel ih =>
  intro listed R S H L a w hlen hsz hops hlt hun hR hNu hN2 hdown hasc hpw hfr hd ht hr hx0
  have hsize : ∀ {j o}, ops[j]? = some o → j < listed.size := fun h => by rw [hsz]; exact (Array.getElem?_eq_some_iff.1 h).1
  have isList : ∀ {j : Nat}, j < listed.size → listed.getD j true ≠ false → listed.getD j true = true := fun hj hn => by cases h : listed.getD _ true with | true => rfl | false => exact absurd h hn
  refine ⟨fun hre => ?_, fun j hj => ?_⟩
  ·exfalso
   have front : ∃ j, j ∈ Region.ready .any ops listed := by
    cases R with
    | nil =>
     refine ⟨N, mem_ready.2 ⟨hNu, oz, hoz, fun e he hb => ?_⟩⟩
     have hl := hedge N oz hoz e he hb
     have hs : e.on < listed.size := by have := hsize hoz; omega
     have : listed.getD e.on true = true := isList hs fun hf => by
      rcases hun _ hf with ⟨p, hp, _⟩ | h
      ·cases hp
      ·omega
     simpa [Array.getD_eq_getD_getElem?, hs] using this
    | cons p R =>
     have hp := hops p (by simp)
     refine ⟨p.i, mem_ready.2 ⟨hR p (by simp), p.o, hp, fun e he hb => ?_⟩⟩
     have hl := hedge p.i p.o hp e he hb
     have hs : e.on < listed.size := by have := hsize hp; omega
     have : listed.getD e.on true = true := isList hs fun hf => by
      rcases hun _ hf with ⟨q, hq, hqe⟩ | h
      ·rcases List.mem_cons.1 hq with rfl | hq
       ·omega
       ·have := List.rel_of_pairwise_cons hasc hq
        omega
      ·have := hlt p (by simp)
       omega
     simpa [Array.getD_eq_getD_getElem?, hs] using this
   obtain ⟨j, hj⟩ := front
   rw [hre] at hj
   cases hj
  ·obtain ⟨hjun, oj, hoj, hall⟩ := mem_ready.1 hj
   have hall2 : ∀ e ∈ oj.after, Region.binds .any e = true → listed.getD e.on true = true := fun e he hb => by
    have h1 := hall e he hb
    have hs : e.on < listed.size := by have := hedge j oj hoj e he hb; have := hsize hoj; omega
    simp [Array.getD_eq_getD_getElem?, hs] at h1 ⊢
    exact h1
   have edge_on : ∀ {i : Nat} {o : Oper}, edgeB i o = true → ∃ e ∈ o.after, Region.binds .any e = true ∧ e.on = i := fun {i o} h => by
    simp only [edgeB, Array.any_eq_true'] at h
    obtain ⟨e, he, hb⟩ := h
    simp only [Bool.and_eq_true] at hb
    exact ⟨e, he, hb.1, Nat.eq_of_beq_eq_true hb.2⟩
   rcases hun j hjun with ⟨p, hpR, rfl⟩ | rfl | rfl
   ·have hpo := hops p hpR
    rw [hoj] at hpo
    cases hpo
    obtain ⟨R1, R2, rfl⟩ := List.append_of_mem hpR
    have hind : ∀ q ∈ R1, indepB ops q p = true := by
     intro q hq
     have := (List.pairwise_append.1 hpw).2.2 q hq p (by simp)
     rcases this.2 with h | h
     ·exfalso
      obtain ⟨e, he, hb, hon⟩ := edge_on h
      have h1 := hall2 e he hb
      rw [hon, hR q (by simp [hq])] at h1
      cases h1
     ·exact h
    obtain ⟨hstep, ht'⟩ := Tr.front R1 S ht hind
    have hsub : (R1 ++ R2).Sublist (R1 ++ p :: R2) := List.Sublist.append (List.Sublist.refl _) (List.sublist_cons_self p R2)
    have hpN := hlt p hpR
    refine hstep.sound hoj hr (hd p hpR) (hfr p hpR) (fun a' w' H' L' hx hr' => ?_) r
    refine ih (listed.setIfInBounds p.i true) (R1 ++ R2) _ H' L' a' w' (by simp at hlen ⊢; omega) (by simpa using hsz) (fun q hq => hops q (hsub.subset hq)) (fun q hq => hlt q (hsub.subset hq)) (fun k hk => ?_) (fun q hq => ?_) ?_ ?_ (fun k o ho hk e he hb => ?_) (hasc.sublist hsub) (hpw.sublist hsub) (fun q hq id hid => ?_) (fun q hq => hd q (hsub.subset hq)) ht' hr' (hx0.trans hx)
    ·have hkp : p.i ≠ k := by
      intro e
      subst e
      simp [Array.getD_eq_getD_getElem?, hsize hoj] at hk
     rw [getD_set_ne true hkp] at hk
     rcases hun k hk with ⟨q, hq, rfl⟩ | h
     ·refine .inl ⟨q, ?_, rfl⟩
      rcases List.mem_append.1 hq with hq | hq
      ·exact List.mem_append_left _ hq
      ·rcases List.mem_cons.1 hq with rfl | hq
       ·exact absurd rfl hkp
       ·exact List.mem_append_right _ hq
     ·exact .inr h
    ·have hne : p.i ≠ q.i := by
      rcases List.mem_append.1 hq with hq | hq
      ·have := (List.pairwise_append.1 hasc).2.2 q hq p (by simp)
       omega
      ·have := List.rel_of_pairwise_cons (List.pairwise_append.1 hasc).2.1 hq
       omega
     rw [getD_set_ne true hne]
     exact hR q (hsub.subset hq)
    ·rw [getD_set_ne true (by omega)]
     exact hNu
    ·rw [getD_set_ne true (by omega)]
     exact hN2
    ·have keep : ∀ i, listed.getD i true = true → (listed.setIfInBounds p.i true).getD i true = true := fun i hi => by
      by_cases hip : p.i = i
      ·subst hip; simp [Array.getD_eq_getD_getElem?, hsize hoj]
      ·rw [getD_set_ne true hip]; exact hi
     by_cases hkp : p.i = k
     ·subst hkp
      rw [hoj] at ho
      cases ho
      exact keep _ (hall2 e he hb)
     ·rw [getD_set_ne true hkp] at hk
      exact keep _ (hdown k o ho hk e he hb)
    ·have hfq := hfr q (hsub.subset hq) id hid
     rcases List.mem_append.1 hq with hq | hq
     ·have := hind q hq
      simp only [indepB, Bool.and_eq_true, List.all_eq_true, Bool.not_eq_true'] at this
      exact app_fresh hfq (this.2 id hid).1 (this.2 id hid).2
     ·have := (List.rel_of_pairwise_cons (List.pairwise_append.1 hpw).2.1 hq).1
      simp only [lateB, Bool.and_eq_true, List.all_eq_true, Bool.not_eq_true'] at this
      exact app_fresh hfq (this id hid).1 (this id hid).2
   ·rw [hoz] at hoj
    cases hoj
    have hnil : R = [] := by
     refine Decidable.byContradiction fun hne => ?_
     obtain ⟨R1, p, rfl⟩ : ∃ R1 p, R = R1 ++ [p] := ⟨R.dropLast, R.getLast hne, (List.dropLast_concat_getLast hne).symm⟩
     have hpu := hR p (by simp)
     obtain ⟨k, o, hk, hkN1, hko, hke⟩ := hsucc p.i (hlt p (by simp))
     obtain ⟨e, he, hb, hon⟩ := edge_on hke
     have hks := hsize hko
     rw [hsz, hN] at hks
     by_cases hkN : k = j
     ·subst hkN
      rw [hoz] at hko
      cases hko
      have := hall2 e he hb
      rw [hon, hpu] at this
      cases this
     ·have hkl : listed.getD k true = true := isList (hsize hko) fun hf => by
       rcases hun k hf with ⟨q, hq, rfl⟩ | h
       ·rcases List.mem_append.1 hq with hq | hq
        ·have := (List.pairwise_append.1 hasc).2.2 q hq p (by simp)
         omega
        ·rw [List.mem_singleton] at hq
         subst hq
         omega
       ·omega
      have := hdown k o hko hkl e he hb
      rw [hon, hpu] at this
      cases this
    subst hnil
    cases ht
    refine hlast _ H L a w hx0 hr (fun a' w' hq => ?_)
    have hdone : ∀ i, i < ops.size → i ≠ j → i ≠ j + 1 → listed.getD i true = true := fun i hi h1 h2 => isList (by omega) fun hf => by
     rcases hun i hf with ⟨q, hq, _⟩ | h
     ·cases hq
     ·omega
    have hsj : j < listed.size := hsize hoz
    have hsy : j + 1 < listed.size := hsize hoy
    have hsetj : (listed.setIfInBounds j true).getD j true = true := by simp [Array.getD_eq_getD_getElem?, hsj]
    cases fuel with
    | zero => simp at hlen
    | succ fuel =>
    refine ⟨fun hre => ?_, fun i hi => ?_⟩
    ·exfalso
     have hm : j + 1 ∈ Region.ready .any ops (listed.setIfInBounds j true) := mem_ready.2 ⟨by rw [getD_set_ne true (by omega)]; exact hN2, oy, hoy, fun e he hb => by
      have hl := hedge _ oy hoy e he hb
      have h3 : (listed.setIfInBounds j true).getD e.on true = true := by
       by_cases e1 : j = e.on
       ·rw [← e1]; exact hsetj
       ·rw [getD_set_ne true e1]; exact hdone _ (by omega) (fun e => e1 e.symm) (by omega)
      have hs : e.on < (listed.setIfInBounds j true).size := by simp; omega
      have h4 : (listed.setIfInBounds j true)[e.on]? = some true := by
       rw [Array.getD_eq_getD_getElem?, Array.getElem?_eq_getElem hs] at h3
       rw [Array.getElem?_eq_getElem hs]
       exact congrArg some h3
      rw [Array.getD_eq_getD_getElem?, h4]
      rfl⟩
     rw [hre] at hm
     cases hm
    ·have hiu := (mem_ready.1 hi).1
     have hij : j ≠ i := fun e => by subst e; rw [hsetj] at hiu; cases hiu
     rw [getD_set_ne true hij] at hiu
     have hi1 : i = j + 1 := by
      rcases hun i hiu with ⟨q, hq, _⟩ | h
      ·cases hq
      ·omega
     subst hi1
     refine hsuf _ a' w' hq fun a2 w2 hq2 => ?_
     have hrd : Region.ready .any ops ((listed.setIfInBounds j true).setIfInBounds (j + 1) true) = [] := by
      refine List.eq_nil_iff_forall_not_mem.2 fun k hk => ?_
      have hku := (mem_ready.1 hk).1
      by_cases hkj : j + 1 = k
      ·subst hkj
       simp [Array.getD_eq_getD_getElem?, hsy] at hku
      ·rw [getD_set_ne true hkj] at hku
       by_cases hkj2 : j = k
       ·subst hkj2; rw [hsetj] at hku; cases hku
       ·rw [getD_set_ne true hkj2] at hku
        rcases hun k hku with ⟨q, hq, _⟩ | h
        ·cases hq
        ·omega
     cases fuel with
     | zero => exact ⟨hrd, hq2⟩
     | succ fuel => exact ⟨fun _ => hq2, fun i hi => by rw [hrd] at hi; cases hi⟩
   ·exfalso
    obtain ⟨e, he, hb, hon⟩ := edge_on hyz
    rw [hoy] at hoj
    cases hoj
    have := hall2 e he hb
    rw [hon, hNu] at this
    cases this
end
theorem awp_regionSL2 {C : Ctx} {n : Nat} {Q : Exit → St → Prop} {σ : St} {id : Nat} {ops : Array Oper} (k d d2 : Nat) (y : Operand) (f : FuncId) (caps : List AV) (args : Array Operand) (tys : Array TypeId) (t t2 : TypeId) (p p2 : String) (af af2 : Array Edge) (asx : List AV) (res : AV) (m' : List (Nat × AO))
  (hk : ops[k]? = some ⟨some d, .call { callee := .value y, args := args, argTypes := tys }, t, p, af, none⟩) (hk2 : ops[k + 1]? = some ⟨some d2, .assign (.tmp d), t2, p2, af2, none⟩) (hyz : edgeB k (⟨some d2, .assign (.tmp d), t2, p2, af2, none⟩ : Oper) = true) (hkl : ops.size = k + 2) (hd : dstsB n ops.toList = true) (hb : callable C.P f = true) (hs : succB k ops = true) (hg : edgesB 0 ops.toList = true)
  (h : aops C ops σ (ops.toList.take k) fun es σ0 => (pairsB ops (items 0 (ops.toList.take k) es) && es.all fun e => e.fresh.all σ.freshB) = true ∧ ∃ σ1, Wk C n σ0 σ1 ∧ σ1.ev y = .clo f caps ∧ args.toList.map σ1.sem.ev ++ caps = asx ∧ SCalls C n f asx σ1.slots σ1.objs res m' ∧ Q .normal ⟨(d2, res) :: (d, res) :: σ1.slots, m'⟩) :
  awp C n (.region id ops true) Q σ := fun w0 H L a w hr r => by
 obtain ⟨es, σ0, ht, hb1, σ1, hwk, hy, has, hS, hq⟩ := h
 simp only [Bool.and_eq_true] at hb1
 refine wpIn_region_any C.mixed ?_
 have hdst := dsts_spec hd
 obtain ⟨hlen, hasc, hit, hex⟩ := items_spec (ops.toList.take k) es 0 ht.len
 have htl : (ops.toList.take k).length = k := by rw [List.length_take]; simp [hkl]
 have hfal : ∀ j, (Array.replicate ops.size false).getD j true = false ↔ j < ops.size := by
  intro j
  by_cases hj : j < ops.size
  ·simp [Array.getD_eq_getD_getElem?, hj]
  ·simp [Array.getD_eq_getD_getElem?, hj]
 have inops : ∀ {j : Nat} {o : Oper}, (ops.toList.take k)[j]? = some o → ops[j]? = some o ∧ j < k := fun {j o} h => by
  rw [List.getElem?_take] at h
  split at h
  ·rename_i hj; exact ⟨by simpa using h, hj⟩
  ·cases h
 have hr' : Rep C n w0 H L (St.sem σ) a { w with drawn := w.drawn + 1 } := ⟨hr.glob, hr.heap, hr.size, hr.slot, fun id o ho => (hr.objs id o ho).kept (Heap.le_refl _) (fun _ _ _ h => h) rfl (fun _ _ _ h => h) (fun _ _ _ _ => rfl), hr.apart, hr.below.drew, hr.defers⟩
 refine any_soundL2 r (S' := σ0.sem) (N := k) hk hk2 hyz hkl (fun a2 w2 => ∃ H2 L2, Ext w0.heap.size H H2 ∧ Rep C n w0 H2 L2 (St.sem ⟨(d, res) :: σ1.slots, m'⟩) a2 w2) (fun K a2 w2 hM hK => ?_) (fun j o hj e he hbb => ?_) (succB_spec2 hs) H (fun K Hq Lq a2 w2 hxq hrq hK => ?_) ops.size _ (items 0 (ops.toList.take k) es) σ.sem H L a _ (by rw [hlen, htl]; omega) (by simp) (fun q hq => ?_) (fun q hq => ?_) (fun j hj => ?_) (fun q hq => ?_) ((hfal k).2 (by omega)) ((hfal (k + 1)).2 (by omega)) (fun j o ho hl => ?_) hasc (pairs_spec _ hb1.1) (fun q hq => ?_) (fun q hq => ?_) (ht.tr 0) hr' (Ext.refl _ _)
 ·obtain ⟨H2, L2, hx2, hr2⟩ := hM
  have hdn : d2 < n := hdst ⟨some d2, .assign (.tmp d), t2, p2, af2, none⟩ (by have := List.mem_of_getElem? (l := ops.toList) (i := k + 1) (by simpa using hk2); exact this) d2 rfl
  refine TrOp.sound (TrOp.run (C := C) (ops := ops) rfl (.copy (.tmp d) (.inr rfl))) hk2 hr2 (fun d' hd' => by cases hd'; exact hdn) (fun id hid => by cases hid) (fun a3 w3 H3 L3 hx3 hr3 => hK a3 w3 ⟨_, H3, L3, hx2.trans hx3, ?_, hq⟩) r
  have e1 : (St.sem ⟨(d, res) :: σ1.slots, m'⟩).ev (.tmp d) = res := by simp [SS.ev, St.sem, look]
  rw [e1] at hr3
  rw [show St.sem ⟨(d2, res) :: (d, res) :: σ1.slots, m'⟩ = (St.sem ⟨(d, res) :: σ1.slots, m'⟩).app (some d2) { val := res } from by unfold St.sem SS.app; congr 1; funext j; simp only [look]; by_cases h : d2 = j; (subst h; simp); (rw [beq_ne h]; simp [h])]
  exact hr3
 ·have := edges_spec ops.toList 0 hg j o (by simpa using hj) e he hbb
  omega
 ·obtain ⟨H2, L2, hxw, hr2⟩ := hwk w0 Hq Lq a2 w2 hrq
  have hx2 := hxq.trans hxw
  unfold wpOpIn
  simp only [hk]
  rw [if_pos (by simp [Region.wanted])]
  have hyv := hr2.ev y
  rw [ev_sem, hy] at hyv
  simp only [RepV] at hyv
  obtain ⟨cv, hev, hcr⟩ := hyv
  have hargs : ∀ (xs : List Operand), RepL H2 (xs.map σ1.sem.ev) L2 (xs.map a2.eval) := by
   intro xs
   induction xs with
   | nil => simp only [List.map_nil, RepL]
   | cons x xs ih => simp only [List.map_cons, RepL]; exact ⟨_, _, rfl, hr2.ev x, ih⟩
  have hal := (hargs args.toList).app hcr
  rw [has] at hal
  have hc := hS w0 H2 L2 a2 w2 _ hr2 hal
  have e1 : (List.map a2.eval args.toList ++ cv).toArray = args.map a2.eval ++ cv.toArray := by apply Array.ext'; simp
  rw [e1] at hc
  refine wp_enter (run_call_val rfl hev (callable_spec hb).1 (callable_spec hb).2) (hc.mono ?_) r
  rintro e w3 ⟨v, H3, L3, rfl, hx3, hv3, hr3⟩
  refine ⟨v, rfl, hK _ _ ?_⟩
  have hdn : d < n := hdst ⟨some d, .call { callee := .value y, args := args, argTypes := tys }, t, p, af, none⟩ (by have := List.mem_of_getElem? (l := ops.toList) (i := k) (by simpa using hk); exact this) d rfl
  have hv := hr3.val (dst := some d) (fun d' hd' => by cases hd'; exact hdn) (x := res) (v := v) hv3 [] []
  rw [← sem_app] at hv
  exact ⟨H3, L3, hx2.trans hx3, hv⟩
 ·have := (inops (hit q hq).2.1).1
  simpa using this
 ·have := (inops (hit q hq).2.1).2
  omega
 ·have hj2 := (hfal j).1 hj
  by_cases hjk : j = k ∨ j = k + 1
  ·exact .inr hjk
  ·obtain ⟨q, hq, hqi⟩ := hex j (by rw [htl]; omega)
   exact .inl ⟨q, hq, by omega⟩
 ·rw [hfal]
  have := (inops (hit q hq).2.1).2
  omega
 ·exfalso
  have hj : j < ops.size := (Array.getElem?_eq_some_iff.1 ho).1
  rw [(hfal j).2 hj] at hl
  cases hl
 ·have := (hit q hq).2.2
  have he := List.mem_of_getElem? this
  exact fun id hid => fresh_sem (List.all_eq_true.1 (List.all_eq_true.1 hb1.2 _ he) id hid)
 ·have := (hit q hq).2.1
  exact hdst q.o (List.mem_of_mem_take (List.mem_of_getElem? this))
end Go.Ab

namespace Go.Proofs.Ytaeknciienkijaa
open Go Go.Ab Go.Mth
theorem f103_ : callable cx.P 29 = true := by kernel_rfl
theorem f104_ : callable cx.P 54 = true := by kernel_rfl
theorem c_bBegin (q c N : Nat) (hk : KinB (q : Int) (c : Int)) (hN : (Mw.digs N).length ≤ 2000) : ECallsO cx 26 [Nv q, Nv c, .sl 1 (ns .u64 (Mw.digs N))] (.ref 702 0) 702 (.var 86 [.sl 1 (ns .u64 (Mw.digs q)), .sl 1 (ns .u64 (Mw.digs N)), .sl 1 (ns .u64 (Mw.digs (q * N + c))), .sl 1 (ns .u64 (Mw.digs 1)), .sl 1 (ns .u64 (Mw.digs 1)), .sl 1 (ns .u64 (Mw.digs 1))]) := by
 refine ecallsO_of_awp Try.func26 (c := _) rfl (Nat.le_of_ble_eq_true rfl) rfl ?_
 show awp cx 40 _ (postO cx Try.f26 702 86 [.sl 1 (ns .u64 (Mw.digs q)), .sl 1 (ns .u64 (Mw.digs N)), .sl 1 (ns .u64 (Mw.digs (q * N + c))), .sl 1 (ns .u64 (Mw.digs 1)), .sl 1 (ns .u64 (Mw.digs 1)), .sl 1 (ns .u64 (Mw.digs 1))]) ⟨[(0, Nv q), (1, Nv c), (2, .sl 1 (ns .u64 (Mw.digs N)))], []⟩
 obtain ⟨e1, e2, e3, e4, e5, e6⟩ := hk
 have fq : (Mw.digs q).length ≤ 1 := Mw.digs_len_of_lt (k := 1) (by omega)
 have fc : (Mw.digs c).length ≤ 1 := Mw.digs_len_of_lt (k := 1) (by omega)
 obtain ⟨f2, f4⟩ := grow8 hN (q := q) (c := c) (by omega) (by omega)
 refine awp_seq fun K0 hK0 => awp_region rfl (o_as (.lit (Go.Value.pointer none)) rfl (aops_end (hK0 _ (awp_seq fun K1 hK1 => awp_region rfl (o_mv (Nv q) rfl ?_)))))
 refine n_conv q gn rfl f18_ f34_ (by simp only [topOf]; omega) ?_
 refine o_ct (c_xOf q (by first | omega | assumption)) gn f15_ rfl ?_
 refine o_mv (.sl 1 (ns .u64 (Mw.digs N))) rfl ?_
 refine o_build [.sl 1 (ns .u64 (Mw.digs q)), .sl 1 (ns .u64 (Mw.digs N)), Zv, Zv, Zv, Zv] [(0, [.sl 1 (ns .u64 (Mw.digs q))]), (1, [.sl 1 (ns .u64 (Mw.digs N))])] gn f87_ f88_ rfl rfl rfl ?_
 refine o_box 2 [.sl 1 (ns .u64 (Mw.digs q)), .sl 1 (ns .u64 (Mw.digs N)), Zv, Zv, Zv, Zv] gn rfl rfl ?_
 refine o_as (.ref 2 0) rfl (aops_end (hK1 _ (awp_seq fun K2 hK2 => awp_region rfl (o_mv (.ref 2 0) rfl (o_mv (.ref 2 0) rfl ?_)))))
 refine o_nilRef gn rfl ?_
 refine o_fieldRef 0 gn f89_ rfl rfl ?_
 refine o_loadS (.sl 1 (ns .u64 (Mw.digs q))) gn f26_ rfl rfl rfl ?_
 refine o_mv (.sl 1 (ns .u64 (Mw.digs N))) rfl ?_
 refine o_ct (c_xTimes q N (by first | omega | assumption) (by first | omega | assumption)) gn f16_ rfl ?_
 refine o_mv (Nv c) rfl ?_
 refine n_conv c gn rfl f18_ f34_ (by simp only [topOf]; omega) ?_
 refine o_ct (c_xOf c (by first | omega | assumption)) gn f15_ rfl ?_
 refine o_ct (c_xPlus (q * N) c (by first | omega | assumption) (by first | omega | assumption)) gn f30_ rfl ?_
 refine o_nilRef gn rfl ?_
 refine o_fieldRef 2 gn f90_ rfl rfl ?_
 refine o_store [(2, .var 86 [.sl 1 (ns .u64 (Mw.digs q)), .sl 1 (ns .u64 (Mw.digs N)), .sl 1 (ns .u64 (Mw.digs (q * N + c))), Zv, Zv, Zv])] gn f91_ rfl rfl rfl rfl rfl rfl ?_
 refine aops_end (hK2 _ (awp_seq fun K3 hK3 => awp_region rfl (o_mv (.ref 2 0) rfl (o_mv (.ref 2 0) rfl (o_mv (.ref 2 0) rfl ?_)))))
 refine o_ct (c_xOf 1 (by first | omega | assumption)) gn f15_ rfl ?_
 refine o_ct (c_xOf 1 (by first | omega | assumption)) gn f15_ rfl ?_
 refine o_ct (c_xOf 1 (by first | omega | assumption)) gn f15_ rfl ?_
 refine o_nilRef gn rfl ?_
 refine o_fieldRef 3 gn f92_ rfl rfl ?_
 refine o_store [(2, .var 86 [.sl 1 (ns .u64 (Mw.digs q)), .sl 1 (ns .u64 (Mw.digs N)), .sl 1 (ns .u64 (Mw.digs (q * N + c))), .sl 1 (ns .u64 (Mw.digs 1)), Zv, Zv])] gn f91_ rfl rfl rfl rfl rfl rfl ?_
 refine o_nilRef gn rfl ?_
 refine o_fieldRef 4 gn f93_ rfl rfl ?_
 refine o_store [(2, .var 86 [.sl 1 (ns .u64 (Mw.digs q)), .sl 1 (ns .u64 (Mw.digs N)), .sl 1 (ns .u64 (Mw.digs (q * N + c))), .sl 1 (ns .u64 (Mw.digs 1)), .sl 1 (ns .u64 (Mw.digs 1)), Zv])] gn f91_ rfl rfl rfl rfl rfl rfl ?_
 refine o_nilRef gn rfl ?_
 refine o_fieldRef 5 gn f94_ rfl rfl ?_
 refine o_store [(2, .var 86 [.sl 1 (ns .u64 (Mw.digs q)), .sl 1 (ns .u64 (Mw.digs N)), .sl 1 (ns .u64 (Mw.digs (q * N + c))), .sl 1 (ns .u64 (Mw.digs 1)), .sl 1 (ns .u64 (Mw.digs 1)), .sl 1 (ns .u64 (Mw.digs 1))])] gn f91_ rfl rfl rfl rfl rfl rfl ?_
 refine aops_end (hK3 _ (awp_seq fun K4 hK4 => awp_region rfl (o_mv (.ref 2 0) rfl (o_as (.ref 2 0) rfl (aops_end (hK4 _ ?_))))))
 refine awp_wk (σ' := ⟨[(6, .ref 2 0)], [(2, .var 86 [.sl 1 (ns .u64 (Mw.digs q)), .sl 1 (ns .u64 (Mw.digs N)), .sl 1 (ns .u64 (Mw.digs (q * N + c))), .sl 1 (ns .u64 (Mw.digs 1)), .sl 1 (ns .u64 (Mw.digs 1)), .sl 1 (ns .u64 (Mw.digs 1))])]⟩) (Wk.sub ⟨rfl, trivial⟩ ⟨rfl, trivial⟩) ?_
 refine awp_wk (σ' := ⟨[(6, .ref 702 0)], [(702, .var 86 [.sl 1 (ns .u64 (Mw.digs q)), .sl 1 (ns .u64 (Mw.digs N)), .sl 1 (ns .u64 (Mw.digs (q * N + c))), .sl 1 (ns .u64 (Mw.digs 1)), .sl 1 (ns .u64 (Mw.digs 1)), .sl 1 (ns .u64 (Mw.digs 1))])]⟩) (Wk.ren (id := 2) (id' := 702) rfl) ?_
 refine awp_ret ?_
 exact postO_ret ⟨⟨AV.le_refl _, trivial⟩, (by first | rfl | rfl)⟩

theorem c_bHas (q c a N : Nat) (hk : KinB (q : Int) (c : Int)) (ha : 1 ≤ a) (ha2 : a ≤ 60) (hN0 : 1 ≤ N) (hN : (Mw.digs N).length ≤ 2000) :
  RCalls cx 34 [.sl 1 (ns .u64 (Mw.digs N)), .ref 2 0, .ref 3 0, .ref 4 0] [2, 3, 4] [(2, .var 3 [Nv q]), (3, .var 3 [Nv c]), (4, .var 3 [Nv a])] (bp (FitL q c N a)) [(2, .var 3 [Nv q]), (3, .var 3 [Nv c]), (4, .var 3 [Nv a])] := by
 refine rcalls_of_s (scalls_of_awpB 9209 Try.func34 (c := _) rfl (Nat.le_of_ble_eq_true rfl) rfl rfl rfl (fun us => ?_)) rfl
 refine awp_late ?_
 show awp cx 17 _ (lateQ cx 17 (postS cx Try.f34 (bp (FitL q c N a)) [(2, .var 3 [Nv q]), (3, .var 3 [Nv c]), (4, .var 3 [Nv a])] 9209 [.ref 2 0, .ref 3 0, .ref 4 0] us)) ⟨[(0, .sl 1 (ns .u64 (Mw.digs N))), (1, .ref 2 0), (2, .ref 3 0), (3, .ref 4 0)], [(9209, .pin [.ref 2 0, .ref 3 0, .ref 4 0] us), (2, .var 3 [Nv q]), (3, .var 3 [Nv c]), (4, .var 3 [Nv a])]⟩
 obtain ⟨fq, fc, f4, u1, u2, u3, u4, u5⟩ := has6 hk hN ha2
 have hk0 := hk
 obtain ⟨e1, e2, e3, e4, e5, e6⟩ := hk0
 have hqN := Nat.mul_le_mul (show 1 ≤ q by omega) hN0
 have g0 : 1 ≤ q * N + c := by omega
 refine awp_seq fun K0 hK0 => awp_region rfl (o_as Fv rfl (aops_end (hK0 _ (awp_seq fun K1 hK1 => ?_))))
 refine awp_regionSL2 5 12 6 _ 29 [] _ _ _ _ _ _ _ _ [.ref 702 0, Nv a] (.ref 702 0) [(702, .var 86 [.sl 1 (ns .u64 (Mw.digs q)), .sl 1 (ns .u64 (Mw.digs N)), .sl 1 (ns .u64 (Mw.digs (q * N + c))), .sl 1 (ns .u64 (Mw.digs (q ^ a))), .sl 1 (ns .u64 (Mw.digs (N ^ a))), .sl 1 (ns .u64 (Mw.digs ((q * N + c) ^ a)))]), (9209, .pin [.ref 2 0, .ref 3 0, .ref 4 0] us), (2, .var 3 [Nv q]), (3, .var 3 [Nv c]), (4, .var 3 [Nv a])] rfl rfl (by kernel_rfl) rfl rfl f103_ (by kernel_rfl) (by kernel_rfl) ?_
 refine o_loadS (Nv q) gn f55_ rfl rfl rfl ?_
 refine o_loadS (Nv c) gn f55_ rfl rfl rfl ?_
 refine o_mv (.sl 1 (ns .u64 (Mw.digs N))) rfl ?_
 refine o_callO 702 [Nv q, Nv c, .sl 1 (ns .u64 (Mw.digs N))] gn f86_ rfl (c_bBegin q c N hk (by omega)) rfl ?_
 refine o_loadS (Nv a) gn f55_ rfl rfl rfl ?_
 refine aops_end ⟨by kernel_rfl, _, Wk.sub (σ' := ⟨[(0, .sl 1 (ns .u64 (Mw.digs N))), (1, .ref 2 0), (2, .ref 3 0), (3, .ref 4 0), (5, Fv), (7, Nv q), (8, Nv c), (9, .sl 1 (ns .u64 (Mw.digs N))), (10, .ref 702 0), (11, Nv a)], [(702, .var 86 [.sl 1 (ns .u64 (Mw.digs q)), .sl 1 (ns .u64 (Mw.digs N)), .sl 1 (ns .u64 (Mw.digs (q * N + c))), .sl 1 (ns .u64 (Mw.digs 1)), .sl 1 (ns .u64 (Mw.digs 1)), .sl 1 (ns .u64 (Mw.digs 1))]), (9209, .pin [.ref 2 0, .ref 3 0, .ref 4 0] us), (2, .var 3 [Nv q]), (3, .var 3 [Nv c]), (4, .var 3 [Nv a])]⟩) ⟨rfl, rfl, rfl, rfl, rfl, rfl, rfl, rfl, rfl, rfl, trivial⟩ ⟨rfl, rfl, rfl, rfl, rfl, trivial⟩, rfl, rfl, ?sc0, ?_⟩
 case sc0 =>
  refine scalls_of_awpB 9009 Try.func29 (c := _) rfl (Nat.le_of_ble_eq_true rfl) rfl rfl rfl (fun us0 => ?_)
  show awp cx 33 _ (postS cx Try.f29 (.ref 702 0) [(702, .var 86 [.sl 1 (ns .u64 (Mw.digs q)), .sl 1 (ns .u64 (Mw.digs N)), .sl 1 (ns .u64 (Mw.digs (q * N + c))), .sl 1 (ns .u64 (Mw.digs (q ^ a))), .sl 1 (ns .u64 (Mw.digs (N ^ a))), .sl 1 (ns .u64 (Mw.digs ((q * N + c) ^ a)))]), (9209, .pin [.ref 2 0, .ref 3 0, .ref 4 0] us), (2, .var 3 [Nv q]), (3, .var 3 [Nv c]), (4, .var 3 [Nv a])] 9009 [.sl 1 (ns .u64 (Mw.digs N)), .ref 2 0, .ref 3 0, .ref 4 0, Fv, Nv q, Nv c, .sl 1 (ns .u64 (Mw.digs N)), .ref 702 0, Nv a] us0) ⟨[(0, .ref 702 0), (1, Nv a)], [(9009, .pin [.sl 1 (ns .u64 (Mw.digs N)), .ref 2 0, .ref 3 0, .ref 4 0, Fv, Nv q, Nv c, .sl 1 (ns .u64 (Mw.digs N)), .ref 702 0, Nv a] us0), (702, .var 86 [.sl 1 (ns .u64 (Mw.digs q)), .sl 1 (ns .u64 (Mw.digs N)), .sl 1 (ns .u64 (Mw.digs (q * N + c))), .sl 1 (ns .u64 (Mw.digs 1)), .sl 1 (ns .u64 (Mw.digs 1)), .sl 1 (ns .u64 (Mw.digs 1))]), (9209, .pin [.ref 2 0, .ref 3 0, .ref 4 0] us), (2, .var 3 [Nv q]), (3, .var 3 [Nv c]), (4, .var 3 [Nv a])]⟩
  refine awp_seq fun K2 hK2 => awp_region rfl (o_as (.lit (Go.Value.pointer none)) rfl (aops_end (hK2 _ (awp_seq fun K3 hK3 => awp_regionD rfl (o_mv (.ref 702 0) rfl (o_mv (.ref 702 0) rfl (o_mv (.ref 702 0) rfl (o_mv (.ref 702 0) rfl ?_))))))))
  refine o_nilRef gn rfl ?_
  refine o_fieldRef 0 gn f89_ rfl rfl ?_
  refine o_loadS (.sl 1 (ns .u64 (Mw.digs q))) gn f26_ rfl rfl rfl ?_
  refine o_mv (Nv a) rfl ?_
  refine o_ct (c_xPower q a (by omega) (by first | omega | assumption) (by first | omega | assumption)) gn f104_ rfl ?_
  refine o_mv (.ref 702 0) rfl ?_
  refine o_nilRef gn rfl ?_
  refine o_fieldRef 1 gn f98_ rfl rfl ?_
  refine o_loadS (.sl 1 (ns .u64 (Mw.digs N))) gn f26_ rfl rfl rfl ?_
  refine o_mv (Nv a) rfl ?_
  refine o_ct (c_xPower N a (by omega) (by first | omega | assumption) (by first | omega | assumption)) gn f104_ rfl ?_
  refine o_mv (.ref 702 0) rfl ?_
  refine o_nilRef gn rfl ?_
  refine o_fieldRef 2 gn f90_ rfl rfl ?_
  refine o_loadS (.sl 1 (ns .u64 (Mw.digs (q * N + c)))) gn f26_ rfl rfl rfl ?_
  refine o_mv (Nv a) rfl ?_
  refine o_ct (c_xPower (q * N + c) a (by omega) (by first | omega | assumption) (by first | omega | assumption)) gn f104_ rfl ?_
  refine o_nilRef gn rfl ?_
  refine o_fieldRef 3 gn f92_ rfl rfl ?_
  refine o_store [(9009, .pin [.sl 1 (ns .u64 (Mw.digs N)), .ref 2 0, .ref 3 0, .ref 4 0, Fv, Nv q, Nv c, .sl 1 (ns .u64 (Mw.digs N)), .ref 702 0, Nv a] us0), (702, .var 86 [.sl 1 (ns .u64 (Mw.digs q)), .sl 1 (ns .u64 (Mw.digs N)), .sl 1 (ns .u64 (Mw.digs (q * N + c))), .sl 1 (ns .u64 (Mw.digs (q ^ a))), .sl 1 (ns .u64 (Mw.digs 1)), .sl 1 (ns .u64 (Mw.digs 1))]), (9209, .pin [.ref 2 0, .ref 3 0, .ref 4 0] us), (2, .var 3 [Nv q]), (3, .var 3 [Nv c]), (4, .var 3 [Nv a])] gn f91_ rfl rfl rfl rfl rfl rfl ?_
  refine o_nilRef gn rfl ?_
  refine o_fieldRef 4 gn f93_ rfl rfl ?_
  refine o_store [(9009, .pin [.sl 1 (ns .u64 (Mw.digs N)), .ref 2 0, .ref 3 0, .ref 4 0, Fv, Nv q, Nv c, .sl 1 (ns .u64 (Mw.digs N)), .ref 702 0, Nv a] us0), (702, .var 86 [.sl 1 (ns .u64 (Mw.digs q)), .sl 1 (ns .u64 (Mw.digs N)), .sl 1 (ns .u64 (Mw.digs (q * N + c))), .sl 1 (ns .u64 (Mw.digs (q ^ a))), .sl 1 (ns .u64 (Mw.digs (N ^ a))), .sl 1 (ns .u64 (Mw.digs 1))]), (9209, .pin [.ref 2 0, .ref 3 0, .ref 4 0] us), (2, .var 3 [Nv q]), (3, .var 3 [Nv c]), (4, .var 3 [Nv a])] gn f91_ rfl rfl rfl rfl rfl rfl ?_
  refine o_nilRef gn rfl ?_
  refine o_fieldRef 5 gn f94_ rfl rfl ?_
  refine o_store [(9009, .pin [.sl 1 (ns .u64 (Mw.digs N)), .ref 2 0, .ref 3 0, .ref 4 0, Fv, Nv q, Nv c, .sl 1 (ns .u64 (Mw.digs N)), .ref 702 0, Nv a] us0), (702, .var 86 [.sl 1 (ns .u64 (Mw.digs q)), .sl 1 (ns .u64 (Mw.digs N)), .sl 1 (ns .u64 (Mw.digs (q * N + c))), .sl 1 (ns .u64 (Mw.digs (q ^ a))), .sl 1 (ns .u64 (Mw.digs (N ^ a))), .sl 1 (ns .u64 (Mw.digs ((q * N + c) ^ a)))]), (9209, .pin [.ref 2 0, .ref 3 0, .ref 4 0] us), (2, .var 3 [Nv q]), (3, .var 3 [Nv c]), (4, .var 3 [Nv a])] gn f91_ rfl rfl rfl rfl rfl rfl ?_
  refine aops_end ⟨by kernel_rfl, ?_⟩
  refine hK3 _ (awp_seq fun K4 hK4 => awp_region rfl (o_mv (.ref 702 0) rfl (o_as (.ref 702 0) rfl (aops_end (hK4 _ ?_)))))
  refine awp_wk (σ' := ⟨[(4, .ref 702 0)], [(9009, .pin [.sl 1 (ns .u64 (Mw.digs N)), .ref 2 0, .ref 3 0, .ref 4 0, Fv, Nv q, Nv c, .sl 1 (ns .u64 (Mw.digs N)), .ref 702 0, Nv a] us0), (702, .var 86 [.sl 1 (ns .u64 (Mw.digs q)), .sl 1 (ns .u64 (Mw.digs N)), .sl 1 (ns .u64 (Mw.digs (q * N + c))), .sl 1 (ns .u64 (Mw.digs (q ^ a))), .sl 1 (ns .u64 (Mw.digs (N ^ a))), .sl 1 (ns .u64 (Mw.digs ((q * N + c) ^ a)))]), (9209, .pin [.ref 2 0, .ref 3 0, .ref 4 0] us), (2, .var 3 [Nv q]), (3, .var 3 [Nv c]), (4, .var 3 [Nv a])]⟩) (Wk.sub ⟨rfl, trivial⟩ ⟨rfl, rfl, rfl, rfl, rfl, rfl, trivial⟩) ?_
  refine awp_ret ?_
  try dsimp only [thenK, inBlk]
  refine postS_ret (extra := []) ?_ rfl
  refine ⟨[.ref 702 0], ⟨AV.le_refl _, trivial⟩, ?_⟩
  rfl
 refine hK1 _ (awp_seq fun K5 hK5 => ?_)
 refine awp_wk (σ' := ⟨[(6, .ref 702 0), (12, .ref 702 0), (0, .sl 1 (ns .u64 (Mw.digs N))), (1, .ref 2 0), (2, .ref 3 0), (3, .ref 4 0), (7, Nv q), (8, Nv c), (9, .sl 1 (ns .u64 (Mw.digs N))), (10, .ref 702 0), (11, Nv a)], [(702, .var 86 [.sl 1 (ns .u64 (Mw.digs q)), .sl 1 (ns .u64 (Mw.digs N)), .sl 1 (ns .u64 (Mw.digs (q * N + c))), .sl 1 (ns .u64 (Mw.digs (q ^ a))), .sl 1 (ns .u64 (Mw.digs (N ^ a))), .sl 1 (ns .u64 (Mw.digs ((q * N + c) ^ a)))]), (9209, .pin [.ref 2 0, .ref 3 0, .ref 4 0] us), (2, .var 3 [Nv q]), (3, .var 3 [Nv c]), (4, .var 3 [Nv a])]⟩) (Wk.sub ⟨rfl, rfl, rfl, rfl, rfl, rfl, rfl, rfl, rfl, rfl, rfl, trivial⟩ ⟨rfl, rfl, rfl, rfl, rfl, trivial⟩) ?_
 refine awp_regionN rfl ?_
 refine Lex.call 2 15 _ 32 [] _ _ _ _ _ [.ref 702 0] (Nv (Mw.bits (q ^ a))) [(702, .var 86 [.sl 1 (ns .u64 (Mw.digs q)), .sl 1 (ns .u64 (Mw.digs N)), .sl 1 (ns .u64 (Mw.digs (q * N + c))), .sl 1 (ns .u64 (Mw.digs (q ^ a))), .sl 1 (ns .u64 (Mw.digs (N ^ a))), .sl 1 (ns .u64 (Mw.digs ((q * N + c) ^ a)))]), (9209, .pin [.ref 2 0, .ref 3 0, .ref 4 0] us), (2, .var 3 [Nv q]), (3, .var 3 [Nv c]), (4, .var 3 [Nv a])] rfl f99_ ?_
 refine o_mv (.ref 702 0) rfl (o_mv (.ref 702 0) rfl ?_)
 refine aops_end ⟨rfl, rfl, ?sc1, ?_⟩
 case sc1 =>
  refine scalls_of_awpB 9010 Try.func32 (c := _) rfl (Nat.le_of_ble_eq_true rfl) rfl rfl rfl (fun us1 => ?_)
  show awp cx 8 _ (postS cx Try.f32 (Nv (Mw.bits (q ^ a))) [(702, .var 86 [.sl 1 (ns .u64 (Mw.digs q)), .sl 1 (ns .u64 (Mw.digs N)), .sl 1 (ns .u64 (Mw.digs (q * N + c))), .sl 1 (ns .u64 (Mw.digs (q ^ a))), .sl 1 (ns .u64 (Mw.digs (N ^ a))), .sl 1 (ns .u64 (Mw.digs ((q * N + c) ^ a)))]), (9209, .pin [.ref 2 0, .ref 3 0, .ref 4 0] us), (2, .var 3 [Nv q]), (3, .var 3 [Nv c]), (4, .var 3 [Nv a])] 9010 [.ref 702 0, .ref 702 0, .ref 702 0, .ref 702 0, .sl 1 (ns .u64 (Mw.digs N)), .ref 2 0, .ref 3 0, .ref 4 0, Nv q, Nv c, .sl 1 (ns .u64 (Mw.digs N)), .ref 702 0, Nv a] us1) ⟨[(0, .ref 702 0)], [(9010, .pin [.ref 702 0, .ref 702 0, .ref 702 0, .ref 702 0, .sl 1 (ns .u64 (Mw.digs N)), .ref 2 0, .ref 3 0, .ref 4 0, Nv q, Nv c, .sl 1 (ns .u64 (Mw.digs N)), .ref 702 0, Nv a] us1), (702, .var 86 [.sl 1 (ns .u64 (Mw.digs q)), .sl 1 (ns .u64 (Mw.digs N)), .sl 1 (ns .u64 (Mw.digs (q * N + c))), .sl 1 (ns .u64 (Mw.digs (q ^ a))), .sl 1 (ns .u64 (Mw.digs (N ^ a))), .sl 1 (ns .u64 (Mw.digs ((q * N + c) ^ a)))]), (9209, .pin [.ref 2 0, .ref 3 0, .ref 4 0] us), (2, .var 3 [Nv q]), (3, .var 3 [Nv c]), (4, .var 3 [Nv a])]⟩
  refine awp_seq fun K6 hK6 => awp_region rfl (o_as (Nv 0) rfl (aops_end (hK6 _ (awp_seq fun K7 hK7 => awp_region rfl (o_mv (.ref 702 0) rfl ?_)))))
  refine o_nilRef gn rfl ?_
  refine o_fieldRef 3 gn f92_ rfl rfl ?_
  refine o_loadS (.sl 1 (ns .u64 (Mw.digs (q ^ a)))) gn f26_ rfl rfl rfl ?_
  refine o_ct (c_xBits (q ^ a) (by first | omega | assumption)) gn f100_ rfl ?_
  refine o_as (Nv (Mw.bits (q ^ a))) rfl (aops_end (hK7 _ ?_))
  refine awp_wk (σ' := ⟨[(2, Nv (Mw.bits (q ^ a)))], [(9010, .pin [.ref 702 0, .ref 702 0, .ref 702 0, .ref 702 0, .sl 1 (ns .u64 (Mw.digs N)), .ref 2 0, .ref 3 0, .ref 4 0, Nv q, Nv c, .sl 1 (ns .u64 (Mw.digs N)), .ref 702 0, Nv a] us1), (702, .var 86 [.sl 1 (ns .u64 (Mw.digs q)), .sl 1 (ns .u64 (Mw.digs N)), .sl 1 (ns .u64 (Mw.digs (q * N + c))), .sl 1 (ns .u64 (Mw.digs (q ^ a))), .sl 1 (ns .u64 (Mw.digs (N ^ a))), .sl 1 (ns .u64 (Mw.digs ((q * N + c) ^ a)))]), (9209, .pin [.ref 2 0, .ref 3 0, .ref 4 0] us), (2, .var 3 [Nv q]), (3, .var 3 [Nv c]), (4, .var 3 [Nv a])]⟩) (Wk.sub ⟨rfl, trivial⟩ ⟨rfl, rfl, rfl, rfl, rfl, rfl, trivial⟩) ?_
  refine awp_ret ?_
  try dsimp only [thenK, inBlk]
  refine postS_ret (extra := []) ?_ rfl
  refine ⟨[Nv (Mw.bits (q ^ a))], ⟨AV.le_refl _, trivial⟩, ?_⟩
  rfl
 refine Lex.call 0 16 _ 30 [] _ _ _ _ _ [.ref 702 0, Nv (Mw.bits (q ^ a))] (bp (FitL q c N a)) [(702, .var 86 [.sl 1 (ns .u64 (Mw.digs q)), .sl 1 (ns .u64 (Mw.digs N)), .sl 1 (ns .u64 (Mw.digs (q * N + c))), .sl 1 (ns .u64 (Mw.digs (q ^ a))), .sl 1 (ns .u64 (Mw.digs (N ^ a))), .sl 1 (ns .u64 (Mw.digs ((q * N + c) ^ a)))]), (9209, .pin [.ref 2 0, .ref 3 0, .ref 4 0] us), (2, .var 3 [Nv q]), (3, .var 3 [Nv c]), (4, .var 3 [Nv a])] rfl f101_ ?_
 refine aops_end ⟨rfl, rfl, ?sc2, ?_⟩
 case sc2 =>
  refine scalls_of_awpB 9011 Try.func30 (c := _) rfl (Nat.le_of_ble_eq_true rfl) rfl rfl rfl (fun us2 => ?_)
  show awp cx 26 _ (postS cx Try.f30 (bp (FitL q c N a)) [(702, .var 86 [.sl 1 (ns .u64 (Mw.digs q)), .sl 1 (ns .u64 (Mw.digs N)), .sl 1 (ns .u64 (Mw.digs (q * N + c))), .sl 1 (ns .u64 (Mw.digs (q ^ a))), .sl 1 (ns .u64 (Mw.digs (N ^ a))), .sl 1 (ns .u64 (Mw.digs ((q * N + c) ^ a)))]), (9209, .pin [.ref 2 0, .ref 3 0, .ref 4 0] us), (2, .var 3 [Nv q]), (3, .var 3 [Nv c]), (4, .var 3 [Nv a])] 9011 [Nv (Mw.bits (q ^ a)), .ref 702 0, .ref 702 0, .ref 702 0, .ref 702 0, .sl 1 (ns .u64 (Mw.digs N)), .ref 2 0, .ref 3 0, .ref 4 0, Nv q, Nv c, .sl 1 (ns .u64 (Mw.digs N)), .ref 702 0, Nv a] us2) ⟨[(0, .ref 702 0), (1, Nv (Mw.bits (q ^ a)))], [(9011, .pin [Nv (Mw.bits (q ^ a)), .ref 702 0, .ref 702 0, .ref 702 0, .ref 702 0, .sl 1 (ns .u64 (Mw.digs N)), .ref 2 0, .ref 3 0, .ref 4 0, Nv q, Nv c, .sl 1 (ns .u64 (Mw.digs N)), .ref 702 0, Nv a] us2), (702, .var 86 [.sl 1 (ns .u64 (Mw.digs q)), .sl 1 (ns .u64 (Mw.digs N)), .sl 1 (ns .u64 (Mw.digs (q * N + c))), .sl 1 (ns .u64 (Mw.digs (q ^ a))), .sl 1 (ns .u64 (Mw.digs (N ^ a))), .sl 1 (ns .u64 (Mw.digs ((q * N + c) ^ a)))]), (9209, .pin [.ref 2 0, .ref 3 0, .ref 4 0] us), (2, .var 3 [Nv q]), (3, .var 3 [Nv c]), (4, .var 3 [Nv a])]⟩
  refine awp_seq fun K8 hK8 => awp_region rfl (o_as Fv rfl (aops_end (hK8 _ (awp_seq fun K9 hK9 => awp_regionD rfl (o_mv (.ref 702 0) rfl ?_)))))
  refine o_nilRef gn rfl ?_
  refine o_fieldRef 3 gn f92_ rfl rfl ?_
  refine o_loadS (.sl 1 (ns .u64 (Mw.digs (q ^ a)))) gn f26_ rfl rfl rfl ?_
  refine o_ct (c_xBits (q ^ a) (by first | omega | assumption)) gn f100_ rfl ?_
  refine o_mv (Nv (Mw.bits (q ^ a))) rfl ?_
  refine n_leq (Mw.bits (q ^ a)) (Mw.bits (q ^ a)) gn rfl rfl ?_
  refine o_mv (bp ((Mw.bits (q ^ a)) ≤ (Mw.bits (q ^ a)))) rfl ?_
  refine o_splitP (q := (Mw.bits (q ^ a)) ≤ (Mw.bits (q ^ a))) 12 rfl (fun h1 => ?_) (fun h1 => ?_)
  ·refine o_move (.ref 702 0) (Gd.yes rfl rfl (decide_eq_true h1)) rfl ?_
   refine o_nilRef (Gd.yes rfl rfl (decide_eq_true h1)) rfl ?_
   refine o_fieldRef 4 (Gd.yes rfl rfl (decide_eq_true h1)) f93_ rfl rfl ?_
   refine o_loadS (.sl 1 (ns .u64 (Mw.digs (N ^ a)))) (Gd.yes rfl rfl (decide_eq_true h1)) f26_ rfl rfl rfl ?_
   refine o_move (Nv (Mw.bits (q ^ a))) (Gd.yes rfl rfl (decide_eq_true h1)) rfl ?_
   refine o_ct (c_xUp (N ^ a) (Mw.bits (q ^ a)) (by first | omega | assumption) (by first | omega | assumption)) (Gd.yes rfl rfl (decide_eq_true h1)) f102_ rfl ?_
   refine o_move (.ref 702 0) (Gd.yes rfl rfl (decide_eq_true h1)) rfl ?_
   refine o_nilRef (Gd.yes rfl rfl (decide_eq_true h1)) rfl ?_
   refine o_fieldRef 5 (Gd.yes rfl rfl (decide_eq_true h1)) f94_ rfl rfl ?_
   refine o_loadS (.sl 1 (ns .u64 (Mw.digs ((q * N + c) ^ a)))) (Gd.yes rfl rfl (decide_eq_true h1)) f26_ rfl rfl rfl ?_
   refine o_ct (c_xCmp (N ^ a * 2 ^ (Mw.bits (q ^ a))) ((q * N + c) ^ a) (by first | omega | assumption) (by first | omega | assumption)) (Gd.yes rfl rfl (decide_eq_true h1)) f32_ rfl ?_
   refine o_leq (a := (cmpN (N ^ a * 2 ^ (Mw.bits (q ^ a))) ((q * N + c) ^ a))) (c := ((0 : Nat) : Int)) (Gd.yes rfl rfl (decide_eq_true h1)) rfl rfl ?_
   refine o_pickT (bp ((cmpN (N ^ a * 2 ^ (Mw.bits (q ^ a))) ((q * N + c) ^ a)) ≤ ((0 : Nat) : Int))) gn rfl (decide_eq_true h1) rfl ?_
   refine o_as (bp ((cmpN (N ^ a * 2 ^ (Mw.bits (q ^ a))) ((q * N + c) ^ a)) ≤ ((0 : Nat) : Int))) rfl ?_
   refine aops_end ⟨by kernel_rfl, ?_⟩
   refine hK9 _ ?_
   refine awp_wk (σ' := ⟨[(4, (bp ((cmpN (N ^ a * 2 ^ (Mw.bits (q ^ a))) ((q * N + c) ^ a)) ≤ ((0 : Nat) : Int))))], [(9011, .pin [Nv (Mw.bits (q ^ a)), .ref 702 0, .ref 702 0, .ref 702 0, .ref 702 0, .sl 1 (ns .u64 (Mw.digs N)), .ref 2 0, .ref 3 0, .ref 4 0, Nv q, Nv c, .sl 1 (ns .u64 (Mw.digs N)), .ref 702 0, Nv a] us2), (702, .var 86 [.sl 1 (ns .u64 (Mw.digs q)), .sl 1 (ns .u64 (Mw.digs N)), .sl 1 (ns .u64 (Mw.digs (q * N + c))), .sl 1 (ns .u64 (Mw.digs (q ^ a))), .sl 1 (ns .u64 (Mw.digs (N ^ a))), .sl 1 (ns .u64 (Mw.digs ((q * N + c) ^ a)))]), (9209, .pin [.ref 2 0, .ref 3 0, .ref 4 0] us), (2, .var 3 [Nv q]), (3, .var 3 [Nv c]), (4, .var 3 [Nv a])]⟩) (Wk.sub ⟨rfl, trivial⟩ ⟨rfl, rfl, rfl, rfl, rfl, rfl, trivial⟩) ?_
   refine awp_ret ?_
   try dsimp only [thenK, inBlk]
   refine postS_ret (extra := []) ?_ rfl
   refine ⟨[(bp ((cmpN (N ^ a * 2 ^ (Mw.bits (q ^ a))) ((q * N + c) ^ a)) ≤ ((0 : Nat) : Int)))], ⟨AV.le_refl _, trivial⟩, ?_⟩
   have key : ∀ x y : Nat, (cmpN x y ≤ ((0 : Nat) : Int)) ↔ x ≤ y := fun x y => by unfold cmpN; constructor <;> intro h <;> (repeat' split at h) <;> (repeat' split) <;> omega
   exact bp_congr ⟨fun h => (key _ _).2 h, fun h => (key _ _).1 h⟩
  ·refine o_skip rfl rfl (decide_eq_false h1) (o_skip rfl rfl (decide_eq_false h1) (o_skip rfl rfl (decide_eq_false h1) (o_skip rfl rfl (decide_eq_false h1) (o_skip rfl rfl (decide_eq_false h1) (o_skip rfl rfl (decide_eq_false h1) (o_skip rfl rfl (decide_eq_false h1) (o_skip rfl rfl (decide_eq_false h1) (o_skip rfl rfl (decide_eq_false h1) (o_skip rfl rfl (decide_eq_false h1) (o_skip rfl rfl (decide_eq_false h1) (o_skip rfl rfl (decide_eq_false h1) ?_)))))))))))
   refine o_pickF Fv gn rfl (decide_eq_false h1) rfl ?_
   refine o_as Fv rfl ?_
   refine aops_end ⟨by kernel_rfl, ?_⟩
   refine hK9 _ ?_
   refine awp_wk (σ' := ⟨[(4, Fv)], [(9011, .pin [Nv (Mw.bits (q ^ a)), .ref 702 0, .ref 702 0, .ref 702 0, .ref 702 0, .sl 1 (ns .u64 (Mw.digs N)), .ref 2 0, .ref 3 0, .ref 4 0, Nv q, Nv c, .sl 1 (ns .u64 (Mw.digs N)), .ref 702 0, Nv a] us2), (702, .var 86 [.sl 1 (ns .u64 (Mw.digs q)), .sl 1 (ns .u64 (Mw.digs N)), .sl 1 (ns .u64 (Mw.digs (q * N + c))), .sl 1 (ns .u64 (Mw.digs (q ^ a))), .sl 1 (ns .u64 (Mw.digs (N ^ a))), .sl 1 (ns .u64 (Mw.digs ((q * N + c) ^ a)))]), (9209, .pin [.ref 2 0, .ref 3 0, .ref 4 0] us), (2, .var 3 [Nv q]), (3, .var 3 [Nv c]), (4, .var 3 [Nv a])]⟩) (Wk.sub ⟨rfl, trivial⟩ ⟨rfl, rfl, rfl, rfl, rfl, rfl, trivial⟩) ?_
   refine awp_ret ?_
   try dsimp only [thenK, inBlk]
   refine postS_ret (extra := []) ?_ rfl
   refine ⟨[Fv], ⟨AV.le_refl _, trivial⟩, ?_⟩
   exact absurd (Nat.le_refl _) (by assumption)
 refine Lex.fin ?_
 refine o_as (bp (FitL q c N a)) rfl (aops_end (hK5 _ ?_))
 refine awp_ret ?_
 exact ⟨⟨[(5, bp (FitL q c N a))], [(9209, .pin [.ref 2 0, .ref 3 0, .ref 4 0] us), (2, .var 3 [Nv q]), (3, .var 3 [Nv c]), (4, .var 3 [Nv a])]⟩, Wk.sub ⟨rfl, trivial⟩ ⟨rfl, rfl, rfl, rfl, trivial⟩, ⟨[bp (FitL q c N a)], ⟨AV.le_refl _, trivial⟩, by rfl, fun id ob h => keep_pin h rfl, rfl⟩⟩

end Go.Proofs.Ytaeknciienkijaa

namespace Go.Proofs.Ytaeknciienkijaa
open Go Go.Ab Go.Mth
theorem f105_ : callable cx.P 34 = true := by kernel_rfl
theorem c_bHalves (q c a l0 h0 : Nat) (hk : KinB (q : Int) (c : Int)) (ha : 1 ≤ a) (ha2 : a ≤ 60) (h1_ : 1 ≤ l0) (h2_ : l0 < h0) (h3_ : FitL q c l0 a) (h4_ : ¬ FitL q c h0 a) (h5_ : (Mw.digs h0).length ≤ 1999) :
  RCalls cx 38 [.sl 1 (ns .u64 (Mw.digs l0)), .sl 1 (ns .u64 (Mw.digs h0)), .clo 34 [.ref 2 0, .ref 3 0, .ref 4 0]] [2, 3, 4] [(2, .var 3 [Nv q]), (3, .var 3 [Nv c]), (4, .var 3 [Nv a])] (.sl 1 (ns .u64 (Mw.digs (blN q c a)))) [(2, .var 3 [Nv q]), (3, .var 3 [Nv c]), (4, .var 3 [Nv a])] := by
 refine rcalls_of_s (scalls_of_awpB 9209 Try.func38 (c := _) rfl (Nat.le_of_ble_eq_true rfl) rfl rfl rfl (fun us => ?_)) rfl
 refine awp_late ?_
 show awp cx 28 _ (lateQ cx 28 (postS cx Try.f38 (.sl 1 (ns .u64 (Mw.digs (blN q c a)))) [(2, .var 3 [Nv q]), (3, .var 3 [Nv c]), (4, .var 3 [Nv a])] 9209 [.ref 2 0, .ref 3 0, .ref 4 0] us)) ⟨[(0, .sl 1 (ns .u64 (Mw.digs l0))), (1, .sl 1 (ns .u64 (Mw.digs h0))), (2, .clo 34 [.ref 2 0, .ref 3 0, .ref 4 0])], [(9209, .pin [.ref 2 0, .ref 3 0, .ref 4 0] us), (2, .var 3 [Nv q]), (3, .var 3 [Nv c]), (4, .var 3 [Nv a])]⟩
 refine awp_seq fun K0 hK0 => awp_region rfl (o_as Zv rfl (aops_end (hK0 _ ?_)))
 refine awp_block ?_
 refine awp_loopR (fun κ σ => ∃ (l : Nat), ∃ (h : Nat), (1 ≤ l) ∧ (l < h) ∧ (FitL q c l a) ∧ (¬ FitL q c h a) ∧ ((Mw.digs h).length ≤ 1999) ∧ (h - l) = κ ∧ σ = ⟨[(0, .sl 1 (ns .u64 (Mw.digs l))), (1, .sl 1 (ns .u64 (Mw.digs h))), (2, .clo 34 [.ref 2 0, .ref 3 0, .ref 4 0])], [(9209, .pin [.ref 2 0, .ref 3 0, .ref 4 0] us), (2, .var 3 [Nv q]), (3, .var 3 [Nv c]), (4, .var 3 [Nv a])]⟩) ⟨_, _, ⟨l0, h0, h1_, h2_, h3_, h4_, h5_, rfl, rfl⟩, ?wk0⟩ ?rd0
 case wk0 =>
  exact Wk.sub ⟨(by first | rfl | simp), (by first | rfl | simp), rfl, trivial⟩ ⟨rfl, rfl, rfl, rfl, trivial⟩
 rintro κ _ ⟨l, h, hl1, hlh, hfl, hfh, hh, rfl, rfl⟩
 obtain ⟨y1, y2, y3⟩ := halve_len hlh hh
 refine awp_block ?_
 refine awp_seq fun K1 hK1 => awp_region rfl (o_mv (.sl 1 (ns .u64 (Mw.digs l))) rfl (o_mv (.sl 1 (ns .u64 (Mw.digs h))) rfl ?_))
 refine o_ct (c_xPlus l h (by first | omega | assumption) (by first | omega | assumption)) gn f30_ rfl ?_
 refine o_ct (c_xOver (l + h) 2 (by first | (left; rfl) | (right; rfl)) (by first | omega | assumption)) gn f41_ rfl ?_
 refine o_mv (.tup [.sl 1 (ns .u64 (Mw.digs ((l + h) / 2))), nm .u64 ((l + h) % 2)]) rfl (o_extract (.sl 1 (ns .u64 (Mw.digs ((l + h) / 2)))) gn rfl rfl (o_extract (nm .u64 ((l + h) % 2)) gn rfl rfl (o_as (.sl 1 (ns .u64 (Mw.digs ((l + h) / 2)))) rfl (o_as (nm .u64 ((l + h) % 2)) rfl (aops_end (hK1 _ ?_))))))
 refine awp_block ?_
 refine awp_seq fun K2 hK2 => awp_region rfl (o_mv (.sl 1 (ns .u64 (Mw.digs ((l + h) / 2)))) rfl (o_mv (.sl 1 (ns .u64 (Mw.digs l))) rfl ?_))
 refine o_ct (c_xCmp ((l + h) / 2) l (by first | omega | assumption) (by first | omega | assumption)) gn f32_ rfl ?_
 refine o_eql (a := (cmpN ((l + h) / 2) l)) (c := ((0 : Nat) : Int)) gn rfl rfl ?_
 refine o_as (bp ((cmpN ((l + h) / 2) l) = ((0 : Nat) : Int))) rfl (aops_end (hK2 _ ?_))
 refine awp_condQ (q := (cmpN ((l + h) / 2) l) = ((0 : Nat) : Int)) rfl (fun h1 => ?_) (fun h1 => ?_)
 ·refine awp_seq fun K3 hK3 => awp_region rfl (o_mv (.sl 1 (ns .u64 (Mw.digs l))) rfl (o_as (.sl 1 (ns .u64 (Mw.digs l))) rfl (aops_end (hK3 _ ?_))))
  refine awp_ret ?_
  exact ⟨⟨[(6, .sl 1 (ns .u64 (Mw.digs l)))], [(9209, .pin [.ref 2 0, .ref 3 0, .ref 4 0] us), (2, .var 3 [Nv q]), (3, .var 3 [Nv c]), (4, .var 3 [Nv a])]⟩, Wk.sub ⟨rfl, trivial⟩ ⟨rfl, rfl, rfl, rfl, trivial⟩, ⟨[.sl 1 (ns .u64 (Mw.digs l))], ⟨AV.le_refl _, trivial⟩, by exact congrArg (fun x => AV.sl 1 (ns .u64 (Mw.digs x))) (bl_eq ha (.inr hfl) (by rw [← halve_end hlh (by assumption)]; exact hfh)), fun id ob h => keep_pin h rfl, rfl⟩⟩
 ·have hgo := halve_go hlh h1
  refine awp_seq fun K4 hK4 => ?_
  refine awp_wk (σ' := ⟨[(0, .sl 1 (ns .u64 (Mw.digs l))), (1, .sl 1 (ns .u64 (Mw.digs h))), (2, .clo 34 [.ref 2 0, .ref 3 0, .ref 4 0]), (10, .sl 1 (ns .u64 (Mw.digs l))), (11, .sl 1 (ns .u64 (Mw.digs h))), (12, .sl 1 (ns .u64 (Mw.digs (l + h)))), (13, .tup [.sl 1 (ns .u64 (Mw.digs ((l + h) / 2))), nm .u64 ((l + h) % 2)]), (9, .tup [.sl 1 (ns .u64 (Mw.digs ((l + h) / 2))), nm .u64 ((l + h) % 2)]), (14, .sl 1 (ns .u64 (Mw.digs ((l + h) / 2)))), (15, nm .u64 ((l + h) % 2)), (7, .sl 1 (ns .u64 (Mw.digs ((l + h) / 2)))), (8, nm .u64 ((l + h) % 2)), (18, .sl 1 (ns .u64 (Mw.digs ((l + h) / 2)))), (19, .sl 1 (ns .u64 (Mw.digs l))), (20, Iv (cmpN ((l + h) / 2) l)), (21, (bp ((cmpN ((l + h) / 2) l) = ((0 : Nat) : Int)))), (17, (bp ((cmpN ((l + h) / 2) l) = ((0 : Nat) : Int))))], [(2, .var 3 [Nv q]), (3, .var 3 [Nv c]), (4, .var 3 [Nv a]), (9209, .pin [.ref 2 0, .ref 3 0, .ref 4 0] us)]⟩) (Wk.sub ⟨rfl, rfl, rfl, rfl, rfl, rfl, rfl, rfl, rfl, rfl, rfl, rfl, rfl, rfl, rfl, rfl, rfl, trivial⟩ ⟨rfl, rfl, rfl, rfl, trivial⟩) ?_
  refine awp_regionSK 2 26 _ 34 [.ref 2 0, .ref 3 0, .ref 4 0] _ _ _ _ _ [.sl 1 (ns .u64 (Mw.digs ((l + h) / 2))), .ref 2 0, .ref 3 0, .ref 4 0] (bp (FitL q c ((l + h) / 2) a)) [(2, .var 3 [Nv q]), (3, .var 3 [Nv c]), (4, .var 3 [Nv a]), (9209, .pin [.ref 2 0, .ref 3 0, .ref 4 0] us)] rfl rfl f105_ ?_
  refine o_mv (.clo 34 [.ref 2 0, .ref 3 0, .ref 4 0]) rfl (o_mv (.sl 1 (ns .u64 (Mw.digs ((l + h) / 2)))) rfl ?_)
  refine aops_end ⟨rfl, rfl, ?sc1, ?_⟩
  case sc1 => exact scalls_of_r (K := [2, 3, 4]) (m := [(2, .var 3 [Nv q]), (3, .var 3 [Nv c]), (4, .var 3 [Nv a])]) (m' := [(2, .var 3 [Nv q]), (3, .var 3 [Nv c]), (4, .var 3 [Nv a])]) (e := [(9209, .pin [.ref 2 0, .ref 3 0, .ref 4 0] us)]) (c_bHas q c a ((l + h) / 2) hk ha ha2 (by omega) (by omega)) rfl rfl
  refine o_as (bp (FitL q c ((l + h) / 2) a)) rfl (aops_end (hK4 _ ?_))
  refine awp_condQ (q := FitL q c ((l + h) / 2) a) rfl (fun h2 => ?_) (fun h2 => ?_)
  ·refine awp_region rfl (o_mv (.sl 1 (ns .u64 (Mw.digs ((l + h) / 2)))) rfl (o_as (.sl 1 (ns .u64 (Mw.digs ((l + h) / 2)))) rfl (aops_end ?_)))
   refine ⟨_, _, ?lt, ⟨(l + h) / 2, h, (by omega), (by omega), (by assumption), (by assumption), (by omega), rfl, rfl⟩, ?wk⟩
   case lt => omega
   case wk => exact Wk.sub ⟨(by first | rfl | simp), rfl, rfl, trivial⟩ ⟨rfl, rfl, rfl, rfl, trivial⟩
  ·refine awp_region rfl (o_mv (.sl 1 (ns .u64 (Mw.digs ((l + h) / 2)))) rfl (o_as (.sl 1 (ns .u64 (Mw.digs ((l + h) / 2)))) rfl (aops_end ?_)))
   refine ⟨_, _, ?lt, ⟨l, (l + h) / 2, (by omega), (by omega), (by assumption), (by assumption), (by omega), rfl, rfl⟩, ?wk⟩
   case lt => omega
   case wk => exact Wk.sub ⟨rfl, (by first | rfl | simp), rfl, trivial⟩ ⟨rfl, rfl, rfl, rfl, trivial⟩

end Go.Proofs.Ytaeknciienkijaa


namespace Go.Ab
open Go.Mth
def intC (z : Int) : AV := .agg [bp (z < 0), .slc 1 (ns .u32 (digs z.natAbs)) (digs z.natAbs).length]
end Go.Ab
namespace Go.Mth
end Go.Mth

namespace Go.Mth
open Go.Ab
abbrev qN (x y : Int) : Nat := val (dgn (digs x.natAbs).length (x.natAbs / y.natAbs))
abbrev rN (x y : Int) : Nat := val (digs (x.natAbs % y.natAbs))
theorem sgn_le {z : Int} : sgn z ≤ 0 ↔ z ≤ 0 := by unfold sgn; repeat' split <;> omega
end Go.Mth

namespace Go.Mth
open Go.Ab
noncomputable def divQ (a b : ByteArray) : ByteArray := if okS a = true ∧ okS b = true ∧ 0 < numS b then txt (numS a / numS b) else { data := #[] }
noncomputable def divR (a b : ByteArray) : ByteArray := if okS a = true ∧ okS b = true ∧ 0 < numS b then txt (numS a % numS b) else { data := #[] }
noncomputable def divE (a b : ByteArray) : Nat := if okS a = true ∧ okS b = true then (if 0 < numS b then 0 else 2) else 1
def powIn (n : Int) : Prop := 0 ≤ n ∧ n ≤ 10000
instance (n : Int) : Decidable (powIn n) := inferInstanceAs (Decidable (0 ≤ n ∧ n ≤ 10000))
noncomputable def powS (a : ByteArray) (n : Int) : ByteArray := if okS a = true ∧ powIn n then toldS (numS a ^ n.toNat) else { data := #[] }
noncomputable def powE (a : ByteArray) (n : Int) : Nat := if okS a = true then (if powIn n then toldE (numS a ^ n.toNat) else 2) else 1
def rstIn (d : Int) : Prop := 1 ≤ d ∧ d ≤ 2147483647
instance (d : Int) : Decidable (rstIn d) := inferInstanceAs (Decidable (1 ≤ d ∧ d ≤ 2147483647))
noncomputable def rstV (a : ByteArray) (d : Int) : Int := if okS a = true ∧ rstIn d then numS a % d else 0
noncomputable def rstE (a : ByteArray) (d : Int) : Nat := if okS a = true then (if rstIn d then 0 else 2) else 1
theorem pow_yes {a : ByteArray} {n : Int} (h : okS a = true) (hn : powIn n) : powS a n = toldS (numS a ^ n.toNat) ∧ powE a n = toldE (numS a ^ n.toNat) := ⟨if_pos ⟨h, hn⟩, by unfold powE; rw [if_pos h, if_pos hn]⟩
theorem told_fit {z : Int} (h : Fit z) : toldS z = txt z ∧ toldE z = 0 := ⟨if_pos h, if_pos h⟩
theorem txt_one : txt 1 = ⟨#[49]⟩ := by
 simp [txt, txtL, decs, strN]
 rfl
theorem pow_zero {a : ByteArray} (h : okS a = true) : powS a 0 = { data := #[49] } ∧ powE a 0 = 0 := by
 have := pow_yes h (n := 0) ⟨by decide, by decide⟩
 rw [this.1, this.2]
 show toldS (numS a ^ 0) = _ ∧ toldE (numS a ^ 0) = _
 rw [Int.pow_zero]
 have hf : Fit 1 := fit_of_pow (k := 1) (by decide) (by decide) (by decide)
 exact ⟨(told_fit hf).1.trans txt_one, (told_fit hf).2⟩
end Go.Mth

namespace Go.Mth
open Go.Ab
theorem txt_nil : txt 0 = ⟨#[48]⟩ := by
 simp [txt, txtL]
 rfl
noncomputable def sumS (a b : ByteArray) : ByteArray := if okS a && okS b then toldS (numS a + numS b) else { data := #[] }
noncomputable def proS (a b : ByteArray) : ByteArray := if okS a && okS b then toldS (numS a * numS b) else { data := #[] }
def alikeS (a b : ByteArray) : Prop := a = { data := #[] } ∨ b = { data := #[] } ∨ a = b
noncomputable instance (a b : ByteArray) : Decidable (alikeS a b) := Classical.propDecidable _
def divsS (d n : ByteArray) : Prop := divE n d = 0 ∧ divR n d = ⟨#[48]⟩
noncomputable instance (d n : ByteArray) : Decidable (divsS d n) := Classical.propDecidable _
end Go.Mth

namespace Go.Proofs.Ytaeknciienkijaa
open Go Go.Ab Go.Mth
theorem f106_ : callable cx.P 38 = true := by kernel_rfl
theorem c_bBelow (q c a : Nat) (hk : KinB (q : Int) (c : Int)) (ha : 1 ≤ a) (ha2 : a ≤ 60) : ECalls cx 16 [Nv q, Nv c, Nv a] (.tup [.lit (.string (txt ((blN q c a : Nat) : Int))), nm .i64 0]) := by
 refine ecalls_of_awp Try.func16 (c := _) rfl (Nat.le_of_ble_eq_true rfl) ?_
 show awp cx 49 _ (postF cx Try.f16 _) ⟨[(0, Nv q), (1, Nv c), (2, Nv a)], []⟩
 have hk0 := hk
 obtain ⟨e1, e2, e3, e4, e5, e6⟩ := hk0
 obtain ⟨b1, b2, b3⟩ := bl_fits hk ha ha2
 have hS : OkS (txt ((blN q c a : Nat) : Int)) := okS_txt b1
 have hSz := okS_sz6 hS
 refine awp_seq fun K0 hK0 => awp_region rfl ?_
 refine o_box 2 [Nv q] gn rfl rfl ?_
 refine o_box 3 [Nv c] gn rfl rfl ?_
 refine o_box 4 [Nv a] gn rfl rfl ?_
 refine o_as (Sv Ev) rfl (o_as (Nv 0) rfl (aops_end (hK0 _ (awp_seq fun K1 hK1 => awp_seq fun K2 hK2 => awp_region rfl ?_))))
 refine o_loadS (Nv q) gn f55_ rfl rfl rfl ?_
 refine o_loadS (Nv c) gn f55_ rfl rfl rfl ?_
 refine o_ct (c_bKin ((q : Nat) : Int) ((c : Nat) : Int)) gn f82_ rfl ?_
 refine n_as (v' := Tv) (by exact bp6y hk) ?_
 refine o_not (b := true) gn rfl ?_
 refine o_mv Fv rfl ?_
 refine o_loadS (Nv a) (Gd.yes rfl rfl rfl) f55_ rfl rfl rfl ?_
 refine n_lss a 1 (Gd.yes rfl rfl rfl) rfl rfl ?_
 refine n_as (v' := Fv) (by exact bp6n (by omega)) ?_
 refine o_pickF Fv gn rfl rfl rfl ?_
 refine o_mv Fv rfl ?_
 refine o_loadS (Nv a) (Gd.yes rfl rfl rfl) f55_ rfl rfl rfl ?_
 refine n_gtr a 1000 (Gd.yes rfl rfl rfl) rfl rfl ?_
 refine n_as (v' := Fv) (by exact bp6n (by omega)) ?_
 refine o_pickF Fv gn rfl rfl rfl ?_
 refine aops_end (hK2 _ ?_)
 refine awp_condB (b := false) rfl (fun hh => absurd (hh.symm.trans rfl) (by decide)) (fun _ => ?_)
 refine awp_skip (hK1 _ (awp_seq fun K3 hK3 => awp_region rfl ?_))
 refine o_makeFunc [.ref 2 0, .ref 3 0, .ref 4 0] gn rfl ?_
 refine o_as (.clo 34 [.ref 2 0, .ref 3 0, .ref 4 0]) rfl (aops_end (hK3 _ (awp_seq fun K4 hK4 => awp_region rfl ?_)))
 refine o_ct (c_xOf 1 (by first | omega | assumption)) gn f15_ rfl ?_
 refine o_as (.sl 1 (ns .u64 (Mw.digs 1))) rfl ?_
 refine n_as (v' := (.sl 1 (ns .u64 (Mw.digs (2 ^ 0))))) (by rfl) ?_
 refine aops_end (hK4 _ (awp_seq fun K5 hK5 => ?_))
 refine awp_block ?_
 refine awp_loopR (fun κ σ => ∃ (j : Nat), (j ≤ 1700) ∧ (∀ i, i < j → FitL q c (2 ^ i) a) ∧ (1700 - j) = κ ∧ σ = ⟨[(8, .clo 34 [.ref 2 0, .ref 3 0, .ref 4 0]), (9, .sl 1 (ns .u64 (Mw.digs (2 ^ j))))], [(2, .var 3 [Nv q]), (3, .var 3 [Nv c]), (4, .var 3 [Nv a])]⟩) ⟨_, _, ⟨0, (by omega), (fun i hi => by omega), rfl, rfl⟩, ?wk0⟩ ?rd0
 case wk0 =>
  exact Wk.sub ⟨rfl, (by first | rfl | simp), trivial⟩ ⟨rfl, rfl, rfl, trivial⟩
 rintro κ _ ⟨j, hj, hp, rfl, rfl⟩
 obtain ⟨y1, y2⟩ := pow2_len hj
 have yp : 1 ≤ 2 ^ j := Nat.pow_pos (by decide)
 refine awp_seq fun K6 hK6 => awp_seq fun K7 hK7 => ?_
 refine awp_regionSW 2 29 _ 34 [.ref 2 0, .ref 3 0, .ref 4 0] _ _ _ _ _ [.sl 1 (ns .u64 (Mw.digs (2 ^ j))), .ref 2 0, .ref 3 0, .ref 4 0] (bp (FitL q c (2 ^ j) a)) [(2, .var 3 [Nv q]), (3, .var 3 [Nv c]), (4, .var 3 [Nv a])] rfl rfl rfl f105_ ?_
 refine o_mv (.clo 34 [.ref 2 0, .ref 3 0, .ref 4 0]) rfl (o_mv (.sl 1 (ns .u64 (Mw.digs (2 ^ j)))) rfl ?_)
 refine aops_end ⟨_, Wk.sub (σ' := ⟨[(8, .clo 34 [.ref 2 0, .ref 3 0, .ref 4 0]), (9, .sl 1 (ns .u64 (Mw.digs (2 ^ j)))), (27, .clo 34 [.ref 2 0, .ref 3 0, .ref 4 0]), (28, .sl 1 (ns .u64 (Mw.digs (2 ^ j))))], [(2, .var 3 [Nv q]), (3, .var 3 [Nv c]), (4, .var 3 [Nv a])]⟩) ⟨rfl, rfl, rfl, rfl, trivial⟩ ⟨rfl, rfl, rfl, trivial⟩, rfl, rfl, scalls_of_r (K := [2, 3, 4]) (m := [(2, .var 3 [Nv q]), (3, .var 3 [Nv c]), (4, .var 3 [Nv a])]) (m' := [(2, .var 3 [Nv q]), (3, .var 3 [Nv c]), (4, .var 3 [Nv a])]) (e := []) (c_bHas q c a (2 ^ j) hk ha ha2 (by omega) (by omega)) rfl rfl, ?_⟩
 refine hK7 _ ?_
 refine awp_condQ (q := FitL q c (2 ^ j) a) rfl (fun h1 => ?_) (fun h1 => ?_)
 ·have hj1 := fitL_pow (by omega) (by omega) ha ha2 h1
  refine awp_skip (hK6 _ ?_)
  refine awp_block ?_
  refine awp_region rfl (o_mv (.sl 1 (ns .u64 (Mw.digs (2 ^ j)))) rfl ?_)
  refine o_ct (c_xUp (2 ^ j) 1 (by first | omega | assumption) (by first | omega | assumption)) gn f102_ rfl ?_
  refine n_as (v' := (.sl 1 (ns .u64 (Mw.digs (2 ^ (j + 1)))))) (by exact congrArg (fun x => AV.sl 1 (ns .u64 (Mw.digs x))) (Nat.pow_add 2 j 1).symm) ?_
  refine o_as (.sl 1 (ns .u64 (Mw.digs (2 ^ (j + 1))))) rfl (aops_end ?_)
  refine ⟨_, _, ?lt, ⟨j + 1, (by omega), (fun i hi => by rcases Nat.lt_or_ge i j with e | e; exact hp i e; rw [show i = j by omega]; assumption), rfl, rfl⟩, ?wk⟩
  case lt => omega
  case wk => exact Wk.sub ⟨rfl, (by first | rfl | simp), trivial⟩ ⟨rfl, rfl, rfl, trivial⟩
 ·refine awp_exit ?_
  refine hK5 _ (awp_seq fun K8 hK8 => awp_region rfl (o_as (Sv ({data := #[48]} : ByteArray)) rfl (aops_end (hK8 _ (awp_seq fun K9 hK9 => awp_seq fun K10 hK10 => awp_region rfl (o_mv (.sl 1 (ns .u64 (Mw.digs (2 ^ j)))) rfl ?_))))))
  refine o_ct (c_xOver (2 ^ j) 2 (by first | (left; rfl) | (right; rfl)) (by first | omega | assumption)) gn f41_ rfl ?_
  refine o_mv (.tup [.sl 1 (ns .u64 (Mw.digs (2 ^ j / 2))), nm .u64 ((2 ^ j) % 2)]) rfl (o_extract (.sl 1 (ns .u64 (Mw.digs (2 ^ j / 2)))) gn rfl rfl (o_extract (nm .u64 ((2 ^ j) % 2)) gn rfl rfl (o_as (.sl 1 (ns .u64 (Mw.digs (2 ^ j / 2)))) rfl (o_as (nm .u64 ((2 ^ j) % 2)) rfl (aops_end (hK10 _ (awp_seq fun K11 hK11 => awp_region rfl (o_mv (.sl 1 (ns .u64 (Mw.digs (2 ^ j / 2)))) rfl ?_))))))))
  refine n_len (Mw.digs (2 ^ j / 2)) gn f0_ rfl ?_
  refine n_gtr ((Mw.digs (2 ^ j / 2)).length) 0 gn rfl rfl ?_
  refine aops_end (hK11 _ ?_)
  refine awp_condQ (q := 0 < ((Mw.digs (2 ^ j / 2)).length)) rfl (fun h2 => ?_) (fun h2 => ?_)
  ·obtain ⟨i, hji, hlo⟩ := low_pos h2
   have h2i : 1 ≤ 2 ^ i := Nat.pow_pos (by decide)
   have hii : 2 ^ i < 2 ^ j := by rw [hji, Nat.pow_succ]; omega
   refine awp_wk (σ' := ⟨[(29, bp (FitL q c (2 ^ j) a)), (8, .clo 34 [.ref 2 0, .ref 3 0, .ref 4 0]), (9, .sl 1 (ns .u64 (Mw.digs (2 ^ j)))), (27, .clo 34 [.ref 2 0, .ref 3 0, .ref 4 0]), (28, .sl 1 (ns .u64 (Mw.digs (2 ^ j)))), (33, .sl 1 (ns .u64 (Mw.digs (2 ^ j)))), (34, .tup [.sl 1 (ns .u64 (Mw.digs (2 ^ j / 2))), nm .u64 ((2 ^ j) % 2)]), (32, .tup [.sl 1 (ns .u64 (Mw.digs (2 ^ j / 2))), nm .u64 ((2 ^ j) % 2)]), (35, .sl 1 (ns .u64 (Mw.digs (2 ^ j / 2)))), (36, nm .u64 ((2 ^ j) % 2)), (11, .sl 1 (ns .u64 (Mw.digs (2 ^ j / 2)))), (12, nm .u64 ((2 ^ j) % 2)), (37, .sl 1 (ns .u64 (Mw.digs (2 ^ j / 2)))), (38, Nv ((Mw.digs (2 ^ j / 2)).length)), (39, bp (0 < ((Mw.digs (2 ^ j / 2)).length)))], [(2, .var 3 [Nv q]), (3, .var 3 [Nv c]), (4, .var 3 [Nv a])]⟩) (Wk.sub ⟨rfl, rfl, rfl, rfl, rfl, rfl, rfl, rfl, rfl, rfl, rfl, rfl, rfl, rfl, rfl, trivial⟩ ⟨rfl, rfl, rfl, trivial⟩) ?_
   refine awp_regionSK 3 43 _ 38 [] _ _ _ _ _ [.sl 1 (ns .u64 (Mw.digs (2 ^ j / 2))), .sl 1 (ns .u64 (Mw.digs (2 ^ j))), .clo 34 [.ref 2 0, .ref 3 0, .ref 4 0]] (.sl 1 (ns .u64 (Mw.digs (blN q c a)))) [(2, .var 3 [Nv q]), (3, .var 3 [Nv c]), (4, .var 3 [Nv a])] rfl rfl f106_ ?_
   refine o_mv (.sl 1 (ns .u64 (Mw.digs (2 ^ j / 2)))) rfl (o_mv (.sl 1 (ns .u64 (Mw.digs (2 ^ j)))) rfl (o_mv (.clo 34 [.ref 2 0, .ref 3 0, .ref 4 0]) rfl ?_))
   refine aops_end ⟨rfl, rfl, ?sc1, ?_⟩
   case sc1 => exact scalls_of_r (K := [2, 3, 4]) (m := [(2, .var 3 [Nv q]), (3, .var 3 [Nv c]), (4, .var 3 [Nv a])]) (m' := [(2, .var 3 [Nv q]), (3, .var 3 [Nv c]), (4, .var 3 [Nv a])]) (e := []) (c_bHalves q c a (2 ^ j / 2) (2 ^ j) hk ha ha2 (by omega) (by omega) (by rw [hlo]; exact hp i (by omega)) (by assumption) (by omega)) rfl rfl
   refine o_ct (c_xDigits (blN q c a) (by first | omega | assumption) (by first | omega | assumption)) gn f95_ rfl ?_
   refine o_as (Sv (txt ((blN q c a : Nat) : Int))) rfl (aops_end (hK9 _ (awp_seq fun K12 hK12 => awp_seq fun K13 hK13 => awp_region rfl (o_mv (Sv (txt ((blN q c a : Nat) : Int))) rfl ?_))))
   refine o_ct (c_nValid (txt ((blN q c a : Nat) : Int)) (by first | assumption | decide | omega)) gn f80_ rfl ?_
   refine n_as (v' := Tv) (by rw [okS_yes hS]) ?_
   refine o_not (b := true) gn rfl ?_
   refine aops_end (hK13 _ ?_)
   refine awp_condB (b := false) rfl (fun hh => absurd (hh.symm.trans rfl) (by decide)) (fun _ => ?_)
   refine awp_skip (hK12 _ (awp_seq fun K14 hK14 => awp_region rfl (o_mv (Sv (txt ((blN q c a : Nat) : Int))) rfl (o_as (Sv (txt ((blN q c a : Nat) : Int))) rfl (o_as (Nv 0) rfl (aops_end (hK14 _ ?_)))))))
   refine awp_ret ?_
   refine post_ret ⟨[(Sv (txt ((blN q c a : Nat) : Int))), Nv 0], ⟨AV.le_refl _, AV.le_refl _, trivial⟩, rfl, ?_⟩
   rfl
  ·refine awp_wk (Wk.slot (i := 10) (y := (Sv (txt ((blN q c a : Nat) : Int)))) (AV.le_eq (by exact congrArg (fun b => AV.lit (.string b)) (by rw [bl_eq (low := 0) ha (.inl rfl) (by have e := low_zero h2; subst e; assumption)]; exact txt_nil.symm)))) ?_
   refine awp_skip (hK9 _ (awp_seq fun K15 hK15 => awp_seq fun K16 hK16 => awp_region rfl (o_mv (Sv (txt ((blN q c a : Nat) : Int))) rfl ?_)))
   refine o_ct (c_nValid (txt ((blN q c a : Nat) : Int)) (by first | assumption | decide | omega)) gn f80_ rfl ?_
   refine n_as (v' := Tv) (by rw [okS_yes hS]) ?_
   refine o_not (b := true) gn rfl ?_
   refine aops_end (hK16 _ ?_)
   refine awp_condB (b := false) rfl (fun hh => absurd (hh.symm.trans rfl) (by decide)) (fun _ => ?_)
   refine awp_skip (hK15 _ (awp_seq fun K17 hK17 => awp_region rfl (o_mv (Sv (txt ((blN q c a : Nat) : Int))) rfl (o_as (Sv (txt ((blN q c a : Nat) : Int))) rfl (o_as (Nv 0) rfl (aops_end (hK17 _ ?_)))))))
   refine awp_ret ?_
   refine post_ret ⟨[(Sv (txt ((blN q c a : Nat) : Int))), Nv 0], ⟨AV.le_refl _, AV.le_refl _, trivial⟩, rfl, ?_⟩
   rfl

end Go.Proofs.Ytaeknciienkijaa

namespace Go.Mth
open Go.Ab
end Go.Mth

namespace Go.Mth
open Go.Ab
def prodZ (m : MapM) (z : Int) : Nat → Int
 | 0 => 1
 | i + 1 => prodZ m z i * m.mul.getD (iterZ m i z % m.mod).toNat 0
end Go.Mth

namespace Go.Mth
open Go.Ab
def freeM (m : MapM) : Prop := ∀ i, i < m.mul.length → Nat.gcd (m.mul.getD i 0).toNat m.mod.toNat ≤ 1
noncomputable instance (m : MapM) : Decidable (freeM m) := Classical.propDecidable _
def primeN (a b : Nat) : Prop := ∀ d, 2 ≤ d → d ≤ a → d ≤ b → ¬ (a % d = 0 ∧ b % d = 0)
noncomputable instance (a b : Nat) : Decidable (primeN a b) := Classical.propDecidable _
theorem kin_ok {q c : Int} (h : kinOk q c) : OkM (kinM q c) := by
 obtain ⟨h1, h2, h3, h4, h5, h6⟩ := h
 refine ⟨show (2 : Int) ≤ 2 by decide, show (2 : Int) ≤ 12 by decide, by rfl, by rfl, fun r hr => ?_⟩
 have hr2 : (r : Int) < 2 := hr
 have : r = 0 ∨ r = 1 := by omega
 rcases this with rfl | rfl
 ·exact ⟨show (1 : Int) ≤ 1 by decide, show (1 : Int) ≤ 999 by decide, show (-999999 : Int) ≤ 0 by decide, show (0 : Int) ≤ 999999 by decide, show Int.tmod ((1 : Int) * ((0 : Nat) : Int) + 0) 2 = 0 by decide⟩
 ·refine ⟨h1, h2, h3, h4, ?_⟩
  show Int.tmod (q * ((1 : Nat) : Int) + c) 2 = 0
  rw [Int.natCast_one, Int.mul_one]
  have a1 : ¬ (2 : Int) ∣ q := fun hd => h5 (Int.tmod_eq_zero_of_dvd hd)
  have a2 : ¬ (2 : Int) ∣ c := fun hd => h6 (Int.tmod_eq_zero_of_dvd hd)
  exact Int.tmod_eq_zero_of_dvd (by omega)
end Go.Mth

namespace Go.Mth
open Go.Ab
def wordZ (m : MapM) (z : Int) : Nat → List Int
 | 0 => []
 | k + 1 => wordZ m z k ++ [iterZ m k z % m.mod]
structure LinZ where
 mul : Int
 add : Int
 div : Int
def oneZ : LinZ := ⟨1, 0, 1⟩
def mulM (m : MapM) (r : Int) : Int := m.mul.getD r.toNat 0
def addM (m : MapM) (r : Int) : Int := m.add.getD r.toNat 0
def thenZ (m : MapM) (l : LinZ) (r : Int) : LinZ := ⟨mulM m r * l.mul, mulM m r * l.add + addM m r * l.div, l.div * m.mod⟩
def lineZ (m : MapM) (w : List Int) : LinZ := w.foldl (thenZ m) oneZ
def lookT (p n a r : Int) : Nat := ((List.range n.toNat).find? fun (t : Nat) => decide ((a + (t : Int) * p) % n = r)).getD 0
def nextR (m : MapM) (s : Int × LinZ) (r : Int) : Int × LinZ := (s.1 + (lookT s.2.mul m.mod ((s.2.mul * s.1 + s.2.add) / s.2.div) r : Int) * s.2.div, thenZ m s.2 r)
def restZ (m : MapM) (w : List Int) : Int × LinZ := w.foldl (nextR m) (0, oneZ)
def IsW (m : MapM) (w : List Int) : Prop := ∀ r ∈ w, 0 ≤ r ∧ r < m.mod
end Go.Mth

namespace Go.Mth
open Go.Ab
variable {a b c : ByteArray}
noncomputable abbrev gG (a b : ByteArray) : ByteArray := if okS a && okS b then toldS ((Int.gcd (numS a) (numS b) : Nat) : Int) else { data := #[] }
end Go.Mth

namespace Go.Mth
open Go.Ab
def linK (k : IntKind) (l : LinZ) : AV := .agg [bp (l.mul < 0), .sl 1 (ns k (digs l.mul.natAbs)), bp (l.add < 0), .sl 1 (ns k (digs l.add.natAbs)), bp (l.div < 0), .sl 1 (ns k (digs l.div.natAbs))]
def linW (l : LinZ) : AV := linK .u32 l
def linR (l : LinZ) : AV := linK .i64 l
structure LineS where
 mul : ByteArray
 add : ByteArray
 div : ByteArray
def lineV (l : LineS) : AV := .agg [.lit (.string l.mul), .lit (.string l.add), .lit (.string l.div)]
def noS : ByteArray := { data := #[] }
def lineT (l : LinZ) : LineS := ⟨txt l.mul, txt l.add, txt l.div⟩
def OkW (m : MapM) (w : List Int) : Prop := IsW m w ∧ w.length ≤ 200
noncomputable instance (m : MapM) (w : List Int) : Decidable (OkW m w) := Classical.propDecidable _
def FitK (m : MapM) (z : Int) (k : Nat) : Prop := ∀ j, j < k → Fit (iterZ m j z)
noncomputable instance (m : MapM) (z : Int) (k : Nat) : Decidable (FitK m z k) := Classical.propDecidable _
noncomputable def wordE (m : MapM) (a : ByteArray) (K : Int) : Nat := if okM m = true ∧ okS a = true then if 0 ≤ K ∧ K ≤ 200 then if FitK m (numS a) K.toNat then 0 else 3 else 2 else 1
noncomputable def wordL (m : MapM) (a : ByteArray) (K : Int) : List Int := if wordE m a K = 0 then wordZ m (numS a) K.toNat else []
noncomputable def lineE (m : MapM) (w : List Int) : Nat := if okM m = true then if OkW m w then 0 else 2 else 1
noncomputable def lineS (m : MapM) (w : List Int) : LineS := if okM m = true ∧ OkW m w then lineT (lineZ m w) else ⟨noS, noS, noS⟩
noncomputable def restE (m : MapM) (w : List Int) : Nat := if okM m = true then if OkW m w ∧ freeM m then 0 else 2 else 1
noncomputable def restS (m : MapM) (w : List Int) : ByteArray := if okM m = true ∧ OkW m w ∧ freeM m then txt (restZ m w).1 else noS
noncomputable def restD (m : MapM) (w : List Int) : ByteArray := if okM m = true ∧ OkW m w ∧ freeM m then txt (m.mod ^ w.length) else noS
noncomputable def okL (l : LineS) : Bool := okS l.mul && okS l.add && okS l.div
noncomputable def appV (l : LineS) (a : ByteArray) : Int := numS l.mul * numS a + numS l.add
noncomputable def appE (l : LineS) (a : ByteArray) : Nat := if okL l = true ∧ okS a = true then if 0 < numS l.div then if Fit (appV l a) then 0 else 3 else 2 else 1
def AppB (l : LineS) (a : ByteArray) : Prop := okL l = true ∧ okS a = true ∧ 0 < numS l.div ∧ Fit (appV l a) ∧ appV l a % numS l.div = 0
noncomputable instance (l : LineS) (a : ByteArray) : Decidable (AppB l a) := Classical.propDecidable _
noncomputable def appS (l : LineS) (a : ByteArray) : ByteArray := if AppB l a then txt (appV l a / numS l.div) else noS
theorem bp_yes {q : Prop} [Decidable q] (h : q) : bp q = .lit (.bool true) := by unfold bp; rw [decide_eq_true h]
theorem bp_no {q : Prop} [Decidable q] (h : ¬ q) : bp q = .lit (.bool false) := by unfold bp; rw [decide_eq_false h]
end Go.Mth

namespace Go.Mth
open Go.Ab
end Go.Mth

namespace Go.Mth
open Go.Ab
theorem wrap_bd (i : Int) {n : Nat} (hn : 0 < n) : -(n : Int) < Int.tmod i n ∧ Int.tmod i n < n := by
 have h1 := Int.tmod_lt_of_pos i (show (0 : Int) < n by omega)
 have h2 := Int.lt_tmod_of_pos i (show (0 : Int) < n by omega)
 exact ⟨h2, h1⟩
theorem wrap_eq (i : Int) {n : Nat} (hn : 0 < n) : Int.tmod (Int.tmod i n + n) n = i % (n : Int) := by
 obtain ⟨h1, h2⟩ := wrap_bd i hn
 rw [Int.tmod_eq_emod_of_nonneg (by omega), Int.add_emod_right]
 have := Int.mul_tdiv_add_tmod i n
 have e : i = Int.tmod i n + (n : Int) * Int.tdiv i n := by omega
 rw [e, Int.add_mul_emod_self_left, ← e]
theorem getD_mem {α : Type} {l : List α} {i : Nat} {d : α} (h : i < l.length) : l.getD i d ∈ l := by
 rw [List.getD_eq_getElem?_getD, List.getElem?_eq_getElem h]
 exact List.getElem_mem h
noncomputable def shortB (a : ByteArray) : Bool := decide (a.size ≤ 601) && okS a
def ShortS (l : List ByteArray) : Prop := ∀ k, k < l.length → shortB (l.getD k { data := #[] }) = true
noncomputable instance (l : List ByteArray) : Decidable (ShortS l) := Classical.propDecidable _
theorem shortB_yes {a : ByteArray} (h : a.size ≤ 601) (h2 : okS a = true) : shortB a = true := by unfold shortB; rw [h2, decide_eq_true h]; rfl
theorem shortB_le {a : ByteArray} (h : shortB a = true) : a.size ≤ 601 := by unfold shortB at h; simp at h; exact h.1
theorem shortB_ok {a : ByteArray} (h : shortB a = true) : okS a = true := by unfold shortB at h; simp at h; exact h.2
def propN (m : MapM) (w : List Int) : Nat → List Int
 | 0 => []
 | i + 1 => propN m w i ++ [w.getD i 0 % m.mod]
def propW (m : MapM) (w : List Int) : List Int := propN m w (min w.length 40)
theorem step_len' {m : MapM} (hm : OkM m) (z : Int) : (digs (stepZ m z).natAbs).length ≤ (digs z.natAbs).length + 4 := by
 have := step_len (z := z) (k := (digs z.natAbs).length + 1) hm (by omega) (by omega)
 omega
end Go.Mth

namespace Go.Mth
open Go Go.Ab
noncomputable instance (m : MapM) (z : Int) (K : Nat) : Decidable (isC m z K) := Classical.propDecidable _
noncomputable def oddA (m : MapM) (z : Int) (K : Nat) : Nat := if isC m z K then sumR m z (rtn m z K 0) else 0
noncomputable def oddK (m : MapM) (z : Int) (K : Nat) : Nat := if isC m z K then rtn m z K 0 else 0
noncomputable def oddL (m : MapM) (z : Int) (K : Nat) : Int := if isC m z K then leaZ m z (rtn m z K 0) else z
noncomputable def oddV (m : MapM) (z : Int) (K : Nat) : AV := .tup [nm .i64 (oddA m z K), nm .i64 (oddK m z K), intR (oddL m z K), bp (isC m z K)]
theorem odd_n {m : MapM} {z : Int} {K : Nat} (h : ¬ isC m z K) : oddV m z K = .tup [nm .i64 0, nm .i64 0, intR z, .lit (.bool false)] := by
 unfold oddV oddA oddK oddL
 rw [if_neg h, if_neg h, if_neg h, bp_no h]
theorem odd_end {m : MapM} {z : Int} {K j : Nat} (hj : j = rtn m z K 0) (hp : ∀ i, i < j → 0 < iterZ m i z) : oddV m z K = .tup [nm .i64 (sumR m z j), nm .i64 (rtn m z K 0), intR (leaZ m z j), bp (0 < rtn m z K 0)] := by
 by_cases h0 : 0 < rtn m z K 0
 ·have h : isC m z K := ⟨h0, fun i hi => hp i (by omega)⟩
  unfold oddV oddA oddK oddL
  rw [if_pos h, if_pos h, if_pos h, bp_yes h, bp_yes h0, hj]
 ·have h : ¬ isC m z K := fun e => h0 e.1
  rw [odd_n h, bp_no h0, hj, show rtn m z K 0 = 0 by omega]
  rfl
theorem odd_stop {m : MapM} {z : Int} {K j : Nat} (hj : j < rtn m z K 0) (hn : ¬ 0 < iterZ m j z) : ¬ isC m z K := fun h => hn (h.2 j hj)
theorem sumR_s {m : MapM} (hM : OkM m) (z : Int) (j : Nat) : ((sumR m z j : Nat) : Int) + iterZ m j z % m.mod = ((sumR m z (j + 1) : Nat) : Int) := by
 have h := Int.emod_nonneg (iterZ m j z) (show m.mod ≠ 0 by have := hM.1; omega)
 show _ = ((sumR m z j + (iterZ m j z % m.mod).toNat : Nat) : Int)
 omega
theorem sumR_le {m : MapM} (hM : OkM m) (z : Int) : ∀ j, sumR m z j ≤ 12 * j
 | 0 => Nat.le_refl _
 | j + 1 => by
  have h := Int.emod_lt_of_pos (iterZ m j z) (show 0 < m.mod by have := hM.1; omega)
  have h2 := hM.2.1
  have := sumR_le hM z j
  show sumR m z j + (iterZ m j z % m.mod).toNat ≤ _
  omega
theorem leaZ_y {m : MapM} {z : Int} {j : Nat} (h : iterZ m j z < leaZ m z j) : leaZ m z (j + 1) = iterZ m j z := if_pos h
theorem leaZ_n {m : MapM} {z : Int} {j : Nat} (h : ¬ iterZ m j z < leaZ m z j) : leaZ m z (j + 1) = leaZ m z j := if_neg h
theorem cmpZ_eq0 {x y : Int} : cmpZ x y = 0 ↔ x = y := by unfold cmpZ; split <;> (try split) <;> omega
theorem iter_len {m : MapM} (hm : OkM m) (z : Int) : ∀ k, (digs (iterZ m k z).natAbs).length ≤ (digs z.natAbs).length + 4 * k
 | 0 => by show (digs z.natAbs).length ≤ _; omega
 | k + 1 => by
  have h1 := iter_len hm z k
  have h2 := step_len' hm (iterZ m k z)
  show (digs (stepZ m (iterZ m k z)).natAbs).length ≤ _
  omega
theorem leaZ_len {m : MapM} (hm : OkM m) (z : Int) : ∀ j, (digs (leaZ m z j).natAbs).length ≤ (digs z.natAbs).length + 4 * j
 | 0 => Nat.le_refl _
 | j + 1 => by
  have h1 := iter_len hm z j
  have h2 := leaZ_len hm z j
  rw [leaZ]
  split <;> omega
theorem tl_main {q c b : Nat} {z : Int} (hk : KinB (q : Int) (c : Int)) (hC : isC (kinM q c) z 60) (hz : z.natAbs < 10 ^ b) :
  ∃ N : Nat, oddL (kinM q c) z 60 = (N : Int) ∧ 1 ≤ N ∧ N < 10 ^ b ∧ 1 ≤ oddA (kinM q c) z 60 ∧ oddA (kinM q c) z 60 ≤ oddK (kinM q c) z 60 ∧ oddK (kinM q c) z 60 ≤ 60 ∧ ∀ M : Nat, 1 ≤ M → M ≤ N → FitB q c M (oddA (kinM q c) z 60) (oddK (kinM q c) z 60) := by
 obtain ⟨e1, e2, e3, e4, e5, e6⟩ := hk
 obtain ⟨c1, c2⟩ := rtn_per _ _ hC.1
 obtain ⟨m1, m2, m3⟩ := cr_main (q := q) (c := c) (by omega) (by omega) hC.1 c1 hC.2
 have hz0 : 0 < z := hC.2 0 hC.1
 have hl := leaZ_pos hz0 _ hC.2
 have ht := leaZ_top (m := kinM q c) (z := z) (rtn (kinM q c) z 60 0)
 unfold oddA oddK oddL
 rw [if_pos hC, if_pos hC, if_pos hC]
 exact ⟨(leaZ (kinM q c) z (rtn (kinM q c) z 60 0)).toNat, by omega, by omega, Nat.lt_of_le_of_lt (by omega) hz, m1, m2, by omega, fun M h1 h2 => m3 M h1 (by omega)⟩
theorem sz_601 {N q c b : Nat} (hb : 6 ≤ b ∧ b ≤ 601) (h : N < 10 ^ b) (hq : q ≤ 999) (hc : c ≤ 999999) : (txt (((q * N + c : Nat)) : Int)).size ≤ 610 ∧ Fit (N : Int) ∧ (digs N).length ≤ 601 ∧ (decs N).length ≤ 601 := by
 obtain ⟨b1, b2⟩ := hb
 have h1 := grow6 h b1 hq hc
 have h2 := (len6 h).2
 refine ⟨?_, ?_, (fun e : (digs N).length ≤ b => by omega) (digs_len_of_lt (Nat.lt_of_lt_of_le h (Nat.pow_le_pow_left (by decide) _))), by omega⟩
 ·have h3 := decs_len_lt h1
  rw [txt_size]
  unfold ndig
  split
  ·decide
  ·omega
 ·show ndig N ≤ 2000
  unfold ndig
  split
  ·decide
  ·omega
theorem numS_601 {a : ByteArray} (h : OkS a) (hs : a.size ≤ 601) : ∃ b, (6 ≤ b ∧ b ≤ 601) ∧ (numS a).natAbs < 10 ^ b := by
 obtain ⟨o1, o2, o3, o4⟩ := h
 have h1 := dvk_lt (a := a) (s := sgnAt a) (k := a.size - sgnAt a) fun i h1 h2 => o4 i h1 (by omega)
 have h3 : (numS a).natAbs = dvk a (sgnAt a) (a.size - sgnAt a) := by unfold numS sg; split <;> simp
 rw [h3]
 exact ⟨max 6 (a.size - sgnAt a), by omega, Nat.lt_of_lt_of_le h1 (Nat.pow_le_pow_right (by decide) (by omega))⟩
/- known bounds -/
theorem tx6 : txt (((6 : Nat)) : Int) = ⟨#[54]⟩ := by simp [txt, txtL, decs, strN]; rfl
theorem bits_val {n k : Nat} (h1 : n < 2 ^ (k + 1)) (h2 : 2 ^ k ≤ n) : Mw.bits n = k + 1 := by
 have a := Mw.bits_le.2 h1
 rcases Nat.lt_or_ge (Mw.bits n) (k + 1) with e | e
 ·have := Mw.bits_le.1 (show Mw.bits n ≤ k by omega)
  omega
 ·omega
theorem ex8_no : ∀ j, 1 ≤ j → j ≤ 4 → ¬ FitL 3 1 6 j := by
 intro j h1 h2 h
 unfold FitL at h
 rcases (show j = 1 ∨ j = 2 ∨ j = 3 ∨ j = 4 by omega) with rfl | rfl | rfl | rfl
 ·rw [bits_val (k := 1) (by decide) (by decide)] at h; exact absurd h (by decide)
 ·rw [bits_val (k := 3) (by decide) (by decide)] at h; exact absurd h (by decide)
 ·rw [bits_val (k := 4) (by decide) (by decide)] at h; exact absurd h (by decide)
 ·rw [bits_val (k := 6) (by decide) (by decide)] at h; exact absurd h (by decide)
theorem ex8_yes : FitL 3 1 6 5 := by
 unfold FitL
 rw [bits_val (k := 7) (by decide) (by decide)]
 decide
theorem ex8_a : lsV 3 1 6 10 = .tup [nm .i64 5, nm .i64 8, nm .i64 0] := by
 rw [lsV_hit (i := 4) (by decide) ex8_no ex8_yes, bits_val (k := 7) (by decide) (by decide)]
theorem ex8_b : lsV 3 1 6 4 = .tup [nm .i64 0, nm .i64 0, nm .i64 4] := lsV_none rfl ex8_no
theorem ex8_sz : (txt (((3 * 6 + 1 : Nat)) : Int)).size ≤ 610 ∧ Fit (((6 : Nat)) : Int) := by
 have h := sz_601 (N := 6) (q := 3) (c := 1) (b := 6) (by decide) (by decide) (by decide) (by decide)
 exact ⟨h.1, h.2.1⟩
theorem cmp_le {x y : Int} (h : x ≤ y) : ¬ 0 < cmpZ x y := by unfold cmpZ; split <;> (try split) <;> omega
theorem kinB_ok {q c : Int} (h : KinB q c) : kinOk q c := by
 obtain ⟨e1, e2, e3, e4, e5, e6⟩ := h
 have t : ∀ x : Int, 0 ≤ x → Int.tmod x 2 = x % 2 := fun x hx => Int.tmod_eq_emod_of_nonneg hx
 exact ⟨by omega, e2, by omega, e5, by rw [t q (by omega)]; omega, by rw [t c (by omega)]; omega⟩
theorem kinB_of {q c : Int} (h : kinOk q c) (h1 : 3 ≤ q) (h2 : 1 ≤ c) : KinB q c := by
 obtain ⟨e1, e2, e3, e4, e5, e6⟩ := h
 have t : ∀ x : Int, 0 ≤ x → Int.tmod x 2 = x % 2 := fun x hx => Int.tmod_eq_emod_of_nonneg hx
 rw [t q (by omega)] at e5
 rw [t c (by omega)] at e6
 exact ⟨h1, e2, by omega, h2, e4, by omega⟩
theorem err_iff {q c N a : Nat} (ha : 1 < a) (h : FitL q c N a) : (if lsF q c N (a - 1) = 0 then 4 else 0) = 4 ↔ lsF q c N a = a := by
 have := (lsF_pred ha h).2.2
 constructor
 ·intro e; split at e
  ·exact this.1 (by assumption)
  ·cases e
 ·intro e; rw [if_pos (this.2 e)]
end Go.Mth

namespace Go.Proofs.Ytaeknciienkijaa
open Go Go.Ab Go.Mth
theorem c_bFits (q c N a k : Nat) (hk : KinB (q : Int) (c : Int)) (hN : 0 < N) (hf : Fit (N : Int)) (ha : 1 ≤ a) (ha2 : a ≤ 60) (hk1 : 1 ≤ k) (hk2 : k ≤ 10000) (hsz : a * (txt ((q * N + c : Nat) : Int)).size ≤ 100000) : ECalls cx 13 [Nv q, Nv c, (Sv (txt ((N : Nat) : Int))), Nv a, Nv k] (.tup [bp (FitB q c N a k), nm .i64 0]) := by
 refine ecalls_of_awp Try.func13 (c := _) rfl (Nat.le_of_ble_eq_true rfl) ?_
 show awp cx 48 _ (postF cx Try.f13 _) ⟨[(0, Nv q), (1, Nv c), (2, (Sv (txt ((N : Nat) : Int)))), (3, Nv a), (4, Nv k)], []⟩
 have hS : OkS (txt ((N : Nat) : Int)) := okS_txt hf
 have hk0 := hk
 obtain ⟨e1, e2, e3, e4, e5, e6⟩ := hk0
 obtain ⟨f2, f4, f5, f6⟩ := fit6 hf (q := q) (c := c) (by omega) (by omega)
 have fq : (Mw.digs q).length ≤ 1 := Mw.digs_len_of_lt (k := 1) (by omega)
 have fc : (Mw.digs c).length ≤ 1 := Mw.digs_len_of_lt (k := 1) (by omega)
 obtain ⟨g1, g2, g3, g4⟩ := pow6 (a := a) (k := k) f2 f4 fq ha2 hk2
 have g0 : 1 ≤ q * N + c := by omega
 refine awp_seq fun K0 hK0 => awp_region rfl (o_as Fv rfl (o_as (Nv 0) rfl (aops_end (hK0 _ (awp_seq fun K1 hK1 => awp_region rfl (o_mv (Nv q) rfl (o_mv (Nv c) rfl (o_mv (Sv (txt ((N : Nat) : Int))) rfl (o_mv (Nv a) rfl ?_)))))))))
 refine o_ct (c_bAsks q c N a hk hN hf ha (by omega)) gn f96_ rfl ?_
 refine o_mv (.tup [(Nv ((txt ((q * N + c : Nat) : Int)).size)), Nv 0]) rfl (o_extract (Nv ((txt ((q * N + c : Nat) : Int)).size)) gn rfl rfl (o_extract (Nv 0) gn rfl rfl (o_as (Nv ((txt ((q * N + c : Nat) : Int)).size)) rfl (o_as (Nv 0) rfl (aops_end (hK1 _ (awp_seq fun K2 hK2 => ?_)))))))
 refine awp_block ?_
 refine awp_seq fun K3 hK3 => awp_region rfl (o_mv (Nv 0) rfl ?_)
 refine n_neq 0 0 gn rfl rfl ?_
 refine o_as (bp (0 ≠ 0)) rfl (aops_end (hK3 _ ?_))
 refine awp_condB (b := decide (0 ≠ 0)) rfl (fun hh => absurd (hh.symm.trans (decide_eq_false (by decide))) (by decide)) (fun _ => ?_)
 refine awp_seq fun K4 hK4 => awp_region rfl (o_mv (Nv k) rfl ?_)
 refine n_lss k 1 gn rfl rfl ?_
 refine n_as (v' := Fv) (by exact bp6n (by omega)) ?_
 refine o_mv Fv rfl (o_move (Nv k) (Gd.yes rfl rfl rfl) rfl ?_)
 refine n_gtr k 200000 (Gd.yes rfl rfl rfl) rfl rfl ?_
 refine n_as (v' := Fv) (by exact bp6n (by omega)) ?_
 refine o_pickF Fv gn rfl rfl rfl ?_
 refine o_as Fv rfl (aops_end (hK4 _ ?_))
 refine awp_condB (b := false) rfl (fun hh => absurd (hh.symm.trans rfl) (by decide)) (fun _ => ?_)
 refine awp_seq fun K5 hK5 => awp_region rfl (o_mv (Nv a) rfl (o_mv (Nv ((txt ((q * N + c : Nat) : Int)).size)) rfl ?_))
 refine n_mul a ((txt ((q * N + c : Nat) : Int)).size) gn rfl rfl (by simp only [topOf]; omega) ?_
 refine n_gtr (a * ((txt ((q * N + c : Nat) : Int)).size)) 100000 gn rfl rfl ?_
 refine n_as (v' := Fv) (by exact bp6n (by omega)) ?_
 refine o_as Fv rfl (aops_end (hK5 _ ?_))
 refine awp_condB (b := false) rfl (fun hh => absurd (hh.symm.trans rfl) (by decide)) (fun _ => ?_)
 refine awp_skip (hK2 _ (awp_seq fun K6 hK6 => ?_))
 refine awp_wk (σ' := ⟨[(0, Nv q), (1, Nv c), (2, (Sv (txt ((N : Nat) : Int)))), (3, Nv a), (4, Nv k), (15, Nv q), (16, Nv c), (17, (Sv (txt ((N : Nat) : Int)))), (18, Nv a), (19, (.tup [(Nv ((txt ((q * N + c : Nat) : Int)).size)), Nv 0])), (14, (.tup [(Nv ((txt ((q * N + c : Nat) : Int)).size)), Nv 0])), (20, (Nv ((txt ((q * N + c : Nat) : Int)).size))), (21, Nv 0), (12, (Nv ((txt ((q * N + c : Nat) : Int)).size))), (13, Nv 0), (23, Nv 0), (24, bp (0 ≠ 0)), (22, bp (0 ≠ 0)), (27, Nv k), (28, Fv), (29, Fv), (30, Nv k), (31, Fv), (32, Fv), (26, Fv), (34, Nv a), (35, (Nv ((txt ((q * N + c : Nat) : Int)).size))), (36, (Nv (a * ((txt ((q * N + c : Nat) : Int)).size)))), (37, Fv), (33, Fv)], []⟩) (Wk.sub ⟨rfl, rfl, rfl, rfl, rfl, rfl, rfl, rfl, rfl, rfl, rfl, rfl, rfl, rfl, rfl, rfl, rfl, rfl, rfl, rfl, rfl, rfl, rfl, rfl, rfl, rfl, rfl, rfl, rfl, rfl, trivial⟩ trivial) ?_
 refine awp_regionN rfl ?_
 refine Lex.call 5 43 _ 26 [] _ _ _ _ _ [Nv q, Nv c, .sl 1 (ns .u64 (Mw.digs N))] (.ref 2 0) [(2, .var 86 [.sl 1 (ns .u64 (Mw.digs q)), .sl 1 (ns .u64 (Mw.digs N)), .sl 1 (ns .u64 (Mw.digs (q * N + c))), .sl 1 (ns .u64 (Mw.digs 1)), .sl 1 (ns .u64 (Mw.digs 1)), .sl 1 (ns .u64 (Mw.digs 1))])] rfl f86_ ?_
 refine o_mv (Nv q) rfl (o_mv (Nv c) rfl (o_mv (Sv (txt ((N : Nat) : Int))) rfl ?_))
 refine o_ct (c_xParse (txt ((N : Nat) : Int)) (by first | assumption | exact okS_iff.1 (by assumption))) gn f81_ rfl ?_
 refine n_as (v' := (intX ((N : Nat) : Int))) (by exact congrArg intX (numS_txt _)) ?_
 refine o_ct (c_xNat ((N : Nat) : Int)) gn f85_ rfl ?_
 refine n_as (v' := (.sl 1 (ns .u64 (Mw.digs N)))) (by rfl) ?_
 refine aops_end ⟨rfl, rfl, ?sc0, ?_⟩
 case sc0 =>
  refine scalls_of_awpB 9009 Try.func26 (c := _) rfl (Nat.le_of_ble_eq_true rfl) rfl rfl rfl (fun us0 => ?_)
  show awp cx 40 _ (postS cx Try.f26 (.ref 2 0) [(2, .var 86 [.sl 1 (ns .u64 (Mw.digs q)), .sl 1 (ns .u64 (Mw.digs N)), .sl 1 (ns .u64 (Mw.digs (q * N + c))), .sl 1 (ns .u64 (Mw.digs 1)), .sl 1 (ns .u64 (Mw.digs 1)), .sl 1 (ns .u64 (Mw.digs 1))])] 9009 [.sl 1 (ns .u64 (Mw.digs N)), (intX ((N : Nat) : Int)), (Sv (txt ((N : Nat) : Int))), Nv c, Nv q, Nv q, Nv c, (Sv (txt ((N : Nat) : Int))), Nv a, Nv k, Nv q, Nv c, (Sv (txt ((N : Nat) : Int))), Nv a, (.tup [(Nv ((txt ((q * N + c : Nat) : Int)).size)), Nv 0]), (.tup [(Nv ((txt ((q * N + c : Nat) : Int)).size)), Nv 0]), (Nv ((txt ((q * N + c : Nat) : Int)).size)), Nv 0, (Nv ((txt ((q * N + c : Nat) : Int)).size)), Nv 0, Nv 0, bp (0 ≠ 0), bp (0 ≠ 0), Nv k, Fv, Fv, Nv k, Fv, Fv, Fv, Nv a, (Nv ((txt ((q * N + c : Nat) : Int)).size)), (Nv (a * ((txt ((q * N + c : Nat) : Int)).size))), Fv, Fv] us0) ⟨[(0, Nv q), (1, Nv c), (2, .sl 1 (ns .u64 (Mw.digs N)))], [(9009, (.pin [.sl 1 (ns .u64 (Mw.digs N)), (intX ((N : Nat) : Int)), (Sv (txt ((N : Nat) : Int))), Nv c, Nv q, Nv q, Nv c, (Sv (txt ((N : Nat) : Int))), Nv a, Nv k, Nv q, Nv c, (Sv (txt ((N : Nat) : Int))), Nv a, (.tup [(Nv ((txt ((q * N + c : Nat) : Int)).size)), Nv 0]), (.tup [(Nv ((txt ((q * N + c : Nat) : Int)).size)), Nv 0]), (Nv ((txt ((q * N + c : Nat) : Int)).size)), Nv 0, (Nv ((txt ((q * N + c : Nat) : Int)).size)), Nv 0, Nv 0, bp (0 ≠ 0), bp (0 ≠ 0), Nv k, Fv, Fv, Nv k, Fv, Fv, Fv, Nv a, (Nv ((txt ((q * N + c : Nat) : Int)).size)), (Nv (a * ((txt ((q * N + c : Nat) : Int)).size))), Fv, Fv] us0))]⟩
  refine awp_seq fun K7 hK7 => awp_region rfl (o_as (.lit (Go.Value.pointer none)) rfl (aops_end (hK7 _ (awp_seq fun K8 hK8 => awp_region rfl (o_mv (Nv q) rfl ?_)))))
  refine n_conv q gn rfl f18_ f34_ (by simp only [topOf]; omega) ?_
  refine o_ct (c_xOf q (by first | omega | assumption)) gn f15_ rfl ?_
  refine o_mv (.sl 1 (ns .u64 (Mw.digs N))) rfl ?_
  refine o_build [.sl 1 (ns .u64 (Mw.digs q)), .sl 1 (ns .u64 (Mw.digs N)), Zv, Zv, Zv, Zv] [(0, [.sl 1 (ns .u64 (Mw.digs q))]), (1, [.sl 1 (ns .u64 (Mw.digs N))])] gn f87_ f88_ rfl rfl rfl ?_
  refine o_box 2 [.sl 1 (ns .u64 (Mw.digs q)), .sl 1 (ns .u64 (Mw.digs N)), Zv, Zv, Zv, Zv] gn rfl rfl ?_
  refine o_as (.ref 2 0) rfl (aops_end (hK8 _ (awp_seq fun K9 hK9 => awp_region rfl (o_mv (.ref 2 0) rfl (o_mv (.ref 2 0) rfl ?_)))))
  refine o_nilRef gn rfl ?_
  refine o_fieldRef 0 gn f89_ rfl rfl ?_
  refine o_loadS (.sl 1 (ns .u64 (Mw.digs q))) gn f26_ rfl rfl rfl ?_
  refine o_mv (.sl 1 (ns .u64 (Mw.digs N))) rfl ?_
  refine o_ct (c_xTimes q N (by first | omega | assumption) (by first | omega | assumption)) gn f16_ rfl ?_
  refine o_mv (Nv c) rfl ?_
  refine n_conv c gn rfl f18_ f34_ (by simp only [topOf]; omega) ?_
  refine o_ct (c_xOf c (by first | omega | assumption)) gn f15_ rfl ?_
  refine o_ct (c_xPlus (q * N) c (by first | omega | assumption) (by first | omega | assumption)) gn f30_ rfl ?_
  refine o_nilRef gn rfl ?_
  refine o_fieldRef 2 gn f90_ rfl rfl ?_
  refine o_store [(2, .var 86 [.sl 1 (ns .u64 (Mw.digs q)), .sl 1 (ns .u64 (Mw.digs N)), .sl 1 (ns .u64 (Mw.digs (q * N + c))), Zv, Zv, Zv]), (9009, (.pin [.sl 1 (ns .u64 (Mw.digs N)), (intX ((N : Nat) : Int)), (Sv (txt ((N : Nat) : Int))), Nv c, Nv q, Nv q, Nv c, (Sv (txt ((N : Nat) : Int))), Nv a, Nv k, Nv q, Nv c, (Sv (txt ((N : Nat) : Int))), Nv a, (.tup [(Nv ((txt ((q * N + c : Nat) : Int)).size)), Nv 0]), (.tup [(Nv ((txt ((q * N + c : Nat) : Int)).size)), Nv 0]), (Nv ((txt ((q * N + c : Nat) : Int)).size)), Nv 0, (Nv ((txt ((q * N + c : Nat) : Int)).size)), Nv 0, Nv 0, bp (0 ≠ 0), bp (0 ≠ 0), Nv k, Fv, Fv, Nv k, Fv, Fv, Fv, Nv a, (Nv ((txt ((q * N + c : Nat) : Int)).size)), (Nv (a * ((txt ((q * N + c : Nat) : Int)).size))), Fv, Fv] us0))] gn f91_ rfl rfl rfl rfl rfl rfl ?_
  refine aops_end (hK9 _ (awp_seq fun K10 hK10 => awp_region rfl (o_mv (.ref 2 0) rfl (o_mv (.ref 2 0) rfl (o_mv (.ref 2 0) rfl ?_)))))
  refine o_ct (c_xOf 1 (by first | omega | assumption)) gn f15_ rfl ?_
  refine o_ct (c_xOf 1 (by first | omega | assumption)) gn f15_ rfl ?_
  refine o_ct (c_xOf 1 (by first | omega | assumption)) gn f15_ rfl ?_
  refine o_nilRef gn rfl ?_
  refine o_fieldRef 3 gn f92_ rfl rfl ?_
  refine o_store [(2, .var 86 [.sl 1 (ns .u64 (Mw.digs q)), .sl 1 (ns .u64 (Mw.digs N)), .sl 1 (ns .u64 (Mw.digs (q * N + c))), .sl 1 (ns .u64 (Mw.digs 1)), Zv, Zv]), (9009, (.pin [.sl 1 (ns .u64 (Mw.digs N)), (intX ((N : Nat) : Int)), (Sv (txt ((N : Nat) : Int))), Nv c, Nv q, Nv q, Nv c, (Sv (txt ((N : Nat) : Int))), Nv a, Nv k, Nv q, Nv c, (Sv (txt ((N : Nat) : Int))), Nv a, (.tup [(Nv ((txt ((q * N + c : Nat) : Int)).size)), Nv 0]), (.tup [(Nv ((txt ((q * N + c : Nat) : Int)).size)), Nv 0]), (Nv ((txt ((q * N + c : Nat) : Int)).size)), Nv 0, (Nv ((txt ((q * N + c : Nat) : Int)).size)), Nv 0, Nv 0, bp (0 ≠ 0), bp (0 ≠ 0), Nv k, Fv, Fv, Nv k, Fv, Fv, Fv, Nv a, (Nv ((txt ((q * N + c : Nat) : Int)).size)), (Nv (a * ((txt ((q * N + c : Nat) : Int)).size))), Fv, Fv] us0))] gn f91_ rfl rfl rfl rfl rfl rfl ?_
  refine o_nilRef gn rfl ?_
  refine o_fieldRef 4 gn f93_ rfl rfl ?_
  refine o_store [(2, .var 86 [.sl 1 (ns .u64 (Mw.digs q)), .sl 1 (ns .u64 (Mw.digs N)), .sl 1 (ns .u64 (Mw.digs (q * N + c))), .sl 1 (ns .u64 (Mw.digs 1)), .sl 1 (ns .u64 (Mw.digs 1)), Zv]), (9009, (.pin [.sl 1 (ns .u64 (Mw.digs N)), (intX ((N : Nat) : Int)), (Sv (txt ((N : Nat) : Int))), Nv c, Nv q, Nv q, Nv c, (Sv (txt ((N : Nat) : Int))), Nv a, Nv k, Nv q, Nv c, (Sv (txt ((N : Nat) : Int))), Nv a, (.tup [(Nv ((txt ((q * N + c : Nat) : Int)).size)), Nv 0]), (.tup [(Nv ((txt ((q * N + c : Nat) : Int)).size)), Nv 0]), (Nv ((txt ((q * N + c : Nat) : Int)).size)), Nv 0, (Nv ((txt ((q * N + c : Nat) : Int)).size)), Nv 0, Nv 0, bp (0 ≠ 0), bp (0 ≠ 0), Nv k, Fv, Fv, Nv k, Fv, Fv, Fv, Nv a, (Nv ((txt ((q * N + c : Nat) : Int)).size)), (Nv (a * ((txt ((q * N + c : Nat) : Int)).size))), Fv, Fv] us0))] gn f91_ rfl rfl rfl rfl rfl rfl ?_
  refine o_nilRef gn rfl ?_
  refine o_fieldRef 5 gn f94_ rfl rfl ?_
  refine o_store [(2, .var 86 [.sl 1 (ns .u64 (Mw.digs q)), .sl 1 (ns .u64 (Mw.digs N)), .sl 1 (ns .u64 (Mw.digs (q * N + c))), .sl 1 (ns .u64 (Mw.digs 1)), .sl 1 (ns .u64 (Mw.digs 1)), .sl 1 (ns .u64 (Mw.digs 1))]), (9009, (.pin [.sl 1 (ns .u64 (Mw.digs N)), (intX ((N : Nat) : Int)), (Sv (txt ((N : Nat) : Int))), Nv c, Nv q, Nv q, Nv c, (Sv (txt ((N : Nat) : Int))), Nv a, Nv k, Nv q, Nv c, (Sv (txt ((N : Nat) : Int))), Nv a, (.tup [(Nv ((txt ((q * N + c : Nat) : Int)).size)), Nv 0]), (.tup [(Nv ((txt ((q * N + c : Nat) : Int)).size)), Nv 0]), (Nv ((txt ((q * N + c : Nat) : Int)).size)), Nv 0, (Nv ((txt ((q * N + c : Nat) : Int)).size)), Nv 0, Nv 0, bp (0 ≠ 0), bp (0 ≠ 0), Nv k, Fv, Fv, Nv k, Fv, Fv, Fv, Nv a, (Nv ((txt ((q * N + c : Nat) : Int)).size)), (Nv (a * ((txt ((q * N + c : Nat) : Int)).size))), Fv, Fv] us0))] gn f91_ rfl rfl rfl rfl rfl rfl ?_
  refine aops_end (hK10 _ (awp_seq fun K11 hK11 => awp_region rfl (o_mv (.ref 2 0) rfl (o_as (.ref 2 0) rfl (aops_end (hK11 _ ?_))))))
  refine awp_wk (σ' := ⟨[(6, .ref 2 0)], [(9009, (.pin [.sl 1 (ns .u64 (Mw.digs N)), (intX ((N : Nat) : Int)), (Sv (txt ((N : Nat) : Int))), Nv c, Nv q, Nv q, Nv c, (Sv (txt ((N : Nat) : Int))), Nv a, Nv k, Nv q, Nv c, (Sv (txt ((N : Nat) : Int))), Nv a, (.tup [(Nv ((txt ((q * N + c : Nat) : Int)).size)), Nv 0]), (.tup [(Nv ((txt ((q * N + c : Nat) : Int)).size)), Nv 0]), (Nv ((txt ((q * N + c : Nat) : Int)).size)), Nv 0, (Nv ((txt ((q * N + c : Nat) : Int)).size)), Nv 0, Nv 0, bp (0 ≠ 0), bp (0 ≠ 0), Nv k, Fv, Fv, Nv k, Fv, Fv, Fv, Nv a, (Nv ((txt ((q * N + c : Nat) : Int)).size)), (Nv (a * ((txt ((q * N + c : Nat) : Int)).size))), Fv, Fv] us0)), (2, .var 86 [.sl 1 (ns .u64 (Mw.digs q)), .sl 1 (ns .u64 (Mw.digs N)), .sl 1 (ns .u64 (Mw.digs (q * N + c))), .sl 1 (ns .u64 (Mw.digs 1)), .sl 1 (ns .u64 (Mw.digs 1)), .sl 1 (ns .u64 (Mw.digs 1))])]⟩) (Wk.sub ⟨rfl, trivial⟩ ⟨rfl, (by first | rfl | rfl), trivial⟩) ?_
  refine awp_ret ?_
  try dsimp only [thenK, inBlk]
  refine postS_ret (extra := []) ?_ rfl
  refine ⟨[.ref 2 0], ⟨AV.le_refl _, trivial⟩, ?_⟩
  rfl
 refine Lex.call 1 45 _ 29 [] _ _ _ _ _ [.ref 2 0, Nv a] (.ref 2 0) [(2, .var 86 [.sl 1 (ns .u64 (Mw.digs q)), .sl 1 (ns .u64 (Mw.digs N)), .sl 1 (ns .u64 (Mw.digs (q * N + c))), .sl 1 (ns .u64 (Mw.digs (q ^ a))), .sl 1 (ns .u64 (Mw.digs (N ^ a))), .sl 1 (ns .u64 (Mw.digs ((q * N + c) ^ a)))])] rfl f103_ ?_
 refine o_mv (Nv a) rfl ?_
 refine aops_end ⟨rfl, rfl, ?sc1, ?_⟩
 case sc1 =>
  refine scalls_of_awpB 9010 Try.func29 (c := _) rfl (Nat.le_of_ble_eq_true rfl) rfl rfl rfl (fun us1 => ?_)
  show awp cx 33 _ (postS cx Try.f29 (.ref 2 0) [(2, .var 86 [.sl 1 (ns .u64 (Mw.digs q)), .sl 1 (ns .u64 (Mw.digs N)), .sl 1 (ns .u64 (Mw.digs (q * N + c))), .sl 1 (ns .u64 (Mw.digs (q ^ a))), .sl 1 (ns .u64 (Mw.digs (N ^ a))), .sl 1 (ns .u64 (Mw.digs ((q * N + c) ^ a)))])] 9010 [Nv a, .ref 2 0, .sl 1 (ns .u64 (Mw.digs N)), (intX ((N : Nat) : Int)), (Sv (txt ((N : Nat) : Int))), Nv c, Nv q, Nv q, Nv c, (Sv (txt ((N : Nat) : Int))), Nv a, Nv k, Nv q, Nv c, (Sv (txt ((N : Nat) : Int))), Nv a, (.tup [(Nv ((txt ((q * N + c : Nat) : Int)).size)), Nv 0]), (.tup [(Nv ((txt ((q * N + c : Nat) : Int)).size)), Nv 0]), (Nv ((txt ((q * N + c : Nat) : Int)).size)), Nv 0, (Nv ((txt ((q * N + c : Nat) : Int)).size)), Nv 0, Nv 0, bp (0 ≠ 0), bp (0 ≠ 0), Nv k, Fv, Fv, Nv k, Fv, Fv, Fv, Nv a, (Nv ((txt ((q * N + c : Nat) : Int)).size)), (Nv (a * ((txt ((q * N + c : Nat) : Int)).size))), Fv, Fv] us1) ⟨[(0, .ref 2 0), (1, Nv a)], [(9010, (.pin [Nv a, .ref 2 0, .sl 1 (ns .u64 (Mw.digs N)), (intX ((N : Nat) : Int)), (Sv (txt ((N : Nat) : Int))), Nv c, Nv q, Nv q, Nv c, (Sv (txt ((N : Nat) : Int))), Nv a, Nv k, Nv q, Nv c, (Sv (txt ((N : Nat) : Int))), Nv a, (.tup [(Nv ((txt ((q * N + c : Nat) : Int)).size)), Nv 0]), (.tup [(Nv ((txt ((q * N + c : Nat) : Int)).size)), Nv 0]), (Nv ((txt ((q * N + c : Nat) : Int)).size)), Nv 0, (Nv ((txt ((q * N + c : Nat) : Int)).size)), Nv 0, Nv 0, bp (0 ≠ 0), bp (0 ≠ 0), Nv k, Fv, Fv, Nv k, Fv, Fv, Fv, Nv a, (Nv ((txt ((q * N + c : Nat) : Int)).size)), (Nv (a * ((txt ((q * N + c : Nat) : Int)).size))), Fv, Fv] us1)), (2, .var 86 [.sl 1 (ns .u64 (Mw.digs q)), .sl 1 (ns .u64 (Mw.digs N)), .sl 1 (ns .u64 (Mw.digs (q * N + c))), .sl 1 (ns .u64 (Mw.digs 1)), .sl 1 (ns .u64 (Mw.digs 1)), .sl 1 (ns .u64 (Mw.digs 1))])]⟩
  refine awp_seq fun K12 hK12 => awp_region rfl (o_as (.lit (Go.Value.pointer none)) rfl (aops_end (hK12 _ (awp_seq fun K13 hK13 => awp_regionD rfl (o_mv (.ref 2 0) rfl (o_mv (.ref 2 0) rfl (o_mv (.ref 2 0) rfl (o_mv (.ref 2 0) rfl ?_))))))))
  refine o_nilRef gn rfl ?_
  refine o_fieldRef 0 gn f89_ rfl rfl ?_
  refine o_loadS (.sl 1 (ns .u64 (Mw.digs q))) gn f26_ rfl rfl rfl ?_
  refine o_mv (Nv a) rfl ?_
  refine o_ct (c_xPower q a (by omega) (by first | omega | assumption) (by first | omega | assumption)) gn f104_ rfl ?_
  refine o_mv (.ref 2 0) rfl ?_
  refine o_nilRef gn rfl ?_
  refine o_fieldRef 1 gn f98_ rfl rfl ?_
  refine o_loadS (.sl 1 (ns .u64 (Mw.digs N))) gn f26_ rfl rfl rfl ?_
  refine o_mv (Nv a) rfl ?_
  refine o_ct (c_xPower N a (by omega) (by first | omega | assumption) (by first | omega | assumption)) gn f104_ rfl ?_
  refine o_mv (.ref 2 0) rfl ?_
  refine o_nilRef gn rfl ?_
  refine o_fieldRef 2 gn f90_ rfl rfl ?_
  refine o_loadS (.sl 1 (ns .u64 (Mw.digs (q * N + c)))) gn f26_ rfl rfl rfl ?_
  refine o_mv (Nv a) rfl ?_
  refine o_ct (c_xPower (q * N + c) a (by omega) (by first | omega | assumption) (by first | omega | assumption)) gn f104_ rfl ?_
  refine o_nilRef gn rfl ?_
  refine o_fieldRef 3 gn f92_ rfl rfl ?_
  refine o_store [(9010, (.pin [Nv a, .ref 2 0, .sl 1 (ns .u64 (Mw.digs N)), (intX ((N : Nat) : Int)), (Sv (txt ((N : Nat) : Int))), Nv c, Nv q, Nv q, Nv c, (Sv (txt ((N : Nat) : Int))), Nv a, Nv k, Nv q, Nv c, (Sv (txt ((N : Nat) : Int))), Nv a, (.tup [(Nv ((txt ((q * N + c : Nat) : Int)).size)), Nv 0]), (.tup [(Nv ((txt ((q * N + c : Nat) : Int)).size)), Nv 0]), (Nv ((txt ((q * N + c : Nat) : Int)).size)), Nv 0, (Nv ((txt ((q * N + c : Nat) : Int)).size)), Nv 0, Nv 0, bp (0 ≠ 0), bp (0 ≠ 0), Nv k, Fv, Fv, Nv k, Fv, Fv, Fv, Nv a, (Nv ((txt ((q * N + c : Nat) : Int)).size)), (Nv (a * ((txt ((q * N + c : Nat) : Int)).size))), Fv, Fv] us1)), (2, .var 86 [.sl 1 (ns .u64 (Mw.digs q)), .sl 1 (ns .u64 (Mw.digs N)), .sl 1 (ns .u64 (Mw.digs (q * N + c))), .sl 1 (ns .u64 (Mw.digs (q ^ a))), .sl 1 (ns .u64 (Mw.digs 1)), .sl 1 (ns .u64 (Mw.digs 1))])] gn f91_ rfl rfl rfl rfl rfl rfl ?_
  refine o_nilRef gn rfl ?_
  refine o_fieldRef 4 gn f93_ rfl rfl ?_
  refine o_store [(9010, (.pin [Nv a, .ref 2 0, .sl 1 (ns .u64 (Mw.digs N)), (intX ((N : Nat) : Int)), (Sv (txt ((N : Nat) : Int))), Nv c, Nv q, Nv q, Nv c, (Sv (txt ((N : Nat) : Int))), Nv a, Nv k, Nv q, Nv c, (Sv (txt ((N : Nat) : Int))), Nv a, (.tup [(Nv ((txt ((q * N + c : Nat) : Int)).size)), Nv 0]), (.tup [(Nv ((txt ((q * N + c : Nat) : Int)).size)), Nv 0]), (Nv ((txt ((q * N + c : Nat) : Int)).size)), Nv 0, (Nv ((txt ((q * N + c : Nat) : Int)).size)), Nv 0, Nv 0, bp (0 ≠ 0), bp (0 ≠ 0), Nv k, Fv, Fv, Nv k, Fv, Fv, Fv, Nv a, (Nv ((txt ((q * N + c : Nat) : Int)).size)), (Nv (a * ((txt ((q * N + c : Nat) : Int)).size))), Fv, Fv] us1)), (2, .var 86 [.sl 1 (ns .u64 (Mw.digs q)), .sl 1 (ns .u64 (Mw.digs N)), .sl 1 (ns .u64 (Mw.digs (q * N + c))), .sl 1 (ns .u64 (Mw.digs (q ^ a))), .sl 1 (ns .u64 (Mw.digs (N ^ a))), .sl 1 (ns .u64 (Mw.digs 1))])] gn f91_ rfl rfl rfl rfl rfl rfl ?_
  refine o_nilRef gn rfl ?_
  refine o_fieldRef 5 gn f94_ rfl rfl ?_
  refine o_store [(9010, (.pin [Nv a, .ref 2 0, .sl 1 (ns .u64 (Mw.digs N)), (intX ((N : Nat) : Int)), (Sv (txt ((N : Nat) : Int))), Nv c, Nv q, Nv q, Nv c, (Sv (txt ((N : Nat) : Int))), Nv a, Nv k, Nv q, Nv c, (Sv (txt ((N : Nat) : Int))), Nv a, (.tup [(Nv ((txt ((q * N + c : Nat) : Int)).size)), Nv 0]), (.tup [(Nv ((txt ((q * N + c : Nat) : Int)).size)), Nv 0]), (Nv ((txt ((q * N + c : Nat) : Int)).size)), Nv 0, (Nv ((txt ((q * N + c : Nat) : Int)).size)), Nv 0, Nv 0, bp (0 ≠ 0), bp (0 ≠ 0), Nv k, Fv, Fv, Nv k, Fv, Fv, Fv, Nv a, (Nv ((txt ((q * N + c : Nat) : Int)).size)), (Nv (a * ((txt ((q * N + c : Nat) : Int)).size))), Fv, Fv] us1)), (2, .var 86 [.sl 1 (ns .u64 (Mw.digs q)), .sl 1 (ns .u64 (Mw.digs N)), .sl 1 (ns .u64 (Mw.digs (q * N + c))), .sl 1 (ns .u64 (Mw.digs (q ^ a))), .sl 1 (ns .u64 (Mw.digs (N ^ a))), .sl 1 (ns .u64 (Mw.digs ((q * N + c) ^ a)))])] gn f91_ rfl rfl rfl rfl rfl rfl ?_
  refine aops_end ⟨by kernel_rfl, ?_⟩
  refine hK13 _ (awp_seq fun K14 hK14 => awp_region rfl (o_mv (.ref 2 0) rfl (o_as (.ref 2 0) rfl (aops_end (hK14 _ ?_)))))
  refine awp_wk (σ' := ⟨[(4, .ref 2 0)], [(9010, (.pin [Nv a, .ref 2 0, .sl 1 (ns .u64 (Mw.digs N)), (intX ((N : Nat) : Int)), (Sv (txt ((N : Nat) : Int))), Nv c, Nv q, Nv q, Nv c, (Sv (txt ((N : Nat) : Int))), Nv a, Nv k, Nv q, Nv c, (Sv (txt ((N : Nat) : Int))), Nv a, (.tup [(Nv ((txt ((q * N + c : Nat) : Int)).size)), Nv 0]), (.tup [(Nv ((txt ((q * N + c : Nat) : Int)).size)), Nv 0]), (Nv ((txt ((q * N + c : Nat) : Int)).size)), Nv 0, (Nv ((txt ((q * N + c : Nat) : Int)).size)), Nv 0, Nv 0, bp (0 ≠ 0), bp (0 ≠ 0), Nv k, Fv, Fv, Nv k, Fv, Fv, Fv, Nv a, (Nv ((txt ((q * N + c : Nat) : Int)).size)), (Nv (a * ((txt ((q * N + c : Nat) : Int)).size))), Fv, Fv] us1)), (2, .var 86 [.sl 1 (ns .u64 (Mw.digs q)), .sl 1 (ns .u64 (Mw.digs N)), .sl 1 (ns .u64 (Mw.digs (q * N + c))), .sl 1 (ns .u64 (Mw.digs (q ^ a))), .sl 1 (ns .u64 (Mw.digs (N ^ a))), .sl 1 (ns .u64 (Mw.digs ((q * N + c) ^ a)))])]⟩) (Wk.sub ⟨rfl, trivial⟩ ⟨rfl, rfl, trivial⟩) ?_
  refine awp_ret ?_
  try dsimp only [thenK, inBlk]
  refine postS_ret (extra := []) ?_ rfl
  refine ⟨[.ref 2 0], ⟨AV.le_refl _, trivial⟩, ?_⟩
  rfl
 refine Lex.call 1 47 _ 30 [] _ _ _ _ _ [.ref 2 0, Nv k] (bp (FitB q c N a k)) [(2, .var 86 [.sl 1 (ns .u64 (Mw.digs q)), .sl 1 (ns .u64 (Mw.digs N)), .sl 1 (ns .u64 (Mw.digs (q * N + c))), .sl 1 (ns .u64 (Mw.digs (q ^ a))), .sl 1 (ns .u64 (Mw.digs (N ^ a))), .sl 1 (ns .u64 (Mw.digs ((q * N + c) ^ a)))])] rfl f101_ ?_
 refine o_mv (Nv k) rfl ?_
 refine aops_end ⟨rfl, rfl, ?sc2, ?_⟩
 case sc2 =>
  refine scalls_of_awpB 9011 Try.func30 (c := _) rfl (Nat.le_of_ble_eq_true rfl) rfl rfl rfl (fun us2 => ?_)
  show awp cx 26 _ (postS cx Try.f30 (bp (FitB q c N a k)) [(2, .var 86 [.sl 1 (ns .u64 (Mw.digs q)), .sl 1 (ns .u64 (Mw.digs N)), .sl 1 (ns .u64 (Mw.digs (q * N + c))), .sl 1 (ns .u64 (Mw.digs (q ^ a))), .sl 1 (ns .u64 (Mw.digs (N ^ a))), .sl 1 (ns .u64 (Mw.digs ((q * N + c) ^ a)))])] 9011 [Nv k, .ref 2 0, Nv a, .ref 2 0, .sl 1 (ns .u64 (Mw.digs N)), (intX ((N : Nat) : Int)), (Sv (txt ((N : Nat) : Int))), Nv c, Nv q, Nv q, Nv c, (Sv (txt ((N : Nat) : Int))), Nv a, Nv k, Nv q, Nv c, (Sv (txt ((N : Nat) : Int))), Nv a, (.tup [(Nv ((txt ((q * N + c : Nat) : Int)).size)), Nv 0]), (.tup [(Nv ((txt ((q * N + c : Nat) : Int)).size)), Nv 0]), (Nv ((txt ((q * N + c : Nat) : Int)).size)), Nv 0, (Nv ((txt ((q * N + c : Nat) : Int)).size)), Nv 0, Nv 0, bp (0 ≠ 0), bp (0 ≠ 0), Nv k, Fv, Fv, Nv k, Fv, Fv, Fv, Nv a, (Nv ((txt ((q * N + c : Nat) : Int)).size)), (Nv (a * ((txt ((q * N + c : Nat) : Int)).size))), Fv, Fv] us2) ⟨[(0, .ref 2 0), (1, Nv k)], [(9011, (.pin [Nv k, .ref 2 0, Nv a, .ref 2 0, .sl 1 (ns .u64 (Mw.digs N)), (intX ((N : Nat) : Int)), (Sv (txt ((N : Nat) : Int))), Nv c, Nv q, Nv q, Nv c, (Sv (txt ((N : Nat) : Int))), Nv a, Nv k, Nv q, Nv c, (Sv (txt ((N : Nat) : Int))), Nv a, (.tup [(Nv ((txt ((q * N + c : Nat) : Int)).size)), Nv 0]), (.tup [(Nv ((txt ((q * N + c : Nat) : Int)).size)), Nv 0]), (Nv ((txt ((q * N + c : Nat) : Int)).size)), Nv 0, (Nv ((txt ((q * N + c : Nat) : Int)).size)), Nv 0, Nv 0, bp (0 ≠ 0), bp (0 ≠ 0), Nv k, Fv, Fv, Nv k, Fv, Fv, Fv, Nv a, (Nv ((txt ((q * N + c : Nat) : Int)).size)), (Nv (a * ((txt ((q * N + c : Nat) : Int)).size))), Fv, Fv] us2)), (2, .var 86 [.sl 1 (ns .u64 (Mw.digs q)), .sl 1 (ns .u64 (Mw.digs N)), .sl 1 (ns .u64 (Mw.digs (q * N + c))), .sl 1 (ns .u64 (Mw.digs (q ^ a))), .sl 1 (ns .u64 (Mw.digs (N ^ a))), .sl 1 (ns .u64 (Mw.digs ((q * N + c) ^ a)))])]⟩
  refine awp_seq fun K15 hK15 => awp_region rfl (o_as Fv rfl (aops_end (hK15 _ (awp_seq fun K16 hK16 => awp_regionD rfl (o_mv (.ref 2 0) rfl ?_)))))
  refine o_nilRef gn rfl ?_
  refine o_fieldRef 3 gn f92_ rfl rfl ?_
  refine o_loadS (.sl 1 (ns .u64 (Mw.digs (q ^ a)))) gn f26_ rfl rfl rfl ?_
  refine o_ct (c_xBits (q ^ a) (by first | omega | assumption)) gn f100_ rfl ?_
  refine o_mv (Nv k) rfl ?_
  refine n_leq (Mw.bits (q ^ a)) k gn rfl rfl ?_
  refine o_mv (bp ((Mw.bits (q ^ a)) ≤ k)) rfl ?_
  refine o_splitP (q := (Mw.bits (q ^ a)) ≤ k) 12 rfl (fun h1 => ?_) (fun h1 => ?_)
  ·refine o_move (.ref 2 0) (Gd.yes rfl rfl (decide_eq_true h1)) rfl ?_
   refine o_nilRef (Gd.yes rfl rfl (decide_eq_true h1)) rfl ?_
   refine o_fieldRef 4 (Gd.yes rfl rfl (decide_eq_true h1)) f93_ rfl rfl ?_
   refine o_loadS (.sl 1 (ns .u64 (Mw.digs (N ^ a)))) (Gd.yes rfl rfl (decide_eq_true h1)) f26_ rfl rfl rfl ?_
   refine o_move (Nv k) (Gd.yes rfl rfl (decide_eq_true h1)) rfl ?_
   refine o_ct (c_xUp (N ^ a) k (by first | omega | assumption) (by first | omega | assumption)) (Gd.yes rfl rfl (decide_eq_true h1)) f102_ rfl ?_
   refine o_move (.ref 2 0) (Gd.yes rfl rfl (decide_eq_true h1)) rfl ?_
   refine o_nilRef (Gd.yes rfl rfl (decide_eq_true h1)) rfl ?_
   refine o_fieldRef 5 (Gd.yes rfl rfl (decide_eq_true h1)) f94_ rfl rfl ?_
   refine o_loadS (.sl 1 (ns .u64 (Mw.digs ((q * N + c) ^ a)))) (Gd.yes rfl rfl (decide_eq_true h1)) f26_ rfl rfl rfl ?_
   refine o_ct (c_xCmp (N ^ a * 2 ^ k) ((q * N + c) ^ a) (by first | omega | assumption) (by first | omega | assumption)) (Gd.yes rfl rfl (decide_eq_true h1)) f32_ rfl ?_
   refine o_leq (a := (cmpN (N ^ a * 2 ^ k) ((q * N + c) ^ a))) (c := ((0 : Nat) : Int)) (Gd.yes rfl rfl (decide_eq_true h1)) rfl rfl ?_
   refine o_pickT (bp ((cmpN (N ^ a * 2 ^ k) ((q * N + c) ^ a)) ≤ ((0 : Nat) : Int))) gn rfl (decide_eq_true h1) rfl ?_
   refine o_as (bp ((cmpN (N ^ a * 2 ^ k) ((q * N + c) ^ a)) ≤ ((0 : Nat) : Int))) rfl ?_
   refine aops_end ⟨by kernel_rfl, ?_⟩
   refine hK16 _ ?_
   refine awp_wk (σ' := ⟨[(4, (bp ((cmpN (N ^ a * 2 ^ k) ((q * N + c) ^ a)) ≤ ((0 : Nat) : Int))))], [(9011, (.pin [Nv k, .ref 2 0, Nv a, .ref 2 0, .sl 1 (ns .u64 (Mw.digs N)), (intX ((N : Nat) : Int)), (Sv (txt ((N : Nat) : Int))), Nv c, Nv q, Nv q, Nv c, (Sv (txt ((N : Nat) : Int))), Nv a, Nv k, Nv q, Nv c, (Sv (txt ((N : Nat) : Int))), Nv a, (.tup [(Nv ((txt ((q * N + c : Nat) : Int)).size)), Nv 0]), (.tup [(Nv ((txt ((q * N + c : Nat) : Int)).size)), Nv 0]), (Nv ((txt ((q * N + c : Nat) : Int)).size)), Nv 0, (Nv ((txt ((q * N + c : Nat) : Int)).size)), Nv 0, Nv 0, bp (0 ≠ 0), bp (0 ≠ 0), Nv k, Fv, Fv, Nv k, Fv, Fv, Fv, Nv a, (Nv ((txt ((q * N + c : Nat) : Int)).size)), (Nv (a * ((txt ((q * N + c : Nat) : Int)).size))), Fv, Fv] us2)), (2, .var 86 [.sl 1 (ns .u64 (Mw.digs q)), .sl 1 (ns .u64 (Mw.digs N)), .sl 1 (ns .u64 (Mw.digs (q * N + c))), .sl 1 (ns .u64 (Mw.digs (q ^ a))), .sl 1 (ns .u64 (Mw.digs (N ^ a))), .sl 1 (ns .u64 (Mw.digs ((q * N + c) ^ a)))])]⟩) (Wk.sub ⟨rfl, trivial⟩ ⟨rfl, rfl, trivial⟩) ?_
   refine awp_ret ?_
   try dsimp only [thenK, inBlk]
   refine postS_ret (extra := []) ?_ rfl
   refine ⟨[(bp ((cmpN (N ^ a * 2 ^ k) ((q * N + c) ^ a)) ≤ ((0 : Nat) : Int)))], ⟨AV.le_refl _, trivial⟩, ?_⟩
   have key : ∀ x y : Nat, (cmpN x y ≤ ((0 : Nat) : Int)) ↔ x ≤ y := fun x y => by unfold cmpN; constructor <;> intro h <;> (repeat' split at h) <;> (repeat' split) <;> omega
   exact bp_congr ⟨fun h => (key _ _).2 h.2, fun h => ⟨Mw.bits_le.1 (by assumption), (key _ _).1 h⟩⟩
  ·refine o_skip rfl rfl (decide_eq_false h1) (o_skip rfl rfl (decide_eq_false h1) (o_skip rfl rfl (decide_eq_false h1) (o_skip rfl rfl (decide_eq_false h1) (o_skip rfl rfl (decide_eq_false h1) (o_skip rfl rfl (decide_eq_false h1) (o_skip rfl rfl (decide_eq_false h1) (o_skip rfl rfl (decide_eq_false h1) (o_skip rfl rfl (decide_eq_false h1) (o_skip rfl rfl (decide_eq_false h1) (o_skip rfl rfl (decide_eq_false h1) (o_skip rfl rfl (decide_eq_false h1) ?_)))))))))))
   refine o_pickF Fv gn rfl (decide_eq_false h1) rfl ?_
   refine o_as Fv rfl ?_
   refine aops_end ⟨by kernel_rfl, ?_⟩
   refine hK16 _ ?_
   refine awp_wk (σ' := ⟨[(4, Fv)], [(9011, (.pin [Nv k, .ref 2 0, Nv a, .ref 2 0, .sl 1 (ns .u64 (Mw.digs N)), (intX ((N : Nat) : Int)), (Sv (txt ((N : Nat) : Int))), Nv c, Nv q, Nv q, Nv c, (Sv (txt ((N : Nat) : Int))), Nv a, Nv k, Nv q, Nv c, (Sv (txt ((N : Nat) : Int))), Nv a, (.tup [(Nv ((txt ((q * N + c : Nat) : Int)).size)), Nv 0]), (.tup [(Nv ((txt ((q * N + c : Nat) : Int)).size)), Nv 0]), (Nv ((txt ((q * N + c : Nat) : Int)).size)), Nv 0, (Nv ((txt ((q * N + c : Nat) : Int)).size)), Nv 0, Nv 0, bp (0 ≠ 0), bp (0 ≠ 0), Nv k, Fv, Fv, Nv k, Fv, Fv, Fv, Nv a, (Nv ((txt ((q * N + c : Nat) : Int)).size)), (Nv (a * ((txt ((q * N + c : Nat) : Int)).size))), Fv, Fv] us2)), (2, .var 86 [.sl 1 (ns .u64 (Mw.digs q)), .sl 1 (ns .u64 (Mw.digs N)), .sl 1 (ns .u64 (Mw.digs (q * N + c))), .sl 1 (ns .u64 (Mw.digs (q ^ a))), .sl 1 (ns .u64 (Mw.digs (N ^ a))), .sl 1 (ns .u64 (Mw.digs ((q * N + c) ^ a)))])]⟩) (Wk.sub ⟨rfl, trivial⟩ ⟨rfl, rfl, trivial⟩) ?_
   refine awp_ret ?_
   try dsimp only [thenK, inBlk]
   refine postS_ret (extra := []) ?_ rfl
   refine ⟨[Fv], ⟨AV.le_refl _, trivial⟩, ?_⟩
   exact bp6n (fun e => absurd (Mw.bits_le.2 e.1) (by assumption))
 refine Lex.fin ?_
 refine o_as (bp (FitB q c N a k)) rfl (o_as (Nv 0) rfl (aops_end (hK6 _ ?_)))
 refine awp_ret ?_
 refine post_ret ⟨[bp (FitB q c N a k), Nv 0], ⟨AV.le_refl _, AV.le_refl _, trivial⟩, rfl, ?_⟩
 rfl

end Go.Proofs.Ytaeknciienkijaa

namespace Go.Ab
theorem Wk.cells {C : Ctx} {n : Nat} {σ : St} {i ty : Nat} {cs cs' : List AV} (hs : lookO σ.objs i = some (.var ty cs)) (hl : LeL cs cs') : Wk C n σ ⟨σ.slots, (i, .var ty cs') :: σ.objs⟩ := fun w0 H L a w hr => by
 have conv : ∀ j o, lookO ((i, .var ty cs') :: σ.objs) j = some o → (j = i ∧ o = .var ty cs') ∨ (j ≠ i ∧ σ.sem.μ j = some o) := fun j o ho => by
  simp only [lookO] at ho
  by_cases h2 : j = i
  ·subst h2
   simp at ho
   exact .inl ⟨rfl, ho.symm⟩
  ·rw [beq_ne (fun e => h2 e.symm)] at ho
   exact .inr ⟨h2, ho⟩
 have hi0 := hr.objs i (.var ty cs) hs
 refine ⟨H, L, Ext.refl _ _, ⟨hr.glob, hr.heap, hr.size, hr.slot, fun j o ho => ?_, fun j k o o' g x x' hjk hj hk => ?_, hr.below, hr.defers⟩⟩
 ·rcases conv j o ho with ⟨rfl, rfl⟩ | ⟨h1, h2⟩
  ·obtain ⟨g, vs, a1, a2, a3, a4, a5, a6⟩ := hi0
   exact ⟨g, vs, a1, a2, hl.rep a3, a4, a5, a6⟩
  ·exact hr.objs j o h2
 ·have conv' : ∀ j o, lookO ((i, .var ty cs') :: σ.objs) j = some o → ∃ o', σ.sem.μ j = some o' := fun j o ho => by
   rcases conv j o ho with ⟨rfl, rfl⟩ | ⟨h1, h2⟩
   ·exact ⟨_, hs⟩
   ·exact ⟨_, h2⟩
  obtain ⟨o1, h1⟩ := conv' j o hj
  obtain ⟨o2, h2⟩ := conv' k o' hk
  exact hr.apart j k o1 o2 g x x' hjk h1 h2
end Go.Ab
namespace Go.Mth
open Go.Ab
def gC (a b : Nat) : Prop := ((digs a).getD ((digs a).length - 1) 0) ≤ ((digs b).getD ((digs b).length - 1) 0) ∧ 0 < (digs a).length - (digs b).length
instance (a b : Nat) : Decidable (gC a b) := inferInstanceAs (Decidable ((digs a).getD ((digs a).length - 1) 0 ≤ ((digs b).getD ((digs b).length - 1) 0) ∧ 0 < (digs a).length - (digs b).length))
def gSh (a b : Nat) : Nat := if gC a b then (digs a).length - (digs b).length - 1 else (digs a).length - (digs b).length
def gTop (a b : Nat) : Nat := if gC a b then ((digs a).getD ((digs a).length - 1) 0) * 1000000000 + (digs a).getD ((digs a).length - 2) 0 else ((digs a).getD ((digs a).length - 1) 0)
def gQ (a b : Nat) : Nat := max (gTop a b / ((digs b).getD ((digs b).length - 1) 0 + 1)) 1
def guessN (a b : Nat) : Nat := 1000000000 ^ gSh a b * gQ a b
end Go.Mth

namespace Go.Proofs.Ytaeknciienkijaa
open Go Go.Ab Go.Mth
end Go.Proofs.Ytaeknciienkijaa

namespace Go.Proofs.Ytaeknciienkijaa
open Go Go.Ab Go.Mth
end Go.Proofs.Ytaeknciienkijaa

