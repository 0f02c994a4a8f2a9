/- What the proof of a row of this seat leans on (part 4 of 6): a library of abstract values, walks of functions, and plain laws. -/
import Derived.Shelf.Spec.SlicesInsertGrow
import Derived.Laws.StructEq
import Derived.Test.YtaeknciienkijaaGreatDoorPkTopFivec
set_option linter.unusedVariables false
set_option linter.unusedSimpArgs false
namespace Go.Proofs.YtaeknciienkijaaGreatDoor
open Go Go.Ab Go.Mth
theorem f69_ : callable cx.P 73 = true := by kernel_rfl
theorem f70_ : callable cx.P 69 = true := by kernel_rfl
theorem c_sValid (m : MapM) : ECalls cx 12 [mapV m] (.lit (.bool (okM m))) := by
 refine ecalls_of_awp Tryz.func12 (c := _) rfl (Nat.le_of_ble_eq_true rfl) ?_
 show awp cx 83 _ (postF cx Tryz.f12 _) ⟨[(0, mapV m)], []⟩
 refine awp_seq fun K0 hK0 => awp_region rfl ?_
 refine o_box 2 [Iv m.mod, Lv m.mul, Lv m.add] gn rfl rfl ?_
 refine o_as Fv rfl (aops_end (hK0 _ (awp_seq fun K1 hK1 => awp_seq fun K2 hK2 => awp_region rfl ?_)))
 refine o_fieldRef 0 gn f62_ rfl rfl ?_
 refine o_loadS (Iv m.mod) gn f11_ rfl rfl rfl ?_
 refine o_lss (a := m.mod) (c := ((2 : Nat) : Int)) gn rfl rfl ?_
 refine o_mv (bp (m.mod < ((2 : Nat) : Int))) rfl ?_
 refine o_splitP (q := m.mod < ((2 : Nat) : Int)) 7 rfl (fun h1 => ?_) (fun h1 => ?_)
 ·refine o_skip rfl rfl (decide_eq_true h1) (o_skip rfl rfl (decide_eq_true h1) (o_skip rfl rfl (decide_eq_true h1) ?_))
  refine o_pickT Tv gn rfl (decide_eq_true h1) rfl ?_
  refine o_mv Tv rfl (o_skip rfl rfl rfl (o_skip rfl rfl rfl (o_skip rfl rfl rfl (o_skip rfl rfl rfl (o_skip rfl rfl rfl (o_skip rfl rfl rfl ?_))))))
  refine o_pickT Tv gn rfl rfl rfl ?_
  refine o_mv Tv rfl (o_skip rfl rfl rfl (o_skip rfl rfl rfl (o_skip rfl rfl rfl (o_skip rfl rfl rfl (o_skip rfl rfl rfl (o_skip rfl rfl rfl ?_))))))
  refine o_pickT Tv gn rfl rfl rfl ?_
  refine aops_end (hK2 _ ?_)
  refine awp_condB (b := true) rfl (fun _ => ?_) (fun hh => absurd (hh.symm.trans rfl) (by decide))
  refine awp_seq fun K3 hK3 => awp_region rfl (o_as Fv rfl (aops_end (hK3 _ ?_)))
  refine awp_ret ?_
  refine post_ret ⟨[Fv], ⟨AV.le_refl _, trivial⟩, rfl, ?_⟩
  refine bl_eq (okM_no fun h => ?_)
  obtain ⟨o1, o2, o3, o4, o5⟩ := h
  first | omega | (have := o5 r (by omega); omega)
 ·refine o_fieldRef 0 (Gd.yes rfl rfl (decide_eq_false h1)) f62_ rfl rfl ?_
  refine o_loadS (Iv m.mod) (Gd.yes rfl rfl (decide_eq_false h1)) f11_ rfl rfl rfl ?_
  refine o_gtr (a := m.mod) (c := ((12 : Nat) : Int)) (Gd.yes rfl rfl (decide_eq_false h1)) rfl rfl ?_
  refine o_pickF (bp (((12 : Nat) : Int) < m.mod)) gn rfl (decide_eq_false h1) rfl ?_
  refine o_mv (bp (((12 : Nat) : Int) < m.mod)) rfl ?_
  refine o_splitP (q := ((12 : Nat) : Int) < m.mod) 12 rfl (fun h2 => ?_) (fun h2 => ?_)
  ·refine o_skip rfl rfl (decide_eq_true h2) (o_skip rfl rfl (decide_eq_true h2) (o_skip rfl rfl (decide_eq_true h2) (o_skip rfl rfl (decide_eq_true h2) (o_skip rfl rfl (decide_eq_true h2) (o_skip rfl rfl (decide_eq_true h2) ?_)))))
   refine o_pickT Tv gn rfl (decide_eq_true h2) rfl ?_
   refine o_mv Tv rfl (o_skip rfl rfl rfl (o_skip rfl rfl rfl (o_skip rfl rfl rfl (o_skip rfl rfl rfl (o_skip rfl rfl rfl (o_skip rfl rfl rfl ?_))))))
   refine o_pickT Tv gn rfl rfl rfl ?_
   refine aops_end (hK2 _ ?_)
   refine awp_condB (b := true) rfl (fun _ => ?_) (fun hh => absurd (hh.symm.trans rfl) (by decide))
   refine awp_seq fun K4 hK4 => awp_region rfl (o_as Fv rfl (aops_end (hK4 _ ?_)))
   refine awp_ret ?_
   refine post_ret ⟨[Fv], ⟨AV.le_refl _, trivial⟩, rfl, ?_⟩
   refine bl_eq (okM_no fun h => ?_)
   obtain ⟨o1, o2, o3, o4, o5⟩ := h
   first | omega | (have := o5 r (by omega); omega)
  ·refine o_fieldRef 1 (Gd.yes rfl rfl (decide_eq_false h2)) f66_ rfl rfl ?_
   refine o_loadS (Lv m.mul) (Gd.yes rfl rfl (decide_eq_false h2)) f1_ rfl rfl rfl ?_
   refine i_len m.mul (Gd.yes rfl rfl (decide_eq_false h2)) f2_ rfl ?_
   refine o_fieldRef 0 (Gd.yes rfl rfl (decide_eq_false h2)) f62_ rfl rfl ?_
   refine o_loadS (Iv m.mod) (Gd.yes rfl rfl (decide_eq_false h2)) f11_ rfl rfl rfl ?_
   refine o_neq (a := (((m.mul).length : Nat) : Int)) (c := m.mod) (Gd.yes rfl rfl (decide_eq_false h2)) rfl rfl ?_
   refine o_pickF (bp ((((m.mul).length : Nat) : Int) ≠ m.mod)) gn rfl (decide_eq_false h2) rfl ?_
   refine o_mv (bp ((((m.mul).length : Nat) : Int) ≠ m.mod)) rfl ?_
   refine o_splitP (q := (((m.mul).length : Nat) : Int) ≠ m.mod) 20 rfl (fun h3 => ?_) (fun h3 => ?_)
   ·refine o_skip rfl rfl (decide_eq_true h3) (o_skip rfl rfl (decide_eq_true h3) (o_skip rfl rfl (decide_eq_true h3) (o_skip rfl rfl (decide_eq_true h3) (o_skip rfl rfl (decide_eq_true h3) (o_skip rfl rfl (decide_eq_true h3) ?_)))))
    refine o_pickT Tv gn rfl (decide_eq_true h3) rfl ?_
    refine aops_end (hK2 _ ?_)
    refine awp_condB (b := true) rfl (fun _ => ?_) (fun hh => absurd (hh.symm.trans rfl) (by decide))
    refine awp_seq fun K5 hK5 => awp_region rfl (o_as Fv rfl (aops_end (hK5 _ ?_)))
    refine awp_ret ?_
    refine post_ret ⟨[Fv], ⟨AV.le_refl _, trivial⟩, rfl, ?_⟩
    refine bl_eq (okM_no fun h => ?_)
    obtain ⟨o1, o2, o3, o4, o5⟩ := h
    first | omega | (have := o5 r (by omega); omega)
   ·refine o_fieldRef 2 (Gd.yes rfl rfl (decide_eq_false h3)) f68_ rfl rfl ?_
    refine o_loadS (Lv m.add) (Gd.yes rfl rfl (decide_eq_false h3)) f1_ rfl rfl rfl ?_
    refine i_len m.add (Gd.yes rfl rfl (decide_eq_false h3)) f2_ rfl ?_
    refine o_fieldRef 0 (Gd.yes rfl rfl (decide_eq_false h3)) f62_ rfl rfl ?_
    refine o_loadS (Iv m.mod) (Gd.yes rfl rfl (decide_eq_false h3)) f11_ rfl rfl rfl ?_
    refine o_neq (a := (((m.add).length : Nat) : Int)) (c := m.mod) (Gd.yes rfl rfl (decide_eq_false h3)) rfl rfl ?_
    refine o_pickF (bp ((((m.add).length : Nat) : Int) ≠ m.mod)) gn rfl (decide_eq_false h3) rfl ?_
    refine aops_end (hK2 _ ?_)
    refine awp_condQ (q := (((m.add).length : Nat) : Int) ≠ m.mod) rfl (fun h4 => ?_) (fun h4 => ?_)
    ·refine awp_seq fun K6 hK6 => awp_region rfl (o_as Fv rfl (aops_end (hK6 _ ?_)))
     refine awp_ret ?_
     refine post_ret ⟨[Fv], ⟨AV.le_refl _, trivial⟩, rfl, ?_⟩
     refine bl_eq (okM_no fun h => ?_)
     obtain ⟨o1, o2, o3, o4, o5⟩ := h
     first | omega | (have := o5 r (by omega); omega)
    ·refine awp_skip (hK1 _ (awp_seq fun K7 hK7 => awp_seq fun K8 hK8 => awp_region rfl ?_))
     refine o_fieldRef 0 gn f62_ rfl rfl ?_
     refine o_loadS (Iv m.mod) gn f11_ rfl rfl rfl ?_
     refine o_mv (Nv 0) rfl (aops_end (hK8 _ ?_))
     refine awp_block ?_
     refine awp_loopR (fun κ σ => ∃ (r : Nat), ((r : Int) ≤ m.mod) ∧ (∀ i : Nat, i < r → 1 ≤ m.mul.getD i 0 ∧ m.mul.getD i 0 ≤ 999 ∧ -999999 ≤ m.add.getD i 0 ∧ m.add.getD i 0 ≤ 999999 ∧ Int.tmod (m.mul.getD i 0 * i + m.add.getD i 0) m.mod = 0) ∧ (m.mod.toNat - r) = κ ∧ σ = ⟨[(1, .ref 2 0), (29, Iv m.mod), (30, Nv r)], [(2, oM 28 m)]⟩) ⟨_, _, ⟨0, (by omega), (fun i hi => by omega), rfl, rfl⟩, ?wk0⟩ ?rd0
     case wk0 =>
      exact Wk.sub ⟨rfl, rfl, (by first | rfl | exact nm_int (by omega)), trivial⟩ ⟨rfl, trivial⟩
     rintro κ _ ⟨r, hr, hv, rfl, rfl⟩
     refine awp_seq fun K9 hK9 => awp_region rfl ?_
     refine o_lss (a := ((r : Nat) : Int)) (c := m.mod) gn rfl rfl ?_
     refine aops_end (hK9 _ (awp_seq fun K10 hK10 => ?_))
     refine awp_condQ (q := ((r : Nat) : Int) < m.mod) rfl (fun h5 => ?_) (fun h5 => ?_)
     ·refine awp_skip (hK10 _ (awp_seq fun K11 hK11 => ?_))
      refine awp_block ?_
      refine awp_seq fun K12 hK12 => awp_region rfl (o_mv (Nv r) rfl (o_as (Nv r) rfl (aops_end (hK12 _ (awp_seq fun K13 hK13 => awp_regionD rfl ?_)))))
      refine o_fieldRef 1 gn f66_ rfl rfl ?_
      refine o_loadS (Lv m.mul) gn f1_ rfl rfl rfl ?_
      refine o_mv (Nv r) rfl ?_
      refine i_index m.mul r gn f10_ rfl rfl (by omega) ?_
      refine i_loadI m.mul r gn f11_ rfl (by omega) ?_
      refine o_lss (a := ((m.mul).getD r 0)) (c := ((1 : Nat) : Int)) gn rfl rfl ?_
      refine o_mv (bp (((m.mul).getD r 0) < ((1 : Nat) : Int))) rfl ?_
      refine o_splitP (q := ((m.mul).getD r 0) < ((1 : Nat) : Int)) 39 rfl (fun h6 => ?_) (fun h6 => ?_)
      ·refine o_skip rfl rfl (decide_eq_true h6) (o_skip rfl rfl (decide_eq_true h6) (o_skip rfl rfl (decide_eq_true h6) (o_skip rfl rfl (decide_eq_true h6) (o_skip rfl rfl (decide_eq_true h6) (o_skip rfl rfl (decide_eq_true h6) ?_)))))
       refine o_pickT Tv gn rfl (decide_eq_true h6) rfl ?_
       refine o_mv Tv rfl (o_skip rfl rfl rfl (o_skip rfl rfl rfl (o_skip rfl rfl rfl (o_skip rfl rfl rfl (o_skip rfl rfl rfl (o_skip rfl rfl rfl ?_))))))
       refine o_pickT Tv gn rfl rfl rfl ?_
       refine o_mv Tv rfl (o_skip rfl rfl rfl (o_skip rfl rfl rfl (o_skip rfl rfl rfl (o_skip rfl rfl rfl (o_skip rfl rfl rfl (o_skip rfl rfl rfl ?_))))))
       refine o_pickT Tv gn rfl rfl rfl ?_
       refine o_mv Tv rfl (o_skip rfl rfl rfl (o_skip rfl rfl rfl (o_skip rfl rfl rfl (o_skip rfl rfl rfl (o_skip rfl rfl rfl (o_skip rfl rfl rfl (o_skip rfl rfl rfl (o_skip rfl rfl rfl (o_skip rfl rfl rfl (o_skip rfl rfl rfl (o_skip rfl rfl rfl ?_)))))))))))
       refine o_skip rfl rfl rfl (o_skip rfl rfl rfl (o_skip rfl rfl rfl (o_skip rfl rfl rfl (o_skip rfl rfl rfl (o_skip rfl rfl rfl ?_)))))
       refine o_pickT Tv gn rfl rfl rfl ?_
       refine aops_end ⟨by kernel_rfl, ?_⟩
       refine hK13 _ ?_
       refine awp_condB (b := true) rfl (fun _ => ?_) (fun hh => absurd (hh.symm.trans rfl) (by decide))
       refine awp_seq fun K14 hK14 => awp_region rfl (o_as Fv rfl (aops_end (hK14 _ ?_)))
       refine awp_ret ?_
       refine post_ret ⟨[Fv], ⟨AV.le_refl _, trivial⟩, rfl, ?_⟩
       refine bl_eq (okM_no fun h => ?_)
       obtain ⟨o1, o2, o3, o4, o5⟩ := h
       first | omega | (have := o5 r (by omega); omega)
      ·refine o_fieldRef 1 (Gd.yes rfl rfl (decide_eq_false h6)) f66_ rfl rfl ?_
       refine o_loadS (Lv m.mul) (Gd.yes rfl rfl (decide_eq_false h6)) f1_ rfl rfl rfl ?_
       refine o_move (Nv r) (Gd.yes rfl rfl (decide_eq_false h6)) rfl ?_
       refine i_index m.mul r (Gd.yes rfl rfl (decide_eq_false h6)) f10_ rfl rfl (by omega) ?_
       refine i_loadI m.mul r (Gd.yes rfl rfl (decide_eq_false h6)) f11_ rfl (by omega) ?_
       refine o_gtr (a := ((m.mul).getD r 0)) (c := ((999 : Nat) : Int)) (Gd.yes rfl rfl (decide_eq_false h6)) rfl rfl ?_
       refine o_pickF (bp (((999 : Nat) : Int) < ((m.mul).getD r 0))) gn rfl (decide_eq_false h6) rfl ?_
       refine o_mv (bp (((999 : Nat) : Int) < ((m.mul).getD r 0))) rfl ?_
       refine o_splitP (q := ((999 : Nat) : Int) < ((m.mul).getD r 0)) 47 rfl (fun h7 => ?_) (fun h7 => ?_)
       ·refine o_skip rfl rfl (decide_eq_true h7) (o_skip rfl rfl (decide_eq_true h7) (o_skip rfl rfl (decide_eq_true h7) (o_skip rfl rfl (decide_eq_true h7) (o_skip rfl rfl (decide_eq_true h7) (o_skip rfl rfl (decide_eq_true h7) ?_)))))
        refine o_pickT Tv gn rfl (decide_eq_true h7) rfl ?_
        refine o_mv Tv rfl (o_skip rfl rfl rfl (o_skip rfl rfl rfl (o_skip rfl rfl rfl (o_skip rfl rfl rfl (o_skip rfl rfl rfl (o_skip rfl rfl rfl ?_))))))
        refine o_pickT Tv gn rfl rfl rfl ?_
        refine o_mv Tv rfl (o_skip rfl rfl rfl (o_skip rfl rfl rfl (o_skip rfl rfl rfl (o_skip rfl rfl rfl (o_skip rfl rfl rfl (o_skip rfl rfl rfl (o_skip rfl rfl rfl (o_skip rfl rfl rfl (o_skip rfl rfl rfl (o_skip rfl rfl rfl (o_skip rfl rfl rfl ?_)))))))))))
        refine o_skip rfl rfl rfl (o_skip rfl rfl rfl (o_skip rfl rfl rfl (o_skip rfl rfl rfl (o_skip rfl rfl rfl (o_skip rfl rfl rfl ?_)))))
        refine o_pickT Tv gn rfl rfl rfl ?_
        refine aops_end ⟨by kernel_rfl, ?_⟩
        refine hK13 _ ?_
        refine awp_condB (b := true) rfl (fun _ => ?_) (fun hh => absurd (hh.symm.trans rfl) (by decide))
        refine awp_seq fun K15 hK15 => awp_region rfl (o_as Fv rfl (aops_end (hK15 _ ?_)))
        refine awp_ret ?_
        refine post_ret ⟨[Fv], ⟨AV.le_refl _, trivial⟩, rfl, ?_⟩
        refine bl_eq (okM_no fun h => ?_)
        obtain ⟨o1, o2, o3, o4, o5⟩ := h
        first | omega | (have := o5 r (by omega); omega)
       ·refine o_fieldRef 2 (Gd.yes rfl rfl (decide_eq_false h7)) f68_ rfl rfl ?_
        refine o_loadS (Lv m.add) (Gd.yes rfl rfl (decide_eq_false h7)) f1_ rfl rfl rfl ?_
        refine o_move (Nv r) (Gd.yes rfl rfl (decide_eq_false h7)) rfl ?_
        refine i_index m.add r (Gd.yes rfl rfl (decide_eq_false h7)) f10_ rfl rfl (by omega) ?_
        refine i_loadI m.add r (Gd.yes rfl rfl (decide_eq_false h7)) f11_ rfl (by omega) ?_
        refine o_lss (a := ((m.add).getD r 0)) (c := (-999999)) (Gd.yes rfl rfl (decide_eq_false h7)) rfl rfl ?_
        refine o_pickF (bp (((m.add).getD r 0) < (-999999))) gn rfl (decide_eq_false h7) rfl ?_
        refine o_mv (bp (((m.add).getD r 0) < (-999999))) rfl ?_
        refine o_splitP (q := ((m.add).getD r 0) < (-999999)) 55 rfl (fun h8 => ?_) (fun h8 => ?_)
        ·refine o_skip rfl rfl (decide_eq_true h8) (o_skip rfl rfl (decide_eq_true h8) (o_skip rfl rfl (decide_eq_true h8) (o_skip rfl rfl (decide_eq_true h8) (o_skip rfl rfl (decide_eq_true h8) (o_skip rfl rfl (decide_eq_true h8) ?_)))))
         refine o_pickT Tv gn rfl (decide_eq_true h8) rfl ?_
         refine o_mv Tv rfl (o_skip rfl rfl rfl (o_skip rfl rfl rfl (o_skip rfl rfl rfl (o_skip rfl rfl rfl (o_skip rfl rfl rfl (o_skip rfl rfl rfl (o_skip rfl rfl rfl (o_skip rfl rfl rfl (o_skip rfl rfl rfl (o_skip rfl rfl rfl (o_skip rfl rfl rfl ?_)))))))))))
         refine o_skip rfl rfl rfl (o_skip rfl rfl rfl (o_skip rfl rfl rfl (o_skip rfl rfl rfl (o_skip rfl rfl rfl (o_skip rfl rfl rfl ?_)))))
         refine o_pickT Tv gn rfl rfl rfl ?_
         refine aops_end ⟨by kernel_rfl, ?_⟩
         refine hK13 _ ?_
         refine awp_condB (b := true) rfl (fun _ => ?_) (fun hh => absurd (hh.symm.trans rfl) (by decide))
         refine awp_seq fun K16 hK16 => awp_region rfl (o_as Fv rfl (aops_end (hK16 _ ?_)))
         refine awp_ret ?_
         refine post_ret ⟨[Fv], ⟨AV.le_refl _, trivial⟩, rfl, ?_⟩
         refine bl_eq (okM_no fun h => ?_)
         obtain ⟨o1, o2, o3, o4, o5⟩ := h
         first | omega | (have := o5 r (by omega); omega)
        ·refine o_fieldRef 2 (Gd.yes rfl rfl (decide_eq_false h8)) f68_ rfl rfl ?_
         refine o_loadS (Lv m.add) (Gd.yes rfl rfl (decide_eq_false h8)) f1_ rfl rfl rfl ?_
         refine o_move (Nv r) (Gd.yes rfl rfl (decide_eq_false h8)) rfl ?_
         refine i_index m.add r (Gd.yes rfl rfl (decide_eq_false h8)) f10_ rfl rfl (by omega) ?_
         refine i_loadI m.add r (Gd.yes rfl rfl (decide_eq_false h8)) f11_ rfl (by omega) ?_
         refine o_gtr (a := ((m.add).getD r 0)) (c := ((999999 : Nat) : Int)) (Gd.yes rfl rfl (decide_eq_false h8)) rfl rfl ?_
         refine o_pickF (bp (((999999 : Nat) : Int) < ((m.add).getD r 0))) gn rfl (decide_eq_false h8) rfl ?_
         refine o_mv (bp (((999999 : Nat) : Int) < ((m.add).getD r 0))) rfl ?_
         refine o_splitP (q := ((999999 : Nat) : Int) < ((m.add).getD r 0)) 63 rfl (fun h9 => ?_) (fun h9 => ?_)
         ·refine o_skip rfl rfl (decide_eq_true h9) (o_skip rfl rfl (decide_eq_true h9) (o_skip rfl rfl (decide_eq_true h9) (o_skip rfl rfl (decide_eq_true h9) (o_skip rfl rfl (decide_eq_true h9) (o_skip rfl rfl (decide_eq_true h9) (o_skip rfl rfl (decide_eq_true h9) (o_skip rfl rfl (decide_eq_true h9) (o_skip rfl rfl (decide_eq_true h9) (o_skip rfl rfl (decide_eq_true h9) (o_skip rfl rfl (decide_eq_true h9) (o_skip rfl rfl (decide_eq_true h9) ?_)))))))))))
          refine o_skip rfl rfl (decide_eq_true h9) (o_skip rfl rfl (decide_eq_true h9) (o_skip rfl rfl (decide_eq_true h9) (o_skip rfl rfl (decide_eq_true h9) (o_skip rfl rfl (decide_eq_true h9) ?_))))
          refine o_pickT Tv gn rfl (decide_eq_true h9) rfl ?_
          refine aops_end ⟨by kernel_rfl, ?_⟩
          refine hK13 _ ?_
          refine awp_condB (b := true) rfl (fun _ => ?_) (fun hh => absurd (hh.symm.trans rfl) (by decide))
          refine awp_seq fun K17 hK17 => awp_region rfl (o_as Fv rfl (aops_end (hK17 _ ?_)))
          refine awp_ret ?_
          refine post_ret ⟨[Fv], ⟨AV.le_refl _, trivial⟩, rfl, ?_⟩
          refine bl_eq (okM_no fun h => ?_)
          obtain ⟨o1, o2, o3, o4, o5⟩ := h
          first | omega | (have := o5 r (by omega); omega)
         ·refine o_fieldRef 1 (Gd.yes rfl rfl (decide_eq_false h9)) f66_ rfl rfl ?_
          refine o_loadS (Lv m.mul) (Gd.yes rfl rfl (decide_eq_false h9)) f1_ rfl rfl rfl ?_
          refine o_move (Nv r) (Gd.yes rfl rfl (decide_eq_false h9)) rfl ?_
          refine i_index m.mul r (Gd.yes rfl rfl (decide_eq_false h9)) f10_ rfl rfl (by omega) ?_
          refine i_loadI m.mul r (Gd.yes rfl rfl (decide_eq_false h9)) f11_ rfl (by omega) ?_
          refine o_move (Nv r) (Gd.yes rfl rfl (decide_eq_false h9)) rfl ?_
          refine o_mul (a := ((m.mul).getD r 0)) (c := ((r : Nat) : Int)) (Gd.yes rfl rfl (decide_eq_false h9)) rfl rfl (by have hm := mulb (a := (m.mul).getD r 0) (r := (r : Int)) (by omega) (by omega) (by omega) (by omega); exact wrap64 (by omega) (by omega)) ?_
          refine o_fieldRef 2 (Gd.yes rfl rfl (decide_eq_false h9)) f68_ rfl rfl ?_
          refine o_loadS (Lv m.add) (Gd.yes rfl rfl (decide_eq_false h9)) f1_ rfl rfl rfl ?_
          refine o_move (Nv r) (Gd.yes rfl rfl (decide_eq_false h9)) rfl ?_
          refine i_index m.add r (Gd.yes rfl rfl (decide_eq_false h9)) f10_ rfl rfl (by omega) ?_
          refine i_loadI m.add r (Gd.yes rfl rfl (decide_eq_false h9)) f11_ rfl (by omega) ?_
          refine o_add (a := (((m.mul).getD r 0) * ((r : Nat) : Int))) (c := ((m.add).getD r 0)) (Gd.yes rfl rfl (decide_eq_false h9)) rfl rfl (by have hm := mulb (a := (m.mul).getD r 0) (r := (r : Int)) (by omega) (by omega) (by omega) (by omega); exact wrap64 (by omega) (by omega)) ?_
          refine o_fieldRef 0 (Gd.yes rfl rfl (decide_eq_false h9)) f62_ rfl rfl ?_
          refine o_loadS (Iv m.mod) (Gd.yes rfl rfl (decide_eq_false h9)) f11_ rfl rfl rfl ?_
          refine o_remT (a := ((((m.mul).getD r 0) * ((r : Nat) : Int)) + ((m.add).getD r 0))) (c := m.mod) (Gd.yes rfl rfl (decide_eq_false h9)) rfl rfl (by omega) ?_
          refine o_neq (a := (Int.tmod ((((m.mul).getD r 0) * ((r : Nat) : Int)) + ((m.add).getD r 0)) m.mod)) (c := ((0 : Nat) : Int)) (Gd.yes rfl rfl (decide_eq_false h9)) rfl rfl ?_
          refine o_pickF (bp ((Int.tmod ((((m.mul).getD r 0) * ((r : Nat) : Int)) + ((m.add).getD r 0)) m.mod) ≠ ((0 : Nat) : Int))) gn rfl (decide_eq_false h9) rfl ?_
          refine aops_end ⟨by kernel_rfl, ?_⟩
          refine hK13 _ ?_
          refine awp_condQ (q := (Int.tmod ((((m.mul).getD r 0) * ((r : Nat) : Int)) + ((m.add).getD r 0)) m.mod) ≠ ((0 : Nat) : Int)) rfl (fun h10 => ?_) (fun h10 => ?_)
          ·refine awp_seq fun K18 hK18 => awp_region rfl (o_as Fv rfl (aops_end (hK18 _ ?_)))
           refine awp_ret ?_
           refine post_ret ⟨[Fv], ⟨AV.le_refl _, trivial⟩, rfl, ?_⟩
           refine bl_eq (okM_no fun h => ?_)
           obtain ⟨o1, o2, o3, o4, o5⟩ := h
           first | omega | (have := o5 r (by omega); omega)
          ·refine awp_skip (hK11 _ (awp_region rfl ?_))
           refine n_add r 1 gn rfl rfl (by simp only [topOf]; omega) ?_
           refine o_mv (Nv (r + 1)) rfl (aops_end ?_)
           refine ⟨_, _, ?lt, ⟨r + 1, (by omega), (fun i hi => by by_cases e : i = r; subst e; exact ⟨by omega, by omega, by omega, by omega, by omega⟩; exact hv i (by omega)), rfl, rfl⟩, ?wk⟩
           case lt => omega
           case wk => exact Wk.sub ⟨rfl, rfl, (by first | rfl | exact nm_int (by omega)), trivial⟩ ⟨rfl, trivial⟩
     ·refine awp_exit ?_
      refine hK7 _ (awp_seq fun K19 hK19 => awp_region rfl (o_as Tv rfl (aops_end (hK19 _ ?_))))
      refine awp_ret ?_
      refine post_ret ⟨[Tv], ⟨AV.le_refl _, trivial⟩, rfl, ?_⟩
      refine bl_eq (okM_yes ⟨by omega, by omega, by omega, by omega, fun i hi => hv i (by omega)⟩)

theorem c_sNext (m : MapM) (z : Int) (hm : OkM m) (hz : (digs z.natAbs).length ≤ 1000000) : ECalls cx 46 [mapV m, intW z] (.tup [intW (stepZ m z), .lit (.int .i64 (z % m.mod))]) := by
 refine ecalls_of_awp Tryz.func46 (c := _) rfl (Nat.le_of_ble_eq_true rfl) ?_
 show awp cx 40 _ (postF cx Tryz.f46 _) ⟨[(0, mapV m), (1, intW z)], []⟩
 have hM := hm
 obtain ⟨o1, o2, o3, o4, o5⟩ := hm
 have hr0 := Int.emod_nonneg z (b := m.mod) (by omega)
 have hr1 := Int.emod_lt_of_pos z (b := m.mod) (by omega)
 have hr := o5 (z % m.mod).toNat (by omega)
 have hL1 := small_len (z := ((m.mul).getD ((z % m.mod).toNat) 0)) (by omega)
 have hL2 := small_len (z := ((m.add).getD ((z % m.mod).toNat) 0)) (by omega)
 have hL3 := len_mulZ z ((m.mul).getD ((z % m.mod).toNat) 0)
 have hL4 := len_addZ (z * ((m.mul).getD ((z % m.mod).toNat) 0)) ((m.add).getD ((z % m.mod).toNat) 0)
 have hmd : ((m.mod.toNat : Nat) : Int) = m.mod := Int.toNat_of_nonneg (by omega)
 refine awp_seq fun K0 hK0 => awp_region rfl ?_
 refine o_box 2 [Iv m.mod, Lv m.mul, Lv m.add] gn rfl rfl ?_
 refine o_box 3 [bp (z < 0), .sl 1 (ns .u32 (digs z.natAbs))] gn rfl rfl ?_
 refine o_alloc 4 [Fv, Zv] gn f15_ rfl rfl rfl ?_
 refine o_as (Nv 0) rfl (aops_end (hK0 _ (awp_seq fun K1 hK1 => awp_region rfl ?_)))
 refine o_loadA [bp (z < 0), .sl 1 (ns .u32 (digs z.natAbs))] gn f20_ rfl rfl rfl rfl rfl ?_
 refine o_fieldRef 0 gn f62_ rfl rfl ?_
 refine o_loadS (Iv m.mod) gn f11_ rfl rfl rfl ?_
 refine n_as (v' := (Nv m.mod.toNat)) (nm_int (by omega)) ?_
 refine o_ct (c_wQR z m.mod.toNat (by omega) (by omega) (by first | omega | assumption | (simp only [Int.natAbs_neg]; omega))) gn f69_ rfl ?_
 refine o_mv (.tup [(intW (z / ((m.mod.toNat : Nat) : Int))), (Iv (z % ((m.mod.toNat : Nat) : Int)))]) rfl (o_extract (intW (z / ((m.mod.toNat : Nat) : Int))) gn rfl rfl (o_extract (Iv (z % ((m.mod.toNat : Nat) : Int))) gn rfl rfl ?_))
 refine n_as (v' := (Nv ((z % m.mod).toNat))) (nm_int (by rw [hmd]; omega)) ?_
 refine o_alloc 5 [Fv, Zv] gn f15_ rfl rfl rfl ?_
 refine o_store [(5, (oZ 51 .u32 (z / ((m.mod.toNat : Nat) : Int)))), (4, .var 51 [Fv, Zv]), (3, oZ 51 .u32 z), (2, oM 28 m)] gn f19_ rfl rfl rfl rfl rfl rfl ?_
 refine o_as (Nv ((z % m.mod).toNat)) rfl (aops_end (hK1 _ (awp_seq fun K2 hK2 => awp_regionD rfl ?_)))
 refine o_loadA [bp (z < 0), .sl 1 (ns .u32 (digs z.natAbs))] gn f20_ rfl rfl rfl rfl rfl ?_
 refine o_fieldRef 1 gn f66_ rfl rfl ?_
 refine o_loadS (Lv m.mul) gn f1_ rfl rfl rfl ?_
 refine o_mv (Nv ((z % m.mod).toNat)) rfl ?_
 refine n_as (v' := (Nv ((z % m.mod).toNat))) (congrArg (nm _) (by omega)) ?_
 refine i_index m.mul ((z % m.mod).toNat) gn f10_ rfl rfl (by omega) ?_
 refine i_loadI m.mul ((z % m.mod).toNat) gn f11_ rfl (by omega) ?_
 refine o_ct (c_wOf ((m.mul).getD ((z % m.mod).toNat) 0) (by first | decide | omega) (by first | decide | omega)) gn f46_ rfl ?_
 refine o_ct (c_wMul z ((m.mul).getD ((z % m.mod).toNat) 0) (by first | omega | assumption | (simp only [Int.natAbs_neg]; omega)) (by first | omega | assumption | (simp only [Int.natAbs_neg]; omega))) gn f70_ rfl ?_
 refine o_fieldRef 2 gn f68_ rfl rfl ?_
 refine o_loadS (Lv m.add) gn f1_ rfl rfl rfl ?_
 refine o_mv (Nv ((z % m.mod).toNat)) rfl ?_
 refine n_as (v' := (Nv ((z % m.mod).toNat))) (congrArg (nm _) (by omega)) ?_
 refine i_index m.add ((z % m.mod).toNat) gn f10_ rfl rfl (by omega) ?_
 refine i_loadI m.add ((z % m.mod).toNat) gn f11_ rfl (by omega) ?_
 refine o_ct (c_wOf ((m.add).getD ((z % m.mod).toNat) 0) (by first | decide | omega) (by first | decide | omega)) gn f46_ rfl ?_
 refine o_ct (c_wAdd (z * (m.mul).getD ((z % m.mod).toNat) 0) ((m.add).getD ((z % m.mod).toNat) 0) (by first | omega | assumption | (simp only [Int.natAbs_neg]; omega)) (by first | omega | assumption | (simp only [Int.natAbs_neg]; omega))) gn f38_ rfl ?_
 refine o_fieldRef 0 gn f62_ rfl rfl ?_
 refine o_loadS (Iv m.mod) gn f11_ rfl rfl rfl ?_
 refine n_as (v' := (Nv m.mod.toNat)) (nm_int (by omega)) ?_
 refine o_ct (c_wQR ((z * (m.mul).getD ((z % m.mod).toNat) 0) + (m.add).getD ((z % m.mod).toNat) 0) m.mod.toNat (by omega) (by omega) (by first | omega | assumption | (simp only [Int.natAbs_neg]; omega))) gn f69_ rfl ?_
 refine o_mv (.tup [(intW (((z * (m.mul).getD ((z % m.mod).toNat) 0) + (m.add).getD ((z % m.mod).toNat) 0) / ((m.mod.toNat : Nat) : Int))), (Iv (((z * (m.mul).getD ((z % m.mod).toNat) 0) + (m.add).getD ((z % m.mod).toNat) 0) % ((m.mod.toNat : Nat) : Int)))]) rfl (o_extract (intW (((z * (m.mul).getD ((z % m.mod).toNat) 0) + (m.add).getD ((z % m.mod).toNat) 0) / ((m.mod.toNat : Nat) : Int))) gn rfl rfl (o_extract (Iv (((z * (m.mul).getD ((z % m.mod).toNat) 0) + (m.add).getD ((z % m.mod).toNat) 0) % ((m.mod.toNat : Nat) : Int))) gn rfl rfl ?_))
 refine o_alloc 6 [Fv, Zv] gn f15_ rfl rfl rfl ?_
 refine o_store [(6, (oZ 51 .u32 (((z * (m.mul).getD ((z % m.mod).toNat) 0) + (m.add).getD ((z % m.mod).toNat) 0) / ((m.mod.toNat : Nat) : Int)))), (5, (oZ 51 .u32 (z / ((m.mod.toNat : Nat) : Int)))), (4, .var 51 [Fv, Zv]), (3, oZ 51 .u32 z), (2, oM 28 m)] gn f19_ rfl rfl rfl rfl rfl rfl ?_
 refine o_as (Iv (((z * (m.mul).getD ((z % m.mod).toNat) 0) + (m.add).getD ((z % m.mod).toNat) 0) % ((m.mod.toNat : Nat) : Int))) rfl ?_
 refine aops_end ⟨by kernel_rfl, ?_⟩
 refine hK2 _ (awp_seq fun K3 hK3 => awp_region rfl ?_)
 refine o_loadA [(bp ((((z * (m.mul).getD ((z % m.mod).toNat) 0) + (m.add).getD ((z % m.mod).toNat) 0) / ((m.mod.toNat : Nat) : Int)) < 0)), (.sl 1 (ns .u32 (digs (((z * (m.mul).getD ((z % m.mod).toNat) 0) + (m.add).getD ((z % m.mod).toNat) 0) / ((m.mod.toNat : Nat) : Int)).natAbs)))] gn f20_ rfl rfl rfl rfl rfl ?_
 refine o_mv (Nv ((z % m.mod).toNat)) rfl ?_
 refine o_store [(6, (oZ 51 .u32 (((z * (m.mul).getD ((z % m.mod).toNat) 0) + (m.add).getD ((z % m.mod).toNat) 0) / ((m.mod.toNat : Nat) : Int)))), (5, (oZ 51 .u32 (z / ((m.mod.toNat : Nat) : Int)))), (4, (oZ 51 .u32 (((z * (m.mul).getD ((z % m.mod).toNat) 0) + (m.add).getD ((z % m.mod).toNat) 0) / ((m.mod.toNat : Nat) : Int)))), (3, oZ 51 .u32 z), (2, oM 28 m)] gn f19_ rfl rfl rfl rfl rfl rfl ?_
 refine o_as (Nv ((z % m.mod).toNat)) rfl (aops_end (hK3 _ ?_))
 refine awp_ret ?_
 refine post_ret ⟨[(intW (((z * (m.mul).getD ((z % m.mod).toNat) 0) + (m.add).getD ((z % m.mod).toNat) 0) / ((m.mod.toNat : Nat) : Int))), Nv ((z % m.mod).toNat)], ⟨⟨4, (oZ 51 .u32 (((z * (m.mul).getD ((z % m.mod).toNat) 0) + (m.add).getD ((z % m.mod).toNat) 0) / ((m.mod.toNat : Nat) : Int))), rfl, rfl, rfl, Or.inl ⟨f20_, AV.le_refl _⟩⟩, AV.le_refl _, trivial⟩, rfl, ?_⟩
 exact tup_eq2 (congrArg (intK .u32) (by unfold stepZ; rw [hmd, Int.mul_comm z])) (int_nm (by omega)).symm

end Go.Proofs.YtaeknciienkijaaGreatDoor

namespace Go.Proofs.YtaeknciienkijaaGreatDoor
open Go Go.Ab Go.Mth
theorem f71_ : tyZero cx.P 28 = some [Go.Value.int IntKind.i64 0, Go.Value.slice none 0 0, Go.Value.slice none 0 0] := by kernel_rfl
theorem f72_ : tyPlaces cx.P 28 = some (fun i => (#[(0, 1), (1, 1), (2, 1)] : Array (Nat × Nat))[i]?) := by kernel_rfl
theorem f73_ : tySize cx.P 28 = some 3 := by kernel_rfl
theorem f74_ : callable cx.P 23 = true := by kernel_rfl
theorem c_skin (q c : Int) : ECalls cx 23 [Iv q, Iv c] (mapV (kinM q c)) := by
 refine ecalls_of_awp Tryz.func23 (c := _) rfl (Nat.le_of_ble_eq_true rfl) ?_
 show awp cx 10 _ (postF cx Tryz.f23 _) ⟨[(0, Iv q), (1, Iv c)], []⟩
 refine awp_seq fun K0 hK0 => awp_region rfl ?_
 refine o_alloc 2 [Nv 0, Zv, Zv] gn f71_ rfl rfl rfl ?_
 refine aops_end (hK0 _ (awp_seq fun K1 hK1 => awp_region rfl (o_mv (Iv q) rfl ?_)))
 refine o_buildSlice 3 ([Nv 1, Iv q]) [(0, [Nv 1]), (1, [Iv q])] gn f10_ rfl f26_ rfl rfl rfl rfl rfl rfl rfl ?_
 refine o_mv (Iv c) rfl ?_
 refine o_buildSlice 4 ([Nv 0, Iv c]) [(0, [Nv 0]), (1, [Iv c])] gn f10_ rfl f26_ rfl rfl rfl rfl rfl rfl rfl ?_
 refine o_build [Nv 2, .row 3, .row 4] [(0, [Nv 2]), (1, [.row 3]), (2, [.row 4])] gn f72_ f71_ rfl rfl rfl ?_
 refine o_store [(4, .row 3 1 ([Nv 0, Iv c])), (3, .row 3 1 ([Nv 1, Iv q])), (2, .var 28 [Nv 2, .row 3, .row 4])] gn f73_ rfl rfl rfl rfl rfl rfl ?_
 refine aops_end (hK1 _ ?_)
 refine awp_wk (σ' := ⟨[(4, .ref 2 0)], [(2, .var 28 [Nv 2, .row 3, .row 4]), (3, .row 3 1 ([Nv 1, Iv q])), (4, .row 3 1 ([Nv 0, Iv c]))]⟩) (Wk.sub ⟨rfl, trivial⟩ ⟨rfl, rfl, rfl, trivial⟩) ?_
 refine awp_wk (σ' := ⟨[(4, .ref 2 0)], [(2, .var 28 [Nv 2, .sl 1 ([Nv 1, Iv q]), .row 4]), (4, .row 3 1 ([Nv 0, Iv c]))]⟩) (Wk.freeze (id := 3) (e := 3) (sz := 1) (cs := ([Nv 1, Iv q])) rfl) ?_
 refine awp_wk (σ' := ⟨[(4, .ref 2 0)], [(2, .var 28 [Nv 2, .sl 1 ([Nv 1, Iv q]), .sl 1 ([Nv 0, Iv c])])]⟩) (Wk.freeze (id := 4) (e := 3) (sz := 1) (cs := ([Nv 0, Iv c])) rfl) ?_
 refine awp_ret ?_
 refine post_ret ⟨[mapV (kinM q c)], ⟨⟨2, .var 28 [Nv 2, .sl 1 ([Nv 1, Iv q]), .sl 1 ([Nv 0, Iv c])], rfl, rfl, rfl, Or.inl ⟨f64_, AV.le_agg (LeL.cons (AV.le_refl _) (LeL.cons (AV.le_refl _) (LeL.cons (AV.le_refl _) LeL.nil)))⟩⟩, trivial⟩, rfl, ?_⟩
 rfl

theorem c_sCollatz  : ECalls cx 5 [] (mapV (kinM 3 1)) := by
 refine ecalls_of_awp Tryz.func5 (c := _) rfl (Nat.le_of_ble_eq_true rfl) ?_
 show awp cx 2 _ (postF cx Tryz.f5 _) ⟨[], []⟩
 refine awp_seq fun K0 hK0 => awp_region rfl ?_
 refine o_alloc 2 [Nv 0, Zv, Zv] gn f71_ rfl rfl rfl ?_
 refine aops_end (hK0 _ (awp_seq fun K1 hK1 => awp_region rfl ?_))
 refine o_ct (c_skin (3 : Int) (1 : Int)) gn f74_ rfl ?_
 refine o_store [(2, (oM 28 (kinM (3 : Int) (1 : Int))))] gn f73_ rfl rfl rfl rfl rfl rfl ?_
 refine aops_end (hK1 _ ?_)
 refine awp_ret ?_
 refine post_ret ⟨[(mapV (kinM (3 : Int) (1 : Int)))], ⟨⟨2, (oM 28 (kinM (3 : Int) (1 : Int))), rfl, rfl, rfl, Or.inl ⟨f64_, AV.le_refl _⟩⟩, trivial⟩, rfl, ?_⟩
 rfl

theorem c_gCollatz  : ECalls cx 10 [] (mapV (kinM 3 1)) := by
 refine ecalls_of_awp Tryz.func10 (c := _) rfl (Nat.le_of_ble_eq_true rfl) ?_
 show awp cx 4 _ (postF cx Tryz.f10 _) ⟨[], []⟩
 refine awp_seq fun K0 hK0 => awp_region rfl ?_
 refine o_alloc 2 [Nv 0, Zv, Zv] gn f71_ rfl rfl rfl ?_
 refine aops_end (hK0 _ (awp_seq fun K1 hK1 => awp_region rfl ?_))
 refine o_buildSlice 3 (ns .i64 ([1, 3])) [(0, [Nv 1]), (1, [Nv 3])] gn f10_ rfl f26_ rfl rfl rfl rfl rfl rfl rfl ?_
 refine o_buildSlice 4 (ns .i64 ([0, 1])) [(0, [Nv 0]), (1, [Nv 1])] gn f10_ rfl f26_ rfl rfl rfl rfl rfl rfl rfl ?_
 refine o_build [Nv 2, .row 3, .row 4] [(0, [Nv 2]), (1, [.row 3]), (2, [.row 4])] gn f72_ f71_ rfl rfl rfl ?_
 refine o_store [(4, .row 3 1 (ns .i64 ([0, 1]))), (3, .row 3 1 (ns .i64 ([1, 3]))), (2, .var 28 [Nv 2, .row 3, .row 4])] gn f73_ rfl rfl rfl rfl rfl rfl ?_
 refine aops_end (hK1 _ ?_)
 refine awp_wk (σ' := ⟨[(0, .ref 2 0)], [(2, .var 28 [Nv 2, .row 3, .row 4]), (3, .row 3 1 (ns .i64 ([1, 3]))), (4, .row 3 1 (ns .i64 ([0, 1])))]⟩) (Wk.sub ⟨rfl, trivial⟩ ⟨rfl, rfl, rfl, trivial⟩) ?_
 refine awp_wk (σ' := ⟨[(0, .ref 2 0)], [(2, .var 28 [Nv 2, .sl 1 (ns .i64 ([1, 3])), .row 4]), (4, .row 3 1 (ns .i64 ([0, 1])))]⟩) (Wk.freeze (id := 3) (e := 3) (sz := 1) (cs := (ns .i64 ([1, 3]))) rfl) ?_
 refine awp_wk (σ' := ⟨[(0, .ref 2 0)], [(2, .var 28 [Nv 2, .sl 1 (ns .i64 ([1, 3])), .sl 1 (ns .i64 ([0, 1]))])]⟩) (Wk.freeze (id := 4) (e := 3) (sz := 1) (cs := (ns .i64 ([0, 1]))) rfl) ?_
 refine awp_ret ?_
 refine post_ret ⟨[mapV (kinM 3 1)], ⟨⟨2, .var 28 [Nv 2, .sl 1 (ns .i64 ([1, 3])), .sl 1 (ns .i64 ([0, 1]))], rfl, rfl, rfl, Or.inl ⟨f64_, AV.le_agg (LeL.cons (AV.le_refl _) (LeL.cons (AV.le_refl _) (LeL.cons (AV.le_refl _) LeL.nil)))⟩⟩, trivial⟩, rfl, ?_⟩
 rfl

end Go.Proofs.YtaeknciienkijaaGreatDoor

namespace Go.Mth
open Go.Ab
def iterZ (m : MapM) : Nat → Int → Int
 | 0, z => z
 | k + 1, z => stepZ m (iterZ m k z)
def sbs (l : List ByteArray) : List AV := l.map fun s => .lit (.string s)
def strs (zs : List Int) : List AV := sbs (zs.map txt)
section
variable {C : Ctx} {ops : Array Oper} {s : List (Nat × AV)} {m : List (Nat × AO)} {os : List Oper} {K : List Eff → St → Prop} {d : Nat} {t : TypeId} {p : String} {af : Array Edge} {g : Option (Nat × Bool)}
theorem s_len {ty e : TypeId} {x : Operand} (xs : List ByteArray) (hg : Gd ops s g) (ht : C.P.underlying ty = some (.slice e)) (hx : ev s x = .sl 1 (sbs xs)) (kk : aops C ops ⟨(d, nm .i64 xs.length) :: s, m⟩ os fun es σ' => K ({ val := nm .i64 xs.length } :: es) σ') :
  aops C ops ⟨s, m⟩ (⟨some d, .call { callee := .builtin .len, args := #[x], argTypes := #[ty] }, t, p, af, g⟩ :: os) K := o_lenSl xs.length hg ht hx (by simp [sbs]) kk
theorem s_index {ty : TypeId} {x y : Operand} {e by' : Nat} {kk' : IntKind} (xs : List ByteArray) (i : Nat) (hg : Gd ops s g) (ht : tyElem C.P ty = some (e, 1, by')) (hx : ev s x = .sl 1 (sbs xs)) (hy : ev s y = nm kk' i) (h1 : i < xs.length)
  (kk : aops C ops ⟨(d, .ip ((sbs xs).drop i)) :: s, m⟩ os fun es σ' => K ({ val := .ip ((sbs xs).drop i) } :: es) σ') : aops C ops ⟨s, m⟩ (⟨some d, .indexAddr ty x y, t, p, af, g⟩ :: os) K :=
 o_index1 (i := (i : Int)) hg ht hx hy (by omega) (by simpa [sbs] using h1) kk
theorem s_loadI {ty : TypeId} {x : Operand} (xs : List ByteArray) (i : Nat) (hg : Gd ops s g) (ht : tySc C.P ty = true) (hx : ev s x = .ip ((sbs xs).drop i)) (h1 : i < xs.length)
  (kk : aops C ops ⟨(d, .lit (.string (xs.getD i { data := #[] }))) :: s, m⟩ os fun es σ' => K ({ val := .lit (.string (xs.getD i { data := #[] })) } :: es) σ') : aops C ops ⟨s, m⟩ (⟨some d, .load ty x, t, p, af, g⟩ :: os) K :=
 o_loadIS (.lit (.string (xs.getD i { data := #[] }))) hg ht hx (dropMap0 (f := fun s => AV.lit (.string s)) { data := #[] } h1) kk
end
def orbQ (m : MapM) (a : ByteArray) (k : Int) : Prop := okM m = true ∧ okS a = true ∧ 0 ≤ k ∧ k ≤ 1000
open Classical in
noncomputable def orbS (m : MapM) (a : ByteArray) (k : Int) : List Int := if okM m = true ∧ okS a = true ∧ 0 ≤ k ∧ k ≤ 1000 ∧ Fit (runZ m k.toNat (numS a)) then orbZ m k.toNat (numS a) else []
open Classical in
noncomputable def orbE (m : MapM) (a : ByteArray) (k : Int) : Nat := if okM m = true ∧ okS a = true then if 0 ≤ k ∧ k ≤ 1000 then if Fit (runZ m k.toNat (numS a)) then 0 else 3 else 2 else 1
noncomputable def runS (m : MapM) (a : ByteArray) (k : Int) : ByteArray := if okM m = true ∧ okS a = true ∧ 0 ≤ k ∧ k ≤ 20000 then toldS (runZ m k.toNat (numS a)) else { data := #[] }
noncomputable def runE (m : MapM) (a : ByteArray) (k : Int) : Nat := if okM m = true ∧ okS a = true then if 0 ≤ k ∧ k ≤ 20000 then toldE (runZ m k.toNat (numS a)) else 2 else 1
def fallF (m : MapM) (a : ByteArray) (k : Int) : Nat × Int × Nat := fallZ m (numS a) k.toNat (numS a) 1
noncomputable def fallK (m : MapM) (a : ByteArray) (k : Int) : Nat := if okM m = true ∧ okS a = true ∧ 1 ≤ k ∧ k ≤ 20000 then (fallF m a k).1 else 0
noncomputable def fallT (m : MapM) (a : ByteArray) (k : Int) : ByteArray := if okM m = true ∧ okS a = true ∧ 1 ≤ k ∧ k ≤ 20000 ∧ (fallF m a k).2.2 = 0 then txt (fallF m a k).2.1 else { data := #[] }
noncomputable def fallE (m : MapM) (a : ByteArray) (k : Int) : Nat := if okM m = true ∧ okS a = true then if 1 ≤ k ∧ k ≤ 20000 then (fallF m a k).2.2 else 2 else 1
end Go.Mth

namespace Go.Mth
open Go.Ab
def bv : List Nat → Nat := fun l => l.foldl (fun v b => 10 * v + (b - 48)) 0
theorem bv_snoc (l : List Nat) (b : Nat) : bv (l ++ [b]) = 10 * bv l + (b - 48) := by simp [bv]
def DigB (l : List Nat) : Prop := ∀ x ∈ l, 48 ≤ x ∧ x ≤ 57
theorem decs_digB (n : Nat) : DigB (decs n) := by
 induction n using Nat.strongRecOn with
 | _ n ih =>
  by_cases h : n = 0
  ·subst h; rw [decs_zero]; intro x hx; cases hx
  ·rw [decs_pos (by omega)]
   intro x hx
   rcases List.mem_cons.1 hx with e | e
   ·omega
   ·exact ih (n / 10) (by omega) x e
theorem bv_decs (n : Nat) : bv (decs n).reverse = n := by
 induction n using Nat.strongRecOn with
 | _ n ih =>
  by_cases h : n = 0
  ·subst h; rw [decs_zero]; rfl
  ·rw [decs_pos (by omega), List.reverse_cons, bv_snoc, ih (n / 10) (by omega)]
   omega
theorem decs_last {n : Nat} (h : 0 < n) : ∃ l b, decs n = l ++ [b] ∧ b ≠ 48 := by
 induction n using Nat.strongRecOn with
 | _ n ih =>
  rw [decs_pos h]
  by_cases h10 : n / 10 = 0
  ·rw [h10, decs_zero]
   exact ⟨[], _, rfl, by omega⟩
  ·obtain ⟨l, b, e, hb⟩ := ih (n / 10) (by omega) (by omega)
   exact ⟨_ :: l, b, by rw [e]; rfl, hb⟩
theorem dvk_bv {a : ByteArray} {s : Nat} : ∀ {k : Nat}, s + k ≤ a.size → dvk a s k = bv (((byts a).drop s).take k)
 | 0, _ => by simp [dvk, bv]
 | k + 1, h => by
  have hl : s + k < (byts a).length := by rw [byts_len]; omega
  have e : ((byts a).drop s).take (k + 1) = ((byts a).drop s).take k ++ [(byts a).getD (s + k) 0] := by
   rw [List.take_add_one, List.getElem?_drop, List.getElem?_eq_getElem hl, List.getD_eq_getElem?_getD, List.getElem?_eq_getElem hl]
   rfl
  rw [dvk, dvk_bv (k := k) (by omega), e, bv_snoc, byt_byts]
theorem dvk_all {a : ByteArray} {s : Nat} (h : s ≤ a.size) : dvk a s (a.size - s) = bv ((byts a).drop s) := by
 rw [dvk_bv (by omega), List.take_of_length_le (by rw [List.length_drop, byts_len]; omega)]
theorem txt_len (z : Int) : (txt z).size = (txtL z).length := by rw [← byts_txt, byts_len]
theorem byt_txt (z : Int) (i : Nat) : byt (txt z) i = (txtL z).getD i 0 := by rw [byt_byts, byts_txt]
theorem txtL_pos {z : Int} (h : 0 < z) : txtL z = (decs z.natAbs).reverse := by unfold txtL; rw [if_neg (by omega), if_neg (by omega)]; rfl
theorem txtL_neg {z : Int} (h : z < 0) : txtL z = 45 :: (decs z.natAbs).reverse := by unfold txtL; rw [if_neg (by omega), if_pos h]; rfl
theorem decs_ne {n : Nat} (h : 0 < n) : 0 < (decs n).length := by rw [decs_pos h]; simp
theorem rev_head {n : Nat} (h : 0 < n) : 48 ≤ (decs n).reverse.getD 0 0 ∧ (decs n).reverse.getD 0 0 ≤ 57 ∧ (decs n).reverse.getD 0 0 ≠ 48 := by
 obtain ⟨l, b, e, hb⟩ := decs_last h
 have hd := decs_digB n b (by rw [e]; simp)
 rw [e]
 simp only [List.reverse_append, List.reverse_cons, List.reverse_nil, List.nil_append, List.cons_append, List.getD_cons_zero]
 exact ⟨hd.1, hd.2, hb⟩
theorem sgnAt_txt (z : Int) : sgnAt (txt z) = if z < 0 then 1 else 0 := by
 unfold sgnAt
 rw [byt_txt]
 by_cases hz : z < 0
 ·rw [txtL_neg hz, if_pos hz]; rfl
 ·rw [if_neg hz]
  by_cases h0 : z = 0
  ·subst h0; rfl
  ·rw [txtL_pos (by omega)]
   have := rev_head (n := z.natAbs) (by omega)
   rw [if_neg (by omega)]
theorem numS_txt (z : Int) : numS (txt z) = z := by
 unfold numS
 rw [sgnAt_txt]
 by_cases hz : z < 0
 ·rw [if_pos hz]
  have hb : byt (txt z) 0 = 45 := by rw [byt_txt, txtL_neg hz]; rfl
  rw [hb, dvk_all (by rw [txt_len, txtL_neg hz]; simp), byts_txt, txtL_neg hz, List.drop_succ_cons, List.drop_zero, bv_decs]
  simp only [sg, decide_true, if_true]
  omega
 ·rw [if_neg hz]
  have hb : ¬ byt (txt z) 0 = 45 := by
   intro h
   have := sgnAt_txt z
   unfold sgnAt at this
   rw [if_pos h, if_neg hz] at this
   cases this
  rw [decide_eq_false hb, dvk_all (by omega), byts_txt, List.drop_zero]
  by_cases h0 : z = 0
  ·subst h0; rfl
  ·rw [txtL_pos (by omega), bv_decs]
   simp only [sg, Bool.false_eq_true, if_false]
   omega
theorem okS_txt {z : Int} (hf : Fit z) : OkS (txt z) := by
 have hs := sgnAt_txt z
 by_cases hz : z < 0
 ·rw [if_pos hz] at hs
  have hn : ndig z.natAbs = (decs z.natAbs).length := by unfold ndig; rw [if_neg (by omega)]
  unfold Fit at hf
  have hp := decs_ne (n := z.natAbs) (by omega)
  have hh := rev_head (n := z.natAbs) (by omega)
  refine ⟨by rw [hs, txt_len, txtL_neg hz]; simp; omega, by rw [hs, txt_len, txtL_neg hz]; simp; omega, fun h => ?_, fun i h1 h2 => ?_⟩
  ·rw [hs, byt_txt, txtL_neg hz, List.getD_cons_succ] at h
   exact hh.2.2 h.1
  ·rw [hs] at h1
   rw [txt_len, txtL_neg hz] at h2
   rw [byt_txt, txtL_neg hz]
   obtain ⟨j, rfl⟩ : ∃ j, i = j + 1 := ⟨i - 1, by omega⟩
   rw [List.getD_cons_succ]
   have hj : j < (decs z.natAbs).reverse.length := by simpa using h2
   rw [List.getD_eq_getElem?_getD, List.getElem?_eq_getElem hj]
   exact decs_digB _ _ (List.mem_reverse.1 (List.getElem_mem hj))
 ·rw [if_neg hz] at hs
  by_cases h0 : z = 0
  ·subst h0
   refine ⟨by rw [hs]; decide, by rw [hs]; decide, by rw [hs]; decide, fun i h1 h2 => ?_⟩
   have : i = 0 := by rw [txt_zero] at h2; simp [ByteArray.size] at h2; omega
   subst this
   rw [txt_zero]
   decide
  ·have hn : ndig z.natAbs = (decs z.natAbs).length := by unfold ndig; rw [if_neg (by omega)]
   unfold Fit at hf
   have hp := decs_ne (n := z.natAbs) (by omega)
   have hh := rev_head (n := z.natAbs) (by omega)
   refine ⟨by rw [hs, txt_len, txtL_pos (by omega)]; simpa using hp, by rw [hs, txt_len, txtL_pos (by omega)]; simp; omega, fun h => ?_, fun i h1 h2 => ?_⟩
   ·rw [hs, byt_txt, txtL_pos (by omega)] at h
    exact hh.2.2 h.1
   ·rw [txt_len, txtL_pos (by omega)] at h2
    rw [byt_txt, txtL_pos (by omega), List.getD_eq_getElem?_getD, List.getElem?_eq_getElem h2]
    exact decs_digB _ _ (List.mem_reverse.1 (List.getElem_mem h2))
theorem txt_inj {x y : Int} (h : txt x = txt y) : x = y := by rw [← numS_txt x, ← numS_txt y, h]
end Go.Mth

namespace Go.Mth
open Go.Ab
theorem okM_ex : okM (kinM 3 1) = true := by
 refine okM_yes ⟨by decide, by decide, by decide, by decide, fun r hr => ?_⟩
 have : r = 0 ∨ r = 1 := by simp only [kinM] at hr; omega
 rcases this with rfl | rfl <;> decide
theorem str_as {a b : ByteArray} (h : a = b) : AV.lit (.string a) = AV.lit (.string b) := by rw [h]
theorem map_getD {l : List Int} {i : Nat} (h : i < l.length) : (l.map txt).getD i { data := #[] } = txt (l.getD i 0) := by simp [List.getD_eq_getElem?_getD, List.getElem?_eq_getElem h]
end Go.Mth

namespace Go.Mth
open Go.Ab
def freeM (m : MapM) : Prop := ∀ i, i < m.mul.length → Nat.gcd (m.mul.getD i 0).toNat m.mod.toNat ≤ 1
noncomputable instance (m : MapM) : Decidable (freeM m) := Classical.propDecidable _
def primeN (a b : Nat) : Prop := ∀ d, 2 ≤ d → d ≤ a → d ≤ b → ¬ (a % d = 0 ∧ b % d = 0)
noncomputable instance (a b : Nat) : Decidable (primeN a b) := Classical.propDecidable _
theorem gcd_nx {u v g : Nat} (h : Nat.gcd u v = g) : Nat.gcd v (u % v) = g := by rw [← h, Nat.gcd_comm u v, Nat.gcd_rec v u, Nat.gcd_comm]
theorem gcd_ed {u v g : Nat} (h : Nat.gcd u v = g) (hv : ¬ 0 < v) : g = u := by
 have : v = 0 := by omega
 subst this; simpa using h.symm
theorem kin_ok {q c : Int} (h : kinOk q c) : OkM (kinM q c) := by
 obtain ⟨h1, h2, h3, h4, h5, h6⟩ := h
 refine ⟨show (2 : Int) ≤ 2 by decide, show (2 : Int) ≤ 12 by decide, by rfl, by rfl, fun r hr => ?_⟩
 have hr2 : (r : Int) < 2 := hr
 have : r = 0 ∨ r = 1 := by omega
 rcases this with rfl | rfl
 ·exact ⟨show (1 : Int) ≤ 1 by decide, show (1 : Int) ≤ 999 by decide, show (-999999 : Int) ≤ 0 by decide, show (0 : Int) ≤ 999999 by decide, show Int.tmod ((1 : Int) * ((0 : Nat) : Int) + 0) 2 = 0 by decide⟩
 ·refine ⟨h1, h2, h3, h4, ?_⟩
  show Int.tmod (q * ((1 : Nat) : Int) + c) 2 = 0
  rw [Int.natCast_one, Int.mul_one]
  have a1 : ¬ (2 : Int) ∣ q := fun hd => h5 (Int.tmod_eq_zero_of_dvd hd)
  have a2 : ¬ (2 : Int) ∣ c := fun hd => h6 (Int.tmod_eq_zero_of_dvd hd)
  exact Int.tmod_eq_zero_of_dvd (by omega)
end Go.Mth

namespace Go.Proofs.YtaeknciienkijaaGreatDoor
open Go Go.Ab Go.Mth
theorem f75_ : callable cx.P 37 = true := by kernel_rfl
theorem c_sCommon (a b : Nat) : ECalls cx 37 [Nv a, Nv b] (Nv (Nat.gcd a b)) := by
 refine ecalls_of_awp Tryz.func37 (c := _) rfl (Nat.le_of_ble_eq_true rfl) ?_
 show awp cx 12 _ (postF cx Tryz.f37 _) ⟨[(0, Nv a), (1, Nv b)], []⟩
 refine awp_seq fun K0 hK0 => awp_region rfl (o_as (Nv 0) rfl (aops_end (hK0 _ (awp_seq fun K1 hK1 => ?_))))
 refine awp_block ?_
 refine awp_loopR (fun κ σ => ∃ (u : Nat), ∃ (v : Nat), (Nat.gcd u v = Nat.gcd a b) ∧ v = κ ∧ σ = ⟨[(0, Nv u), (1, Nv v)], []⟩) ⟨_, _, ⟨a, b, rfl, rfl, rfl⟩, ?wk0⟩ ?rd0
 case wk0 =>
  exact Wk.sub ⟨(by first | rfl | exact nm_int (by omega)), (by first | rfl | exact nm_int (by omega)), trivial⟩ trivial
 rintro κ _ ⟨u, v, hg, rfl, rfl⟩
 refine awp_seq fun K2 hK2 => awp_seq fun K3 hK3 => awp_region rfl (o_mv (Nv v) rfl ?_)
 refine n_gtr v 0 gn rfl rfl ?_
 refine aops_end (hK3 _ ?_)
 refine awp_condQ (q := 0 < v) rfl (fun h1 => ?_) (fun h1 => ?_)
 ·refine awp_skip (hK2 _ ?_)
  refine awp_block ?_
  refine awp_regionD rfl (o_mv (Nv v) rfl (o_mv (Nv u) rfl (o_mv (Nv v) rfl ?_)))
  refine n_rem u v gn rfl rfl (by omega) ?_
  refine o_as (Nv v) rfl (o_as (Nv (u % v)) rfl ?_)
  refine aops_end ⟨by kernel_rfl, ?_⟩
  refine ⟨_, _, ?lt, ⟨v, u % v, gcd_nx hg, rfl, rfl⟩, ?wk⟩
  case lt => exact Nat.mod_lt u (by assumption)
  case wk => exact Wk.sub ⟨(by first | rfl | exact nm_int (by omega)), (by first | rfl | exact nm_int (by omega)), trivial⟩ trivial
 ·refine awp_exit ?_
  refine hK1 _ (awp_seq fun K4 hK4 => awp_region rfl (o_mv (Nv u) rfl (o_as (Nv u) rfl (aops_end (hK4 _ ?_)))))
  refine awp_ret ?_
  refine post_ret ⟨[Nv u], ⟨AV.le_refl _, trivial⟩, rfl, ?_⟩
  exact congrArg (nm _) (gcd_ed hg h1)

theorem c_sFree (m : MapM) (hM : OkM m) : ECalls cx 13 [mapV m] (bp (freeM m)) := by
 refine ecalls_of_awp Tryz.func13 (c := _) rfl (Nat.le_of_ble_eq_true rfl) ?_
 show awp cx 18 _ (postF cx Tryz.f13 _) ⟨[(0, mapV m)], []⟩
 obtain ⟨o1, o2, o3, o4, o5⟩ := hM
 refine awp_seq fun K0 hK0 => awp_region rfl ?_
 refine o_box 2 [Iv m.mod, Lv m.mul, Lv m.add] gn rfl rfl ?_
 refine o_as Fv rfl (aops_end (hK0 _ (awp_seq fun K1 hK1 => awp_seq fun K2 hK2 => awp_region rfl ?_)))
 refine o_fieldRef 1 gn f66_ rfl rfl ?_
 refine o_loadS (Lv m.mul) gn f1_ rfl rfl rfl ?_
 refine i_len m.mul gn f2_ rfl ?_
 refine o_mv (Nv 0) rfl (aops_end (hK2 _ ?_))
 refine awp_block ?_
 refine awp_loopR (fun κ σ => ∃ (i : Nat), (i ≤ m.mul.length) ∧ (∀ k, k < i → Nat.gcd (m.mul.getD k 0).toNat m.mod.toNat ≤ 1) ∧ (m.mul.length - i) = κ ∧ σ = ⟨[(1, .ref 2 0), (6, Lv m.mul), (7, Nv ((m.mul).length)), (8, Nv i)], [(2, oM 28 m)]⟩) ⟨_, _, ⟨0, (by omega), (fun k hk => by omega), rfl, rfl⟩, ?wk0⟩ ?rd0
 case wk0 =>
  exact Wk.sub ⟨rfl, rfl, rfl, (by first | rfl | exact nm_int (by omega)), trivial⟩ ⟨rfl, trivial⟩
 rintro κ _ ⟨i, hi, hf, rfl, rfl⟩
 refine awp_seq fun K3 hK3 => awp_region rfl ?_
 refine n_lss i ((m.mul).length) gn rfl rfl ?_
 refine aops_end (hK3 _ (awp_seq fun K4 hK4 => ?_))
 refine awp_condQ (q := i < ((m.mul).length)) rfl (fun h1 => ?_) (fun h1 => ?_)
 ·have hoi := o5 i (by omega)
  refine awp_skip (hK4 _ (awp_seq fun K5 hK5 => ?_))
  refine awp_block ?_
  refine awp_seq fun K6 hK6 => awp_region rfl ?_
  refine i_index m.mul i gn f10_ rfl rfl (by omega) ?_
  refine i_loadI m.mul i gn f11_ rfl (by omega) ?_
  refine o_as (Iv ((m.mul).getD i 0)) rfl (aops_end (hK6 _ (awp_seq fun K7 hK7 => awp_region rfl (o_mv (Iv ((m.mul).getD i 0)) rfl ?_))))
  refine n_as (v' := (Nv (((m.mul).getD i 0).toNat))) (nm_int (by omega)) ?_
  refine o_fieldRef 0 gn f62_ rfl rfl ?_
  refine o_loadS (Iv m.mod) gn f11_ rfl rfl rfl ?_
  refine n_as (v' := (Nv m.mod.toNat)) (nm_int (by omega)) ?_
  refine o_ct (c_sCommon (((m.mul).getD i 0).toNat) m.mod.toNat) gn f75_ rfl ?_
  refine n_gtr (Nat.gcd (((m.mul).getD i 0).toNat) m.mod.toNat) 1 gn rfl rfl ?_
  refine aops_end (hK7 _ ?_)
  refine awp_condQ (q := 1 < (Nat.gcd (((m.mul).getD i 0).toNat) m.mod.toNat)) rfl (fun h2 => ?_) (fun h2 => ?_)
  ·refine awp_seq fun K8 hK8 => awp_region rfl (o_as Fv rfl (aops_end (hK8 _ ?_)))
   refine awp_ret ?_
   refine post_ret ⟨[Fv], ⟨AV.le_refl _, trivial⟩, rfl, ?_⟩
   exact (bl_bp (b := false) ⟨fun h => (by cases h), fun h => absurd h (fun hh => absurd (hh i h1) (by omega))⟩).symm
  ·refine awp_skip (hK5 _ (awp_region rfl ?_))
   refine n_add i 1 gn rfl rfl (by simp only [topOf]; omega) ?_
   refine o_mv (Nv (i + 1)) rfl (aops_end ?_)
   refine ⟨_, _, ?lt, ⟨i + 1, (by omega), (fun k hk => by rcases Nat.lt_or_ge k i with e | e; exact hf k e; rw [show k = i by omega]; omega), rfl, rfl⟩, ?wk⟩
   case lt => omega
   case wk => exact Wk.sub ⟨rfl, rfl, rfl, (by first | rfl | exact nm_int (by omega)), trivial⟩ ⟨rfl, trivial⟩
 ·refine awp_exit ?_
  refine hK1 _ (awp_seq fun K9 hK9 => awp_region rfl (o_as Tv rfl (aops_end (hK9 _ ?_))))
  refine awp_ret ?_
  refine post_ret ⟨[Tv], ⟨AV.le_refl _, trivial⟩, rfl, ?_⟩
  exact (bl_bp (b := true) ⟨fun _ => (show freeM m from fun k hk => hf k (by omega)), fun _ => rfl⟩).symm

end Go.Proofs.YtaeknciienkijaaGreatDoor

namespace Go.Mth
open Go.Ab
def prodZ (m : MapM) (z : Int) : Nat → Int
 | 0 => 1
 | i + 1 => prodZ m z i * m.mul.getD (iterZ m i z % m.mod).toNat 0
theorem stepZ_add {m : MapM} (hm : OkM m) (z c : Int) : stepZ m (z + m.mod * c) = stepZ m z + m.mul.getD (z % m.mod).toNat 0 * c := by
 have h2 : 2 ≤ m.mod := hm.1
 unfold stepZ
 rw [Int.add_mul_emod_self_left]
 have e : m.mul.getD (z % m.mod).toNat 0 * (z + m.mod * c) + m.add.getD (z % m.mod).toNat 0 = (m.mul.getD (z % m.mod).toNat 0 * z + m.add.getD (z % m.mod).toNat 0) + (m.mul.getD (z % m.mod).toNat 0 * c) * m.mod := by
  rw [Int.mul_add, Int.mul_assoc, Int.mul_comm c m.mod]
  omega
 rw [e, Int.add_mul_ediv_right _ _ (by omega)]
theorem alike {m : MapM} (hm : OkM m) (x d : Int) (k : Nat) : ∀ i, i ≤ k → iterZ m i (x + d * m.mod ^ k) = iterZ m i x + d * prodZ m x i * m.mod ^ (k - i)
 | 0, _ => by simp [iterZ, prodZ]
 | i + 1, h => by
  rw [iterZ, alike hm x d k i (by omega), show k - i = (k - (i + 1)) + 1 by omega, Int.pow_succ]
  rw [show d * prodZ m x i * (m.mod ^ (k - (i + 1)) * m.mod) = m.mod * (d * prodZ m x i * m.mod ^ (k - (i + 1))) by ac_rfl]
  rw [stepZ_add hm, iterZ, prodZ]
  congr 1
  ac_rfl
theorem alike_end {m : MapM} (hm : OkM m) (x d : Int) (k : Nat) : iterZ m k (x + d * m.mod ^ k) - iterZ m k x = d * prodZ m x k := by
 rw [alike hm x d k k (Nat.le_refl _), Nat.sub_self, Int.pow_zero, Int.mul_one]; omega
end Go.Mth

namespace Go.Mth
open Go.Ab
def wordZ (m : MapM) (z : Int) : Nat → List Int
 | 0 => []
 | k + 1 => wordZ m z k ++ [iterZ m k z % m.mod]
structure LinZ where
 mul : Int
 add : Int
 div : Int
def oneZ : LinZ := ⟨1, 0, 1⟩
def mulM (m : MapM) (r : Int) : Int := m.mul.getD r.toNat 0
def addM (m : MapM) (r : Int) : Int := m.add.getD r.toNat 0
def thenZ (m : MapM) (l : LinZ) (r : Int) : LinZ := ⟨mulM m r * l.mul, mulM m r * l.add + addM m r * l.div, l.div * m.mod⟩
def lineZ (m : MapM) (w : List Int) : LinZ := w.foldl (thenZ m) oneZ
theorem lineZ_snoc (m : MapM) (w : List Int) (r : Int) : lineZ m (w ++ [r]) = thenZ m (lineZ m w) r := by unfold lineZ; rw [List.foldl_append]; rfl
theorem wordZ_len (m : MapM) (z : Int) : ∀ k, (wordZ m z k).length = k
 | 0 => rfl
 | k + 1 => by rw [wordZ, List.length_append, wordZ_len m z k]; rfl
theorem snoc_ind {P : List Int → Prop} (h0 : P []) (hs : ∀ w r, P w → P (w ++ [r])) : ∀ w, P w := by
 intro w
 have h : ∀ l : List Int, P l.reverse := by
  intro l
  induction l with
  | nil => exact h0
  | cons x l ih => rw [List.reverse_cons]; exact hs _ _ ih
 have := h w.reverse
 rwa [List.reverse_reverse] at this
theorem lineZ_div (m : MapM) : ∀ w : List Int, (lineZ m w).div = m.mod ^ w.length := by
 refine snoc_ind (P := fun w => (lineZ m w).div = m.mod ^ w.length) (by simp [lineZ, oneZ]) fun w r ih => ?_
 show (lineZ m (w ++ [r])).div = m.mod ^ (w ++ [r]).length
 rw [lineZ_snoc, thenZ, ih, List.length_append, List.length_cons, List.length_nil, Int.pow_add]; simp [Int.pow_succ]
theorem lineZ_app (m : MapM) (u v : List Int) : (lineZ m (u ++ v)).mul = (lineZ m v).mul * (lineZ m u).mul ∧ (lineZ m (u ++ v)).add = (lineZ m v).mul * (lineZ m u).add + (lineZ m v).add * (lineZ m u).div ∧ (lineZ m (u ++ v)).div = (lineZ m u).div * (lineZ m v).div := by
 refine snoc_ind (P := fun v => (lineZ m (u ++ v)).mul = (lineZ m v).mul * (lineZ m u).mul ∧ (lineZ m (u ++ v)).add = (lineZ m v).mul * (lineZ m u).add + (lineZ m v).add * (lineZ m u).div ∧ (lineZ m (u ++ v)).div = (lineZ m u).div * (lineZ m v).div) ?_ (fun v r ih => ?_) v
 ·show (lineZ m (u ++ [])).mul = _ ∧ _
  rw [List.append_nil]; refine ⟨?_, ?_, ?_⟩ <;> simp [lineZ, oneZ]
 ·rw [← List.append_assoc, lineZ_snoc, lineZ_snoc, thenZ, thenZ]
  obtain ⟨h1, h2, h3⟩ := ih
  refine ⟨?_, ?_, ?_⟩
  ·show mulM m r * (lineZ m (u ++ v)).mul = mulM m r * (lineZ m v).mul * (lineZ m u).mul
   rw [h1, Int.mul_assoc]
  ·show mulM m r * (lineZ m (u ++ v)).add + addM m r * (lineZ m (u ++ v)).div = mulM m r * (lineZ m v).mul * (lineZ m u).add + (mulM m r * (lineZ m v).add + addM m r * (lineZ m v).div) * (lineZ m u).div
   rw [h2, h3, Int.mul_add, Int.add_mul, Int.mul_assoc, Int.mul_assoc (mulM m r), Int.mul_assoc (addM m r), Int.mul_comm (lineZ m u).div]
   omega
  ·show (lineZ m (u ++ v)).div * m.mod = (lineZ m u).div * ((lineZ m v).div * m.mod)
   rw [h3, Int.mul_assoc]
theorem getD_toNat {m : MapM} (hm : OkM m) (z : Int) : (stepZ m z) * m.mod = mulM m (z % m.mod) * z + addM m (z % m.mod) := by
 obtain ⟨o1, o2, o3, o4, o5⟩ := hm
 have hr0 := Int.emod_nonneg z (show m.mod ≠ 0 by omega)
 have hr1 := Int.emod_lt_of_pos z (show 0 < m.mod by omega)
 obtain ⟨_, _, _, _, h⟩ := o5 (z % m.mod).toNat (by omega)
 have hd := Int.dvd_of_tmod_eq_zero h
 unfold stepZ mulM addM
 refine Int.ediv_mul_cancel ?_
 have he := Int.mul_ediv_add_emod z m.mod
 have hz : m.mul.getD (z % m.mod).toNat 0 * z + m.add.getD (z % m.mod).toNat 0 = (m.mul.getD (z % m.mod).toNat 0 * ((z % m.mod).toNat : Int) + m.add.getD (z % m.mod).toNat 0) + m.mod * (m.mul.getD (z % m.mod).toNat 0 * (z / m.mod)) := by
  rw [show (((z % m.mod).toNat : Nat) : Int) = z % m.mod from Int.toNat_of_nonneg hr0, Int.mul_left_comm m.mod]
  have : m.mul.getD (z % m.mod).toNat 0 * z = m.mul.getD (z % m.mod).toNat 0 * (m.mod * (z / m.mod) + z % m.mod) := by rw [he]
  rw [this, Int.mul_add]
  omega
 rw [hz]
 exact Int.dvd_add hd (Int.dvd_mul_right _ _)
theorem line_iter {m : MapM} (hm : OkM m) (z : Int) : ∀ k, iterZ m k z * (lineZ m (wordZ m z k)).div = (lineZ m (wordZ m z k)).mul * z + (lineZ m (wordZ m z k)).add
 | 0 => by simp [wordZ, lineZ, oneZ, iterZ]
 | k + 1 => by
  have ih := line_iter hm z k
  have hs := getD_toNat hm (iterZ m k z)
  rw [wordZ, lineZ_snoc, iterZ]
  show stepZ m (iterZ m k z) * ((lineZ m (wordZ m z k)).div * m.mod) = mulM m (iterZ m k z % m.mod) * (lineZ m (wordZ m z k)).mul * z + (mulM m (iterZ m k z % m.mod) * (lineZ m (wordZ m z k)).add + addM m (iterZ m k z % m.mod) * (lineZ m (wordZ m z k)).div)
  rw [Int.mul_comm (lineZ m (wordZ m z k)).div, ← Int.mul_assoc, hs, Int.add_mul, Int.mul_assoc, ih, Int.mul_add, Int.mul_assoc]
  omega
theorem prod_free {m : MapM} (hm : OkM m) (hf : freeM m) (x : Int) : ∀ k, Nat.Coprime (prodZ m x k).natAbs m.mod.toNat
 | 0 => by simp [prodZ]
 | k + 1 => by
  have hm2 := hm
  obtain ⟨o1, o2, o3, o4, o5⟩ := hm2
  have hr0 := Int.emod_nonneg (iterZ m k x) (show m.mod ≠ 0 by omega)
  have hr1 := Int.emod_lt_of_pos (iterZ m k x) (show 0 < m.mod by omega)
  have h1 := hf (iterZ m k x % m.mod).toNat (by omega)
  obtain ⟨hq, _, _, _, _⟩ := o5 (iterZ m k x % m.mod).toNat (by omega)
  rw [prodZ, Int.natAbs_mul]
  refine Nat.Coprime.mul_left (prod_free hm hf x k) ?_
  have : (m.mul.getD (iterZ m k x % m.mod).toNat 0).natAbs = (m.mul.getD (iterZ m k x % m.mod).toNat 0).toNat := by omega
  rw [this]
  have hp := Nat.gcd_pos_of_pos_right (m.mul.getD (iterZ m k x % m.mod).toNat 0).toNat (show 0 < m.mod.toNat by omega)
  show Nat.gcd _ _ = 1
  omega
theorem word_rest {m : MapM} (hm : OkM m) (hf : freeM m) (x y : Int) : ∀ k, wordZ m x k = wordZ m y k ↔ ∃ e, y = x + e * m.mod ^ k
 | 0 => by
  constructor
  ·intro _; exact ⟨y - x, by rw [Int.pow_zero]; omega⟩
  ·intro _; rfl
 | k + 1 => by
  have hm2 := hm
  obtain ⟨o1, o2, o3, o4, o5⟩ := hm2
  have ih := word_rest hm hf x y k
  have hstep : ∀ e, y = x + e * m.mod ^ k → iterZ m k y = iterZ m k x + e * prodZ m x k := fun e he => by
   have := alike_end hm x e k
   rw [he]; omega
  rw [wordZ, wordZ]
  constructor
  ·intro h
   have hl := List.append_inj h (by rw [wordZ_len, wordZ_len])
   obtain ⟨e, he⟩ := ih.1 hl.1
   have hr : iterZ m k x % m.mod = iterZ m k y % m.mod := by simpa using hl.2
   rw [hstep e he] at hr
   have hd : m.mod ∣ e * prodZ m x k := by
    have := Int.emod_emod_of_dvd (iterZ m k x) (Int.dvd_refl m.mod)
    have h2 := Int.emod_eq_emod_iff_emod_sub_eq_zero.1 hr.symm
    rw [show iterZ m k x + e * prodZ m x k - iterZ m k x = e * prodZ m x k by omega] at h2
    exact Int.dvd_of_emod_eq_zero h2
   have hn := Int.natAbs_dvd_natAbs.2 hd
   rw [Int.natAbs_mul] at hn
   have hmn : m.mod.natAbs = m.mod.toNat := by omega
   rw [hmn] at hn
   have he2 : m.mod.toNat ∣ e.natAbs := Nat.Coprime.dvd_of_dvd_mul_right ((prod_free hm hf x k).symm) hn
   rw [← hmn] at he2
   obtain ⟨d, hd2⟩ := Int.natAbs_dvd_natAbs.1 he2
   exact ⟨d, by rw [he, hd2, Int.pow_succ, Int.mul_comm (m.mod ^ k), ← Int.mul_assoc, Int.mul_comm d]⟩
  ·rintro ⟨e, he⟩
   have he' : y = x + (e * m.mod) * m.mod ^ k := by rw [he, Int.pow_succ, Int.mul_comm (m.mod ^ k), Int.mul_assoc]
   rw [ih.2 ⟨_, he'⟩, hstep _ he', Int.mul_assoc, Int.mul_left_comm, Int.add_mul_emod_self_left]
theorem solve : ∀ n, n < 13 → ∀ p, p < n → Nat.gcd p n = 1 → ∀ a, a < n → ∀ r, r < n → ∃ t, t < n ∧ (a + t * p) % n = r := by decide +kernel
theorem prod_line (m : MapM) (z : Int) : ∀ k, prodZ m z k = (lineZ m (wordZ m z k)).mul
 | 0 => rfl
 | k + 1 => by
  rw [prodZ, wordZ, lineZ_snoc, prod_line m z k, Int.mul_comm]
  rfl
def lookT (p n a r : Int) : Nat := ((List.range n.toNat).find? fun (t : Nat) => decide ((a + (t : Int) * p) % n = r)).getD 0
theorem lookT_ok {p n a r : Int} (hn : 0 < n) (hn2 : n ≤ 12) (hp : Nat.gcd p.natAbs n.toNat = 1) (hr : 0 ≤ r) (hr2 : r < n) : (lookT p n a r : Int) < n ∧ (a + (lookT p n a r : Int) * p) % n = r := by
 have hp0 := Int.emod_nonneg p (show n ≠ 0 by omega)
 have hp1 := Int.emod_lt_of_pos p hn
 have ha0 := Int.emod_nonneg a (show n ≠ 0 by omega)
 have ha1 := Int.emod_lt_of_pos a hn
 have hg : Nat.gcd (p % n).toNat n.toNat = 1 := by
  have h1 : Int.gcd (p % n) n = Int.gcd p n := by
   rw [Int.gcd_comm, Int.gcd_comm p]
   have := Int.gcd_add_mul_left_right n (p % n) (p / n)
   rw [← this, Int.add_comm, Int.mul_ediv_add_emod]
  unfold Int.gcd at h1
  rw [show (p % n).natAbs = (p % n).toNat by omega, show n.natAbs = n.toNat by omega] at h1
  rw [h1]; exact hp
 obtain ⟨t, ht, he⟩ := solve n.toNat (by omega) (p % n).toNat (by omega) hg (a % n).toNat (by omega) r.toNat (by omega)
 have hz : (a + (t : Int) * p) % n = r := by
  have h2 : (((a % n).toNat + t * (p % n).toNat : Nat) : Int) % (n.toNat : Int) = (r.toNat : Int) := by rw [← Int.natCast_emod, he]
  rw [Int.toNat_of_nonneg (by omega), Int.toNat_of_nonneg hr, Int.natCast_add, Int.natCast_mul, Int.toNat_of_nonneg ha0, Int.toNat_of_nonneg hp0] at h2
  rw [← h2]
  simp [Int.add_emod, Int.mul_emod]
 have hs : ((List.range n.toNat).find? fun (t : Nat) => decide ((a + (t : Int) * p) % n = r)).isSome = true := by
  rw [List.find?_isSome]
  exact ⟨t, by simpa using ht, by simpa using hz⟩
 obtain ⟨u, hu⟩ := Option.isSome_iff_exists.1 hs
 unfold lookT
 rw [hu]
 have h1 := List.find?_some hu
 have h2 := List.mem_of_find?_eq_some hu
 simp at h1 h2
 exact ⟨by show (u : Int) < n; omega, h1⟩
def nextR (m : MapM) (s : Int × LinZ) (r : Int) : Int × LinZ := (s.1 + (lookT s.2.mul m.mod ((s.2.mul * s.1 + s.2.add) / s.2.div) r : Int) * s.2.div, thenZ m s.2 r)
def restZ (m : MapM) (w : List Int) : Int × LinZ := w.foldl (nextR m) (0, oneZ)
theorem restZ_snoc (m : MapM) (w : List Int) (r : Int) : restZ m (w ++ [r]) = nextR m (restZ m w) r := by unfold restZ; rw [List.foldl_append]; rfl
def IsW (m : MapM) (w : List Int) : Prop := ∀ r ∈ w, 0 ≤ r ∧ r < m.mod
theorem restZ_ok {m : MapM} (hm : OkM m) (hf : freeM m) : ∀ w : List Int, IsW m w → (restZ m w).2 = lineZ m w ∧ 0 ≤ (restZ m w).1 ∧ (restZ m w).1 < m.mod ^ w.length ∧ wordZ m (restZ m w).1 w.length = w := by
 refine snoc_ind (P := fun w => IsW m w → (restZ m w).2 = lineZ m w ∧ 0 ≤ (restZ m w).1 ∧ (restZ m w).1 < m.mod ^ w.length ∧ wordZ m (restZ m w).1 w.length = w) (fun _ => ⟨rfl, Int.le_refl 0, by simp [restZ], rfl⟩) fun w r ih hw => ?_
 have hw1 : IsW m w := fun x hx => hw x (by simp [hx])
 obtain ⟨hr0, hr1⟩ := hw r (by simp)
 obtain ⟨h1, h2, h3, h4⟩ := ih hw1
 have hm2 := hm
 obtain ⟨o1, o2, o3, o4, o5⟩ := hm2
 obtain ⟨R, hR⟩ : ∃ R, R = (restZ m w).1 := ⟨_, rfl⟩
 rw [← hR] at h2 h3 h4
 have hdiv := lineZ_div m w
 have hpos : 0 < m.mod ^ w.length := Int.pow_pos (by omega)
 have hli := line_iter hm R w.length
 rw [h4] at hli
 have hpl := prod_line m R w.length
 rw [h4] at hpl
 have ha : ((lineZ m w).mul * R + (lineZ m w).add) / (lineZ m w).div = iterZ m w.length R := by
  rw [← hli]
  exact Int.mul_ediv_cancel _ (by rw [hdiv]; omega)
 have hcop : Nat.gcd (lineZ m w).mul.natAbs m.mod.toNat = 1 := by rw [← hpl]; exact prod_free hm hf R w.length
 obtain ⟨ht1, ht2⟩ := lookT_ok (p := (lineZ m w).mul) (a := iterZ m w.length R) (by omega) o2 hcop hr0 hr1
 obtain ⟨t, ht⟩ : ∃ t : Nat, t = lookT (lineZ m w).mul m.mod (iterZ m w.length R) r := ⟨_, rfl⟩
 rw [← ht] at ht1 ht2
 have hs : restZ m (w ++ [r]) = (R + (t : Int) * m.mod ^ w.length, thenZ m (lineZ m w) r) := by
  rw [restZ_snoc]
  unfold nextR
  rw [h1, ← hR, ha, hdiv, ← ht]
 rw [hs, lineZ_snoc]
 have hlen : (w ++ [r]).length = w.length + 1 := by simp
 refine ⟨rfl, ?_, ?_, ?_⟩
 ·show 0 ≤ R + (t : Int) * m.mod ^ w.length
  have := Int.mul_nonneg (show (0 : Int) ≤ (t : Int) by omega) (show 0 ≤ m.mod ^ w.length by omega)
  omega
 ·show R + (t : Int) * m.mod ^ w.length < m.mod ^ (w ++ [r]).length
  rw [hlen, Int.pow_succ]
  have := Int.mul_le_mul_of_nonneg_left (show (t : Int) + 1 ≤ m.mod by omega) (show 0 ≤ m.mod ^ w.length by omega)
  rw [Int.mul_add, Int.mul_one, Int.mul_comm _ (t : Int)] at this
  omega
 ·show wordZ m (R + (t : Int) * m.mod ^ w.length) (w ++ [r]).length = w ++ [r]
  rw [hlen, wordZ]
  have e1 : wordZ m (R + (t : Int) * m.mod ^ w.length) w.length = w := by
   rw [← (word_rest hm hf R (R + (t : Int) * m.mod ^ w.length) w.length).2 ⟨t, rfl⟩, h4]
  have e2 := alike_end hm R (t : Int) w.length
  have e3 : iterZ m w.length (R + (t : Int) * m.mod ^ w.length) = iterZ m w.length R + (t : Int) * (lineZ m w).mul := by rw [← hpl]; omega
  rw [e1, e3, ht2]
end Go.Mth

namespace Go.Proofs.YtaeknciienkijaaGreatDoor
open Go Go.Shelf Go.RowKit Go.Lib Go.Ab Go.Mth
theorem i122 : (Tryz.prog.info? 93).map (fun i => (i.zero, i.size, i.bytes)) = some (some (Value.int IntKind.u32 0), 1, 4) := by kernel_rfl
set_option maxHeartbeats 4000000 in
set_option maxRecDepth 100000 in
theorem insert_front (b off n vb voff vc : Nat) (cs : List Value) (x : Value) (w : World) (hn : 0 < n) (hbig : (n + 1) * 4 ≤ 140737488355328) (hcl : cs.length = n)
  (hcs : ∀ j v, cs[j]? = some v → w.cell? ⟨b, off + j, none⟩ = some v) (hx : w.cell? ⟨vb, voff, none⟩ = some x) (h1c : ∀ v ∈ cs, v.oneCell' = true) (h1x : x.oneCell' = true) :
  Calls Tryz.prog 119 #[.slice (some ⟨b, off, none⟩) n n, .int .i64 0, .slice (some ⟨vb, voff, none⟩) 1 vc] w fun e w' =>
   e = .returned (.slice (some ⟨w.heap.size, 0, none⟩) (n + 1) (grownCap w (n + 1) n 93)) ∧
   w' = (((w.alloc (.cells (Builtin.zeroCells (Value.int .u32 0).cells (n + 1) ++ Builtin.zeroCells (Value.int .u32 0).cells (grownCap w (n + 1) n 93 - (n + 1))) 93)).drew.setCells w.heap.size 0 [x]).drew).setCells w.heap.size 1 cs := by
 have t3 := Tryz.underlying3; have a3 := Tryz.isAgg3; have z3 := Tryz.sizeOf3; have v3 := Tryz.zeroValue3; have t4 := Tryz.underlying4; have a4 := Tryz.isAgg4; have z4 := Tryz.sizeOf4; have v4 := Tryz.zeroValue4
 have t87 := Tryz.underlying49; have a87 := Tryz.isAgg49; have z87 := Tryz.sizeOf49; have v87 := Tryz.zeroValue49; have t122 := Tryz.underlying93; have a122 := Tryz.isAgg93; have z122 := Tryz.sizeOf93; have v122 := Tryz.zeroValue93
 have u3 := run_underlying Tryz.underlying3; have u4 := run_underlying Tryz.underlying4; have u87 := run_underlying Tryz.underlying49; have u122 := run_underlying Tryz.underlying93
 have mixed := mixedT
 obtain ⟨i0, hi0, hz0, hzs, hzb⟩ := info_parts i122
 have hz2 : ¬ ((0 : Int) = (n : Int)) := by omega
 have hz3 : (n : Int) < (n : Int) + 1 := by omega
 have hsz : (Tryz.prog.info? 93).map (·.size) = some 1 := by rw [hi0]; simp [hzs]
 have hbw : b < w.heap.size := block_lt_of_cell (hcs 0 _ (List.getElem?_eq_getElem (by omega)))
 have hvw : vb < w.heap.size := block_lt_of_cell hx
 have hold : (Builtin.firstCells i0.size 0 (.slice (some ⟨b, off, none⟩) 0 n)).run Tryz.prog w.drew = .ok ([] : List Value).toArray w.drew := by
  rw [hzs]
  exact run_firstCells_some w.drew 1 0 ⟨b, off, none⟩ 0 n [] rfl (fun j v hj => by cases hj)
 have hrz : ∀ ty, (Builtin.append_ #[49, 3] ty #[.slice (some ⟨b, off, none⟩) 0 n, .int .i64 ((n : Int) + 1 - 0)]).run Tryz.prog w =
   .ok (.slice (some ⟨w.heap.size, 0, none⟩) (n + 1) (grownCap w (n + 1) n 93)) (w.drew.alloc (.cells (Builtin.zeroCells (Value.int .u32 0).cells (n + 1) ++ Builtin.zeroCells (Value.int .u32 0).cells (grownCap w (n + 1) n 93 - (n + 1))) 93)) := fun ty => by
  have h := Lib.run_append_grow_zeros w 49 3 ty 93 i0 _ .i64 .i64 Tryz.underlying49 Tryz.underlying3 hi0 hz0 (some ⟨b, off, none⟩) 0 n [] hold (n + 1) (by omega) (by omega) (by omega) (by omega) (by rw [hzb]; omega) (by rw [hzb, Nat.zero_add]; exact growslice_fits (by omega) hbig)
  rw [Nat.zero_add] at h
  simpa using h
 obtain ⟨G, hG⟩ : ∃ G, G = grownCap w (n + 1) n 93 := ⟨_, rfl⟩
 obtain ⟨ROW, hROW⟩ : ∃ ROW : Array Value, ROW = Builtin.zeroCells (Value.int .u32 0).cells (n + 1) ++ Builtin.zeroCells (Value.int .u32 0).cells (G - (n + 1)) := ⟨_, rfl⟩
 rw [← hG] at hrz ⊢
 rw [← hROW] at hrz ⊢
 have hRl : n + 1 ≤ ROW.size := by
  rw [hROW]
  simp [Builtin.zeroCells, Value.cells]
 obtain ⟨W1, hW1⟩ : ∃ W1, W1 = w.drew.alloc (.cells ROW 93) := ⟨_, rfl⟩
 rw [← hW1] at hrz
 have hN : ∀ j, j < n + 1 → (W1.cell? ⟨w.heap.size, j, none⟩).isSome = true := fun j hj => by
  rw [hW1, World.cell?_alloc_at (w := w.drew) ROW _ w.heap.size j rfl, Array.getElem?_eq_getElem (by omega)]; rfl
 have hNf : ∀ j, W1.frozen? ⟨w.heap.size, j, none⟩ = false := fun j => by rw [hW1]; exact World.frozen?_alloc_at (w := w.drew) ROW _ w.heap.size j rfl
 have hOb : ∀ j v, w.cell? ⟨b, j, none⟩ = some v → W1.cell? ⟨b, j, none⟩ = some v := fun j v h => by rw [hW1, World.cell?_alloc_past (w := w.drew) _ b j hbw]; exact h
 have hOv : ∀ j v, w.cell? ⟨vb, j, none⟩ = some v → W1.cell? ⟨vb, j, none⟩ = some v := fun j v h => by rw [hW1, World.cell?_alloc_past (w := w.drew) _ vb j hvw]; exact h
 have hcpA : ∀ (W : World), (∀ x, W.cell? x = W1.cell? x) → (∀ x, W.frozen? x = W1.frozen? x) → ∀ ty dc, (Builtin.copy_ #[49, 49] ty #[.slice (some ⟨w.heap.size, 0, none⟩) (n + 1) dc, .slice (some ⟨vb, voff, none⟩) 1 vc]).run Tryz.prog W = .ok (goInt [x].length) (W.setCells w.heap.size 0 [x]) := fun W hWc hWf ty dc =>
  run_copy_cells W _ _ ty 93 w.heap.size 0 (n + 1) dc ⟨vb, voff, none⟩ 1 vc [x] Tryz.underlying49 hsz (by simp only [List.length_cons, List.length_nil, Nat.min_def]; split <;> omega)
   (fun j v hj => by
    cases j with
    | zero => simp at hj; subst hj; rw [Addr.add_lit, hWc]; exact hOv _ _ hx
    | succ j => simp at hj)
   (fun j hj => by rw [hWc]; simp at hj; subst hj; exact hN _ (by omega)) (fun j hj => by rw [hWf]; exact hNf _) (fun v hv => by simp at hv; subst hv; exact h1x)
 have hGn : n + 1 ≤ G := by rw [hG]; exact grownCap_ge w _ _ _
 have hG63 : G ≤ 9223372036854775807 := by
  have := grownCap_le_maxLen w (n + 1) n 93 (by unfold maxLen; omega)
  rw [← hG] at this
  unfold maxLen at this
  omega
 have hbN : b ≠ w.heap.size := by omega
 have hcpB : ∀ (W : World), (∀ a, W.cell? a = (W1.setCells w.heap.size 0 [x]).cell? a) → (∀ a, W.frozen? a = (W1.setCells w.heap.size 0 [x]).frozen? a) → ∀ ty dc sc, (Builtin.copy_ #[49, 49] ty #[.slice (some ⟨w.heap.size, 1, none⟩) n dc, .slice (some ⟨b, off, none⟩) n sc]).run Tryz.prog W = .ok (goInt cs.length) (W.setCells w.heap.size 1 cs) := fun W hWc hWf ty dc sc =>
  run_copy_cells W _ _ ty 93 w.heap.size 1 n dc ⟨b, off, none⟩ n sc cs Tryz.underlying49 hsz (by rw [hcl]; simp only [Nat.min_def]; split <;> omega)
   (fun j v hj => by
    rw [Addr.add_lit, hWc, World.cell?_setCells_out _ _ _ _ _ (fun h _ => absurd h hbN)]
    exact hOb _ v (hcs j v hj))
   (fun j hj => by rw [hWc]; exact isSome_setCells _ _ _ _ (fun t ht => hN _ (by simp at ht; omega)) _ (hN _ (by omega)))
   (fun j hj => by rw [hWf, World.frozen?_setCells]; exact hNf _) (fun v hv => h1c v hv)
 subst hW1
 have hE1 : ∀ x, ((w.alloc (.cells ROW 93)).drew).cell? x = (w.drew.alloc (.cells ROW 93)).cell? x := fun x => rfl
 have hE2 : ∀ x, ((w.alloc (.cells ROW 93)).drew).frozen? x = (w.drew.alloc (.cells ROW 93)).frozen? x := fun x => rfl
 have hF1 : ∀ a, (((w.alloc (.cells ROW 93)).drew.setCells w.heap.size 0 [x]).drew).cell? a = ((w.drew.alloc (.cells ROW 93)).setCells w.heap.size 0 [x]).cell? a := fun x => rfl
 have hF2 : ∀ a, (((w.alloc (.cells ROW 93)).drew.setCells w.heap.size 0 [x]).drew).frozen? a = ((w.drew.alloc (.cells ROW 93)).setCells w.heap.size 0 [x]).frozen? a := fun x => rfl
 have hw1 : IntKind.i64.wrap ((n : Int) + 1) = (n : Int) + 1 := by rw [IntKind.wrap_i64]; omega
 have hw2 : IntKind.i64.wrap 1 = 1 := by decide
 have hG1 : ¬ (G = 1) := by omega
 have hb2 : (1 : Int) ≤ (n : Int) + 1 := by omega
 have hn0 : ¬ (n = 0) := by omega
 have hb1 : (0 : Int) ≤ (n : Int) := by omega
 clear hold hROW hG hRl
 go_enter Tryz.func119, Tryz.ntmps119
 go_wp2_with (first
  | (at_builtin; refine Lib.wpList_append_run _ rfl _ _ _ _ rfl _ _ rfl rfl _ _ (hrz _) ?_)
  | (at_builtin; refine wpList_copy_runI _ rfl _ _ 49 49 rfl _ _ rfl rfl (hcpA _ hE1 hE2 _ _) ?_)
  | (at_builtin; refine wpList_copy_runI _ rfl _ _ 49 49 rfl _ _ rfl rfl (hcpB _ (fun _ => rfl) (fun _ => rfl) _ _ _) ?_))
 go_region_law_o (refine step_copy_runI rfl _ _ 49 49 rfl (.slice (some ⟨w.heap.size, 1, none⟩) n (G - 1)) (.slice (some ⟨b, off, none⟩) n n) (by simp [Act.eval, Act.put]) (by simp [Act.eval, Act.put]) (hcpB _ hF1 hF2 3 (G - 1) n) ?_)
 go_wp2
 go_ret
 exact ⟨rfl, rfl⟩
set_option maxHeartbeats 4000000 in
set_option maxRecDepth 100000 in
theorem insert_empty (base : Option Addr) (vb voff vc : Nat) (x : Value) (w : World) (hx : w.cell? ⟨vb, voff, none⟩ = some x) (h1x : x.oneCell' = true) :
  Calls Tryz.prog 119 #[.slice base 0 0, .int .i64 0, .slice (some ⟨vb, voff, none⟩) 1 vc] w fun e w' =>
   e = .returned (.slice (some ⟨w.heap.size, 0, none⟩) 1 (grownCap w 1 0 93)) ∧ w' = w.drew.alloc (.cells ([x].toArray ++ Builtin.zeroCells (Value.int .u32 0).cells (grownCap w 1 0 93 - 1)) 93) := by
 have t3 := Tryz.underlying3; have a3 := Tryz.isAgg3; have z3 := Tryz.sizeOf3; have v3 := Tryz.zeroValue3; have t4 := Tryz.underlying4; have a4 := Tryz.isAgg4; have z4 := Tryz.sizeOf4; have v4 := Tryz.zeroValue4
 have t87 := Tryz.underlying49; have a87 := Tryz.isAgg49; have z87 := Tryz.sizeOf49; have v87 := Tryz.zeroValue49; have t122 := Tryz.underlying93; have a122 := Tryz.isAgg93; have z122 := Tryz.sizeOf93; have v122 := Tryz.zeroValue93
 have u3 := run_underlying Tryz.underlying3; have u4 := run_underlying Tryz.underlying4; have u87 := run_underlying Tryz.underlying49; have u122 := run_underlying Tryz.underlying93
 have mixed := mixedT
 obtain ⟨i0, hi0, hz0, hzs, hzb⟩ := info_parts i122
 have hsrc : Src Tryz.prog i0.size 49 (.slice (some ⟨vb, voff, none⟩) 1 vc) 1 [x] w := by
  rw [hzs]
  exact Src.ofSlice w Tryz.underlying49 ⟨vb, voff, none⟩ 1 vc [x] rfl (fun j u hj => by
   cases j with
   | zero => simp at hj; subst hj; rw [Addr.add_lit]; exact hx
   | succ j => simp at hj) (fun v hv => by simp at hv; subst hv; exact h1x)
 have hold : (Builtin.firstCells i0.size 0 (.slice base 0 0)).run Tryz.prog w.drew = .ok ([] : List Value).toArray w.drew := by
  rw [hzs]
  cases base with
  | none => exact run_firstCells_none w.drew 1 0 0 0
  | some a => exact run_firstCells_some w.drew 1 0 a 0 0 [] rfl (fun j v hj => by cases hj)
 have hrun : ∀ ty, (Builtin.append_ #[49, 49] ty #[.slice base 0 0, .slice (some ⟨vb, voff, none⟩) 1 vc]).run Tryz.prog w = _ := fun ty =>
  run_append_grow_src w 49 49 ty 93 i0 _ Tryz.underlying49 hi0 hz0 base 0 0 [] hold _ 1 [x] hsrc (by omega) (by omega) (by rw [hzb]; exact growslice_fits (by omega) (by omega))
 go_enter Tryz.func119, Tryz.ntmps119
 cases base with
 | none =>
  go_wp2_with (at_builtin; refine Lib.wpList_append_run _ rfl _ _ _ _ rfl _ _ rfl rfl _ _ (hrun _) ?_)
  go_ret
  exact ⟨rfl, rfl⟩
 | some a =>
  obtain ⟨ab, ao, asp⟩ := a
  go_wp2_with (at_builtin; refine Lib.wpList_append_run _ rfl _ _ _ _ rfl _ _ rfl rfl _ _ (hrun _) ?_)
  all_goals (go_ret; exact ⟨rfl, rfl⟩)
theorem setCells_below {B b : Nat} (hb : B ≤ b) {a : World} : ∀ (vs : List Value) (o : Nat) (w : World), Bel B a w → Bel B a (w.setCells b o vs)
 | [], _, _, h => h
 | v :: r, o, w, h => setCells_below hb r (o + 1) _ (h.setCell hb v)
theorem ret_row {H : Heap} {w w' : World} {xs : List Nat} {k : IntKind} {cap : Nat} (hH : ∀ b o, H b = some o → w.heap[b]? = some o) (hb : Bel w.heap.size w w') (hl : 0 < xs.length) (hle : xs.length ≤ cap) (hcap : cap ≤ maxLen) (hbd : xs.length ≤ 140737488355328)
  (hc : ∀ (j x : Nat), xs[j]? = some x → w'.cell? ⟨w.heap.size, j, none⟩ = some (.int k x)) :
  ∃ H' v, (Ending.returned (.slice (some ⟨w.heap.size, 0, none⟩) xs.length cap)) = .returned v ∧ RepV H' (.sl 1 (ns k xs)) noLoc v ∧ Ext w.heap.size H H' ∧ (∀ b o, H' b = some o → w'.heap[b]? = some o) ∧ Bel w.heap.size w w' := by
 obtain ⟨ob, hob, hcl⟩ := cells_of_cell (hc 0 _ (List.getElem?_eq_getElem hl))
 cases ob with
 | cells o t fr =>
  have hsm : ∀ b x, H b = some x → b < w.heap.size := fun b x h => (Array.getElem?_eq_some_iff.1 (hH b x h)).1
  have hcell : ∀ (j x : Nat), xs[j]? = some x → o[j]? = some (.int k x) := fun j x hj => by
   have := hc j x hj
   unfold World.cell? at this
   rw [hob] at this
   simpa using this
  refine ⟨fun b => if b = w.heap.size then some (.cells o t fr) else H b, _, rfl, ?_, ⟨fun b x h => ?_, fun b h => if_neg (by omega)⟩, fun b x h => ?_, hb⟩
  ·simp only [RepV]
   refine ⟨_, _, _, rfl, hle, hcap, by omega, by simp [ns], ⟨by simpa [ns] using hbd, fun h => by cases h⟩, fun _ => ⟨_, _, o, t, fr, xs.map (fun (x : Nat) => Value.int k (x : Int)), rfl, if_pos rfl, fun j u hu => ?_, ?_, fun u hu => ?_⟩⟩
   ·rw [List.getElem?_map] at hu
    cases hx : xs[j]? with
    | none => rw [hx] at hu; cases hu
    | some x => rw [hx] at hu; cases hu; rw [Nat.zero_add]; exact hcell j x hx
   ·have := RepL.lits (H := fun b => if b = w.heap.size then some (.cells o t fr) else H b) noLoc (xs.map (fun (x : Nat) => Value.int k (x : Int)))
    rw [List.map_map] at this
    exact this
   ·obtain ⟨x, _, rfl⟩ := List.mem_map.1 hu; rfl
  ·show (if b = w.heap.size then _ else H b) = _
   rw [if_neg (by have := hsm b x h; omega)]; exact h
  ·have h' : (if b = w.heap.size then some (Obj.cells o t fr) else H b) = some x := h
   split at h'
   ·rename_i e; subst e; cases h'; exact hob
   ·rw [hb.block b (hsm b x h')]; exact hH b x h'
 | _ => simp [Obj.isCells] at hcl
theorem c_insert (xs : List Nat) (x : Nat) (hxs : xs.length ≤ 1000000000) : ECalls cx 119 [.slc 1 (ns .u32 xs) xs.length, nm .i64 0, .sl 1 (ns .u32 [x])] (.sl 1 (ns .u32 (x :: xs))) := by
 intro H L vals w hG hH hr
 simp only [RepL, RepV, nm, ns_len, Nat.mul_one] at hr
 obtain ⟨v1, _, rfl, ⟨A, n1, rfl, _, _, _, hn1, ⟨_, hA⟩, h1⟩, v2, _, rfl, rfl, v3, _, rfl, ⟨B, n2, vc, rfl, _, _, _, hn2, ⟨_, hB⟩, h2⟩, rfl⟩ := hr
 subst hn1
 simp at hn2
 subst hn2
 obtain ⟨vb, voff, o2, t2, fr2, vs2, rfl, hb2, hc2, hr2, ho2⟩ := h2 (by omega)
 simp only [ns, List.map_cons, List.map_nil, RepL, RepV, nm] at hr2
 obtain ⟨_, _, rfl, rfl, rfl⟩ := hr2
 have hx : w.cell? ⟨vb, voff, none⟩ = some (.int .u32 (x : Int)) := by
  unfold World.cell?
  rw [hH vb _ hb2]
  have := hc2 0 _ rfl
  simpa using this
 by_cases h0 : xs.length = 0
 ·have hx0 : xs = [] := List.length_eq_zero_iff.1 h0
  subst hx0
  refine (insert_empty A vb voff vc _ w hx rfl).mono ?_
  rintro e w' ⟨rfl, rfl⟩
  refine ret_row (xs := [x]) hH ?_ (by simp) (grownCap_ge w _ _ _) (grownCap_le_maxLen w 1 0 93 (by unfold maxLen; omega)) (by simp) ?_
  ·exact (Bel.refl _ _).drew.alloc (Nat.le_refl _) _
  ·intro j y hj
   cases j with
   | zero =>
    simp at hj; subst hj
    rw [World.cell?_alloc_at (w := w.drew) _ _ w.heap.size 0 rfl, Array.getElem?_append_left (by simp)]
    rfl
   | succ j => simp at hj
 ·obtain ⟨b1, off1, o1, t1, fr1, vs1, rfl, hb1, hc1, hr1, ho1⟩ := h1 (by omega)
  have hv1 : vs1 = xs.map (fun (x : Nat) => Value.int .u32 (x : Int)) := by
   have h : ∀ (l : List Nat) (vs : List Value), RepL H (ns .u32 l) noLoc vs → vs = l.map (fun (x : Nat) => Value.int .u32 (x : Int)) := by
    intro l
    induction l with
    | nil => intro vs h; simpa [ns, RepL] using h
    | cons y l ih =>
     intro vs h
     simp only [ns, List.map_cons, RepL, RepV, nm] at h
     obtain ⟨_, r, rfl, rfl, h⟩ := h
     rw [List.map_cons, ih r h]
   exact h xs vs1 hr1
  have hl1 : vs1.length = xs.length := by rw [hv1, List.length_map]
  have hcs : ∀ (j : Nat) (v : Value), vs1[j]? = some v → w.cell? ⟨b1, off1 + j, none⟩ = some v := fun j v hj => by
   unfold World.cell?
   rw [hH b1 _ hb1]
   have := hc1 j v hj
   simpa using this
  refine (insert_front b1 off1 xs.length vb voff vc vs1 _ w (by omega) (by omega) hl1 hcs hx ho1 rfl).mono ?_
  rintro e w' ⟨rfl, rfl⟩
  refine ret_row (xs := x :: xs) hH ?_ (by simp) (grownCap_ge w _ _ _) (grownCap_le_maxLen w (xs.length + 1) xs.length 93 (by unfold maxLen; omega)) (by simp; omega) ?_
  ·exact setCells_below (Nat.le_refl _) _ _ _ (setCells_below (Nat.le_refl _) _ _ _ ((Bel.refl _ _).alloc (Nat.le_refl _) _).drew).drew
  ·obtain ⟨ROW, hROW⟩ : ∃ ROW : Array Value, ROW = Builtin.zeroCells (Value.int .u32 0).cells (xs.length + 1) ++ Builtin.zeroCells (Value.int .u32 0).cells (grownCap w (xs.length + 1) xs.length 93 - (xs.length + 1)) := ⟨_, rfl⟩
   have hRl : xs.length + 1 ≤ ROW.size := by rw [hROW]; simp [Builtin.zeroCells, Value.cells]
   rw [← hROW]
   have hN : ∀ j, j < xs.length + 1 → ((w.drew.alloc (.cells ROW 93)).cell? ⟨w.heap.size, j, none⟩).isSome = true := fun j hj => by
    rw [World.cell?_alloc_at (w := w.drew) ROW _ w.heap.size j rfl, Array.getElem?_eq_getElem (by omega)]; rfl
   intro j y hj
   cases j with
   | zero =>
    simp at hj; subst hj
    rw [World.cell?_setCells_out _ _ _ _ _ (fun _ _ => .inl (by simp))]
    have := World.cell?_setCells_in w.heap.size [Value.int .u32 (x : Int)] 0 (w.drew.alloc (.cells ROW 93)) (fun j hj => hN _ (by simp at hj; omega)) 0 (by simp)
    rw [Nat.add_zero] at this
    exact this
   | succ j =>
    simp at hj
    have hjl : j < xs.length := (List.getElem?_eq_some_iff.1 hj).1
    have := World.cell?_setCells_in w.heap.size vs1 1 (((w.alloc (.cells ROW 93)).drew.setCells w.heap.size 0 [Value.int .u32 (x : Int)]).drew) (fun j hj => isSome_setCells _ _ _ _ (fun t ht => hN _ (by simp at ht; omega)) _ (hN _ (by omega))) j (by omega)
    rw [Nat.add_comm j 1, this]
    subst hv1
    rw [List.getElem_map]
    congr 2
    exact congrArg _ (List.getElem?_eq_some_iff.1 hj).2
end Go.Proofs.YtaeknciienkijaaGreatDoor

namespace Go.Ab
open Go.Mth
theorem AV.le_nilc' {sz c : Nat} {xs : List AV} (h : 0 < sz) (e : xs = []) (e2 : c = 0) : AV.le (.lit (.slice none 0 0)) (.slc sz xs c) := by subst e; subst e2; exact AV.le_nilc h
def intC (z : Int) : AV := .agg [bp (z < 0), .slc 1 (ns .u32 (digs z.natAbs)) (digs z.natAbs).length]
theorem intC_of {a : AV} {l : List Nat} {c : Nat} {z : Int} (h : AV.agg [a, .sl 1 (ns .u32 l)] = intW z) (hc : c = l.length) : AV.agg [a, .slc 1 (ns .u32 l) c] = intC z := by
 unfold intW intK at h
 simp only [AV.agg.injEq, List.cons.injEq, AV.sl.injEq, and_true, true_and] at h
 have hl := congrArg List.length h.2
 simp only [ns_len] at hl
 unfold intC
 rw [h.1, h.2, hc, hl]
theorem trimc_fin {neg : Bool} {xs : List Nat} {n : Nat} (hx : Dig xs) (hn : n ≤ xs.length) (hv : val (xs.take n) = val xs) (h : n = 0 ∨ xs.getD (n - 1) 0 ≠ 0) :
  AV.agg [AV.lit (.bool (neg && decide (0 < n))), .slc 1 (ns .u32 ((xs.drop 0).take (n - 0))) (n - 0)] = intC (sg neg (val xs)) :=
 intC_of (trim_fin (k := .u32) hx hn hv h) (by rw [List.length_take, List.drop_zero, Nat.sub_zero]; omega)
theorem nc_sg {X n : Nat} (h : n = X) : AV.slc 1 (ns .u32 (digs (sg false n).natAbs)) (digs (sg false n).natAbs).length = AV.slc 1 (ns .u32 (digs X)) (digs X).length := by subst h; rw [sg_abs]
end Go.Ab
namespace Go.Mth
theorem times_step {r a : List Nat} {i c n t : Nat} (hl : r.length = i) (hv : val r + 1000000000 ^ i * c = val (a.take i) * n) (ht : t = a.getD i 0 * n + c) :
  val (r ++ [t % 1000000000]) + 1000000000 ^ (i + 1) * (t / 1000000000) = val (a.take (i + 1)) * n := by
 rw [val_snoc, val_take_succ, hl, Nat.add_assoc, carry, ht, Nat.add_mul, ← hv, Nat.mul_add, ← Nat.mul_assoc]
 omega
theorem times_fin {r : List Nat} {m n c i : Nat} (hi : i = (digs m).length) (hl : r.length = i) (hv : val r + 1000000000 ^ i * c = val ((digs m).take i) * n) : val (r ++ [c]) = m * n := by
 rw [val_snoc, hl, hv, hi, List.take_length, val_digs]
theorem set_zero {o : List Nat} {j : Nat} (h : o.getD j 0 = 0) : o.set j 0 = o := by
 apply List.ext_getElem?
 intro k
 rw [List.getElem?_set]
 split
 ·rename_i e; subst e
  split
  ·rename_i hl
   rw [List.getD_eq_getElem?_getD, List.getElem?_eq_getElem hl] at h
   rw [List.getElem?_eq_getElem hl]
   exact congrArg some (by simpa using h.symm)
  ·rename_i hl; rw [List.getElem?_eq_none (by omega)]
 ·rfl
theorem getD_set_off {o : List Nat} {j k v : Nat} (h : j ≠ k) : (o.set j v).getD k 0 = o.getD k 0 := by
 rw [List.getD_eq_getElem?_getD, List.getD_eq_getElem?_getD, List.getElem?_set_ne h]
theorem quo_top {a b r : Nat} (ha : a < 1000000000) (hr : r < b) : a + 1000000000 * r < b * 1000000000 := by
 have : 1000000000 * r + 1000000000 ≤ 1000000000 * b := by
  have := Nat.mul_le_mul_left 1000000000 (show r + 1 ≤ b by omega)
  omega
 omega
theorem quo_at {X n l : Nat} (h1 : n * l ≤ X) (h2 : X < n * (l + 1)) : X / n = l ∧ X % n = X - n * l := by
 have hn : 0 < n := by rcases Nat.eq_zero_or_pos n with e | e; subst e; simp at h2; exact e
 have hq : X / n = l := by
  apply Nat.le_antisymm
  ·exact Nat.le_of_lt_succ ((Nat.div_lt_iff_lt_mul hn).2 (by rw [Nat.mul_comm]; exact h2))
  ·exact (Nat.le_div_iff_mul_le hn).2 (by rw [Nat.mul_comm]; exact h1)
 refine ⟨hq, ?_⟩
 have := Nat.div_add_mod X n
 rw [hq] at this
 omega
theorem cmpN_le {m n : Nat} (h : cmpN m n ≤ 0) : m ≤ n := by unfold cmpN at h; split at h; omega; split at h <;> omega
theorem cmpN_nle {m n : Nat} (h : ¬ cmpN m n ≤ 0) : n < m := by unfold cmpN at h; split at h; omega; split at h <;> omega
theorem cmpN_neg {m n : Nat} (h : cmpN m n < 0) : m < n := by unfold cmpN at h; split at h; omega; split at h <;> omega
theorem cmpN_nneg {m n : Nat} (h : ¬ cmpN m n < 0) : n ≤ m := by unfold cmpN at h; split at h; omega; split at h <;> omega
theorem quo_skip {a o : List Nat} {j n r : Nat} (hj : j < a.length) (hl : o.length = a.length) (hv : val (a.drop (j + 1)) = n * val (o.drop (j + 1)) + r) (hz : o.getD j 0 = 0) (hX : a.getD j 0 + 1000000000 * r < n) :
  val (a.drop j) = n * val (o.drop j) + (a.getD j 0 + 1000000000 * r) := by
 have h := div_step hj hl (show 0 < n by omega) hv (x := a.getD j 0 + 1000000000 * r) (by omega)
 rw [Nat.div_eq_of_lt hX, Nat.mod_eq_of_lt hX, set_zero hz] at h
 exact h
theorem quo_put {a o : List Nat} {j n r l : Nat} (hj : j < a.length) (hl : o.length = a.length) (hv : val (a.drop (j + 1)) = n * val (o.drop (j + 1)) + r) (h1 : n * l ≤ a.getD j 0 + 1000000000 * r) (h2 : a.getD j 0 + 1000000000 * r < n * (l + 1)) :
  val (a.drop j) = n * val ((o.set j l).drop j) + (a.getD j 0 + 1000000000 * r - n * l) := by
 have hn : 0 < n := by rcases Nat.eq_zero_or_pos n with e | e; subst e; simp at h2; exact e
 have h := div_step hj hl hn hv (x := a.getD j 0 + 1000000000 * r) (by omega)
 have hq := quo_at h1 h2
 rw [hq.1, hq.2] at h
 exact h
theorem quo_rest {X n l : Nat} (h1 : n * l ≤ X) (h2 : X < n * (l + 1)) : X - n * l < n := by rw [Nat.mul_add] at h2; omega
theorem digs_len_mod (m : Nat) {n : Nat} (hn : 0 < n) : (digs (m % n)).length ≤ (digs n).length := digs_len_le (Nat.le_of_lt (Nat.mod_lt m hn))
theorem digs_mul_len (m n : Nat) : (digs (m * n)).length ≤ (digs m).length + (digs n).length := by
 apply digs_len_of_lt
 rw [Nat.pow_add]
 have h1 := digs_hi m
 have h2 := digs_hi n
 rcases Nat.eq_zero_or_pos n with e | e
 ·subst e; rw [Nat.mul_zero]; exact Nat.mul_pos (by omega) (by omega)
 ·exact Nat.lt_of_lt_of_le (Nat.mul_lt_mul_of_pos_right h1 e) (Nat.mul_le_mul_left _ (Nat.le_of_lt h2))
theorem dgn_val (k n : Nat) (h : n < 1000000000 ^ k) : val (dgn k n) = n := by rw [val_dgn, Nat.mod_eq_of_lt h]
theorem val_quo (m n : Nat) : val (dgn (digs m).length (m / n)) = m / n := dgn_val _ _ (Nat.lt_of_le_of_lt (Nat.div_le_self m n) (digs_hi m))
end Go.Mth

namespace Go.Mth
open Go.Ab
abbrev qN (x y : Int) : Nat := val (dgn (digs x.natAbs).length (x.natAbs / y.natAbs))
abbrev rN (x y : Int) : Nat := val (digs (x.natAbs % y.natAbs))
theorem qN_eq (x y : Int) : qN x y = x.natAbs / y.natAbs := val_quo _ _
theorem rN_eq (x y : Int) : rN x y = x.natAbs % y.natAbs := val_digs _
theorem len_qN (b : Bool) (x y : Int) : (digs (sg b (qN x y)).natAbs).length ≤ (digs x.natAbs).length := by
 rw [sg_abs, qN_eq]; exact digs_len_le (Nat.div_le_self _ _)
theorem len_rN (b : Bool) (x y : Int) : (digs (sg b (rN x y)).natAbs).length ≤ (digs x.natAbs).length := by
 rw [sg_abs, rN_eq]; exact digs_len_le (Nat.mod_le _ _)
theorem div1 {x y : Int} (hx : ¬ x < 0) (hy : 0 < y) : x / y = sg false (qN x y) ∧ x % y = sg false (rN x y) := by
 have h := part1 (d := y.natAbs) hx (by omega) (qN_eq x y) (rN_eq x y)
 rw [show ((y.natAbs : Nat) : Int) = y by omega] at h
 exact ⟨h.1, h.2⟩
theorem sgn_neg {z : Int} : sgn z < 0 ↔ z < 0 := by unfold sgn; repeat' split <;> omega
theorem sgn_pos {z : Int} : 0 < sgn z ↔ 0 < z := by unfold sgn; repeat' split <;> omega
theorem div2 {x y : Int} (hx : x < 0) (hy : 0 < y) (h : sgn (sg true (rN x y)) < 0) : x / y = sg true (qN x y) - 1 ∧ x % y = sg true (rN x y) + y := by
 have h0 := (sg_neg true _).1 (sgn_neg.1 h)
 have h := part3 (d := y.natAbs) hx (by omega) (qN_eq x y) (rN_eq x y) (by omega)
 rw [show ((y.natAbs : Nat) : Int) = y by omega] at h
 simp only [sg, if_true]
 exact ⟨h.1, by rw [h.2]; omega⟩
theorem div3 {x y : Int} (hx : x < 0) (hy : 0 < y) (h : ¬ sgn (sg true (rN x y)) < 0) : x / y = sg true (qN x y) ∧ x % y = sg true (rN x y) := by
 have h0 : rN x y = 0 := by
  rcases Nat.eq_zero_or_pos (rN x y) with e | e
  ·exact e
  ·exact absurd (sgn_neg.2 ((sg_neg true _).2 ⟨rfl, e⟩)) h
 have h := part2 (d := y.natAbs) hx (by omega) (qN_eq x y) (rN_eq x y) h0
 rw [show ((y.natAbs : Nat) : Int) = y by omega] at h
 simp only [sg, if_true]
 exact ⟨h.1, by rw [h.2, h0]; rfl⟩
theorem gcd_next {u v g : Nat} (h : Nat.gcd u v = g) : Nat.gcd v (u % v) = g := by rw [← h, Nat.gcd_comm u v, Nat.gcd_rec v u, Nat.gcd_comm]
theorem gcd_end {u v g : Nat} (h : Nat.gcd u v = g) (hv : v = 0) : g = u := by subst hv; simpa using h.symm
end Go.Mth

namespace Go.Mth
open Go.Ab
noncomputable def divQ (a b : ByteArray) : ByteArray := if okS a = true ∧ okS b = true ∧ 0 < numS b then txt (numS a / numS b) else { data := #[] }
noncomputable def divR (a b : ByteArray) : ByteArray := if okS a = true ∧ okS b = true ∧ 0 < numS b then txt (numS a % numS b) else { data := #[] }
noncomputable def divE (a b : ByteArray) : Nat := if okS a = true ∧ okS b = true then (if 0 < numS b then 0 else 2) else 1
def powIn (n : Int) : Prop := 0 ≤ n ∧ n ≤ 10000
instance (n : Int) : Decidable (powIn n) := inferInstanceAs (Decidable (0 ≤ n ∧ n ≤ 10000))
noncomputable def powS (a : ByteArray) (n : Int) : ByteArray := if okS a = true ∧ powIn n then toldS (numS a ^ n.toNat) else { data := #[] }
noncomputable def powE (a : ByteArray) (n : Int) : Nat := if okS a = true then (if powIn n then toldE (numS a ^ n.toNat) else 2) else 1
def rstIn (d : Int) : Prop := 1 ≤ d ∧ d ≤ 2147483647
instance (d : Int) : Decidable (rstIn d) := inferInstanceAs (Decidable (1 ≤ d ∧ d ≤ 2147483647))
noncomputable def rstV (a : ByteArray) (d : Int) : Int := if okS a = true ∧ rstIn d then numS a % d else 0
noncomputable def rstE (a : ByteArray) (d : Int) : Nat := if okS a = true then (if rstIn d then 0 else 2) else 1
theorem pow_yes {a : ByteArray} {n : Int} (h : okS a = true) (hn : powIn n) : powS a n = toldS (numS a ^ n.toNat) ∧ powE a n = toldE (numS a ^ n.toNat) := ⟨if_pos ⟨h, hn⟩, by unfold powE; rw [if_pos h, if_pos hn]⟩
theorem told_fit {z : Int} (h : Fit z) : toldS z = txt z ∧ toldE z = 0 := ⟨if_pos h, if_pos h⟩
theorem txt_one : txt 1 = ⟨#[49]⟩ := by
 simp [txt, txtL, decs, strN]
 rfl
theorem pow_zero {a : ByteArray} (h : okS a = true) : powS a 0 = { data := #[49] } ∧ powE a 0 = 0 := by
 have := pow_yes h (n := 0) ⟨by decide, by decide⟩
 rw [this.1, this.2]
 show toldS (numS a ^ 0) = _ ∧ toldE (numS a ^ 0) = _
 rw [Int.pow_zero]
 have hf : Fit 1 := fit_of_pow (k := 1) (by decide) (by decide) (by decide)
 exact ⟨(told_fit hf).1.trans txt_one, (told_fit hf).2⟩
end Go.Mth

namespace Go.Mth
open Go.Ab
noncomputable def sumS (a b : ByteArray) : ByteArray := if okS a && okS b then toldS (numS a + numS b) else { data := #[] }
noncomputable def proS (a b : ByteArray) : ByteArray := if okS a && okS b then toldS (numS a * numS b) else { data := #[] }
def alikeS (a b : ByteArray) : Prop := a = { data := #[] } ∨ b = { data := #[] } ∨ a = b
noncomputable instance (a b : ByteArray) : Decidable (alikeS a b) := Classical.propDecidable _
def divsS (d n : ByteArray) : Prop := divE n d = 0 ∧ divR n d = ⟨#[48]⟩
noncomputable instance (d n : ByteArray) : Decidable (divsS d n) := Classical.propDecidable _
end Go.Mth

namespace Go.Mth
open Go.Ab
variable {a b c : ByteArray}
noncomputable abbrev gG (a b : ByteArray) : ByteArray := if okS a && okS b then toldS ((Int.gcd (numS a) (numS b) : Nat) : Int) else { data := #[] }
end Go.Mth

namespace Go.Ab
open Go.RowKit
mutual
/-- Does a value name no own object but one row? -/
def AV.only (id : Nat) : AV → Bool
 | .ref .. => false
 | .vw .. => false
 | .row i => Nat.beq i id
 | .agg fs => onlyL id fs
 | .tup fs => onlyL id fs
 | .clo _ fs => onlyL id fs
 | _ => true
def onlyL (id : Nat) : List AV → Bool
 | [] => true
 | x :: xs => x.only id && onlyL id xs
end
mutual
theorem RepV.only {H : Heap} {id : Nat} {rv : Value} : ∀ {x : AV} {L : Loc} {v : Value}, L id = some rv → x.only id = true → RepV H x L v → RepV H x (noLoc.set id (some rv)) v
 | .any, _, _, _, _, _ => by simp [RepV]
 | .lit _, _, _, _, _, h => by simpa [RepV] using h
 | .sl sz cs, _, _, _, _, h => by simpa [RepV] using h
 | .slc sz cs _, _, _, _, _, h => by simpa [RepV] using h
 | .agg fs, _, _, hl, hn, h => by
  simp only [RepV, AV.only] at h hn ⊢
  obtain ⟨vs, rfl, hr, h1⟩ := h
  exact ⟨vs, rfl, RepL.only hl hn hr, h1⟩
 | .tup fs, _, _, hl, hn, h => by
  simp only [RepV, AV.only] at h hn ⊢
  obtain ⟨vs, rfl, hr⟩ := h
  exact ⟨vs, rfl, RepL.only hl hn hr⟩
 | .ref i off, _, _, _, hn, h => by simp [AV.only] at hn
 | .vw .., _, _, _, hn, h => by simp [AV.only] at hn
 | .row i, _, _, hl, hn, h => by
  simp only [AV.only] at hn
  have := Nat.eq_of_beq_eq_true hn
  subst this
  simp only [RepV] at h ⊢
  rw [hl] at h
  exact ⟨by simp [Loc.set, h.1], h.2⟩
 | .ip cs, _, _, _, _, h => by simpa [RepV] using h
 | .clo f cs, _, _, hl, hn, h => by
  simp only [RepV, AV.only] at h hn ⊢
  obtain ⟨vs, rfl, hr⟩ := h
  exact ⟨vs, rfl, RepL.only hl hn hr⟩
theorem RepL.only {H : Heap} {id : Nat} {rv : Value} : ∀ {xs : List AV} {L : Loc} {vs : List Value}, L id = some rv → onlyL id xs = true → RepL H xs L vs → RepL H xs (noLoc.set id (some rv)) vs
 | [], _, _, _, _, h => by simpa [RepL] using h
 | x :: xs, _, _, hl, hn, h => by
  simp only [RepL, onlyL, Bool.and_eq_true] at h hn ⊢
  obtain ⟨v, r, rfl, h1, h2⟩ := h
  exact ⟨v, r, rfl, RepV.only hl hn.1 h1, RepL.only hl hn.2 h2⟩
end
def postM (C : Ctx) (fn : Func) (res : AV) (id : Nat) (e : TypeId) (sz : Nat) (cs : List AV) : Exit → St → Prop
 | .normal, σ => ∃ vs, ResOk C σ fn.results.toList vs ∧ onlyL id vs = true ∧ lookO σ.objs id = some (.row e sz cs) ∧ res = packR vs
 | .ret, σ => ∃ vs, ResOk C σ fn.results.toList vs ∧ onlyL id vs = true ∧ lookO σ.objs id = some (.row e sz cs) ∧ res = packR vs
 | _, _ => False
theorem postM_ret {C : Ctx} {fn : Func} {res : AV} {id : Nat} {e : TypeId} {sz : Nat} {cs : List AV} {σ : St} (h : ∃ vs, ResOk C σ fn.results.toList vs ∧ onlyL id vs = true ∧ lookO σ.objs id = some (.row e sz cs) ∧ res = packR vs) : postM C fn res id e sz cs .ret σ := h
theorem ecallsM_of_awp {C : Ctx} {f : FuncId} {fn : Func} {c : Code} {args : List AV} {res : AV} {id : Nat} {e : TypeId} {sz : Nat} {cs : List AV} (hf : C.P.funcs[f]? = some fn) (hb : fn.body = some c) (hn : args.length ≤ fn.ntmps) (h : awp C fn.ntmps c (postM C fn res id e sz cs) (entry args)) (hmk : C.marks = [] := by rfl) : ECallsM C f args res id e sz cs := by
 intro H L vals w hG hH hr
 refine calls_of_wp hf hb ((wpIn_wide (n := 0)).1 ?_)
 have hrep := entry_Rep hmk hG hH hn hr
 refine wpIn_mono (h w H L _ w hrep none) fun ex a' w' hp => ?_
 obtain ⟨σ', H', L', hx, hr', hq⟩ := hp
 have fin : (∃ vs, ResOk C σ' fn.results.toList vs ∧ onlyL id vs = true ∧ lookO σ'.objs id = some (.row e sz cs) ∧ res = packR vs) → a'.defers = [] ∧ ∃ v, (results fn a'.tmps).run C.P w' = .ok v w' ∧
   ∃ H' v' rv, Ending.returned v = .returned v' ∧ RepV H' res (noLoc.set id (some rv)) v' ∧ RepO H' w.heap.size w' (noLoc.set id (some rv)) id (.row e sz cs) ∧ Ext w.heap.size H H' ∧ (∀ b o, H' b = some o → w'.heap[b]? = some o) ∧ Bel w.heap.size w w' := by
  rintro ⟨vs, hres, hcl, ho, rfl⟩
  obtain ⟨us, hrun, hrl⟩ := res_run hr' _ _ hres
  have hlu := hrl.length
  obtain ⟨rv, vs', m, hl0, hlen, hown, hrl', h1, hsz, hbd, hH⟩ := hr'.objs id _ ho
  refine ⟨hr'.defers.trans hmk, if h : us.toArray.size = 1 then us.toArray[0] else .tuple us.toArray, ?_, H', _, rv, rfl, ?_, ⟨rv, vs', m, by simp [Loc.set], hlen, hown, hrl', h1, hsz, hbd, hH⟩, hx, hr'.heap, hr'.below⟩
  ·show (do let vs ← fn.results.mapM (resOne a'.tmps); pure (if h : vs.size = 1 then vs[0] else .tuple vs) : Sem Value).run C.P w' = _
   have hm : (fn.results.mapM (resOne a'.tmps)).run C.P w' = .ok us.toArray w' := by
    rw [Array.mapM_eq_mapM_toList]
    simp [hrun]
   simp only [Sem.run_bind, hm, Result.andThen_ok, Sem.run_pure]
  ·have hrc := RepL.only hl0 hcl hrl
   match vs, us, hrc, hlu with
   | [v], [u], hrc, _ =>
    simp only [packR]
    simp only [RepL] at hrc
    obtain ⟨x, r, e, hx, _⟩ := hrc
    cases e
    simpa using hx
   | [], us, hrc, hlu =>
    have : us = [] := List.eq_nil_of_length_eq_zero (by simpa using hlu)
    subst this
    simp only [packR, RepV]
    exact ⟨[], by simp, hrc⟩
   | v1 :: v2 :: vs, us, hrc, hlu =>
    simp only [packR, RepV]
    refine ⟨us, ?_, hrc⟩
    rw [dif_neg (by simp at hlu ⊢; omega)]
 cases ex with
 | normal => exact fin hq
 | ret => exact fin hq
 | _ => exact hq.elim
end Go.Ab

namespace Go.Ab
open Go.RowKit
def postS (C : Ctx) (fn : Func) (res : AV) (m' : List (Nat × AO)) (pid : Nat) (cs : List AV) (us : List Value) : Exit → St → Prop
 | .normal, σ => ∃ vs, ResOk C σ fn.results.toList vs ∧ res = packR vs ∧ (∀ id ob, lookO m' id = some ob → lookO σ.objs id = some ob) ∧ lookO σ.objs pid = some (.pin cs us)
 | .ret, σ => ∃ vs, ResOk C σ fn.results.toList vs ∧ res = packR vs ∧ (∀ id ob, lookO m' id = some ob → lookO σ.objs id = some ob) ∧ lookO σ.objs pid = some (.pin cs us)
 | _, _ => False
def SCalls (C : Ctx) (n : Nat) (f : FuncId) (args : List AV) (so : List (Nat × AV)) (m : List (Nat × AO)) (res : AV) (m' : List (Nat × AO)) : Prop :=
 ∀ (w0 : World) (H : Heap) (L : Loc) (a : Act) (w : World) (vals : List Value), Rep C n w0 H L (St.sem ⟨so, m⟩) a w → RepL H args L vals →
  Calls C.P f vals.toArray w fun e w' => ∃ v H' L', e = .returned v ∧ Ext w0.heap.size H H' ∧ RepV H' res L' v ∧ Rep C n w0 H' L' (St.sem ⟨so, m'⟩) a w'
theorem pin_slots {H : Heap} {L : Loc} : ∀ {so : List (Nat × AV)} {t : Nat → Value}, RepL H (valsOf so) L (so.map fun p => t p.1) → ∀ i, RepV H (look so i) L (t i)
 | [], t, _, i => by simp [look, RepV]
 | (j, v) :: r, t, h, i => by
  simp only [valsOf, List.map_cons, RepL] at h
  obtain ⟨x, xs, e, h1, h2⟩ := h
  cases e
  simp only [look]
  cases hb : Nat.beq j i with
  | true =>
   have := Nat.eq_of_beq_eq_true hb
   subst this
   exact h1
  | false => exact pin_slots h2 i
theorem slots_pin {H : Heap} {L : Loc} {t : Nat → Value} : ∀ {so : List (Nat × AV)}, (so.map (·.1)).Nodup → (∀ i, RepV H (look so i) L (t i)) → RepL H (valsOf so) L (so.map fun p => t p.1)
 | [], _, _ => by simp [valsOf, RepL]
 | (j, v) :: r, hnd, h => by
  simp only [List.map_cons, List.nodup_cons] at hnd
  simp only [valsOf, List.map_cons, RepL]
  refine ⟨_, _, rfl, by simpa [look] using h j, slots_pin hnd.2 fun i => ?_⟩
  have hi := h i
  simp only [look] at hi
  cases hb : Nat.beq j i with
  | true =>
   have := Nat.eq_of_beq_eq_true hb
   subst this
   have hno : ∀ (l : List (Nat × AV)), j ∉ l.map (·.1) → look l j = .any := by
    intro l
    induction l with
    | nil => intro _; rfl
    | cons p l ih =>
     intro hl
     simp only [List.map_cons, List.mem_cons, not_or] at hl
     obtain ⟨p1, p2⟩ := p
     simp only [look]
     rw [beq_ne (fun e => hl.1 e.symm)]
     exact ih hl.2
   rw [hno r hnd.1]
   simp [RepV]
  | false => rw [hb] at hi; exact hi
theorem scalls_of_awp {C : Ctx} {n : Nat} {f : FuncId} {fn : Func} {c : Code} {args : List AV} {so : List (Nat × AV)} {m m' : List (Nat × AO)} {res : AV} (pid : Nat) (hf : C.P.funcs[f]? = some fn) (hb : fn.body = some c) (hn : args.length ≤ fn.ntmps) (hnd : (so.map (·.1)).Nodup)
  (hfr : (St.sem ⟨so, m⟩).Fresh pid) (hpn : hasL pid (valsOf so) = false) (hpa : hasL pid args = false) (h : ∀ us, awp C fn.ntmps c (postS C fn res m' pid (valsOf so) us) ⟨(entry args).slots, (pid, .pin (valsOf so) us) :: m⟩) (hmk : C.marks = [] := by rfl) : SCalls C n f args so m res m' := by
 intro w0 H L a w vals hr hra
 refine calls_of_wp hf hb ((wpIn_wide (n := 0)).1 ?_)
 have hlen := hra.length
 have hp := slots_pin (t := fun i => a.tmps.getD i undef) hnd hr.slot
 have h1 := hr.pinned hfr hp hpn
 have hen := entry_rep (C := C) (w0 := w) hn (RepL.setL (y := some (.tuple #[])) hpa hra)
 have h2 := h1.frame [] (n' := fn.ntmps) (a' := { tmps := vals.toArray ++ Array.replicate (fn.ntmps - vals.toArray.size) undef, defers := [] }) hen.1 rfl (ρ := (entry args).sem.ρ) hen.2
 have e0 : St.sem ⟨(entry args).slots, (pid, .pin (valsOf so) (so.map fun p => a.tmps.getD p.1 undef)) :: m⟩ = { ρ := (entry args).sem.ρ, μ := fun i => if i = pid then some (AO.pin (valsOf so) (so.map fun p => a.tmps.getD p.1 undef)) else (St.sem ⟨so, m⟩).μ i } := by
  unfold St.sem
  congr 1
  funext i
  simp only [lookO]
  by_cases hi : i = pid
  ·subst hi; simp
  ·rw [beq_ne (fun e => hi e.symm)]; simp [hi]
 have hC : { C with marks := [] } = C := by cases C; simp_all
 rw [← e0, hC] at h2
 refine wpIn_mono (h _ w0 H _ _ w h2 none) fun e a' w' hq => ?_
 obtain ⟨σ', H', L', hx, hr', hq⟩ := hq
 have fin : (∃ vs, ResOk C σ' fn.results.toList vs ∧ res = packR vs ∧ (∀ id ob, lookO m' id = some ob → lookO σ'.objs id = some ob) ∧ lookO σ'.objs pid = some (.pin (valsOf so) (so.map fun p => a.tmps.getD p.1 undef))) → a'.defers = [] ∧ ∃ v, (results fn a'.tmps).run C.P w' = .ok v w' ∧
   ∃ v' H' L', Ending.returned v = .returned v' ∧ Ext w0.heap.size H H' ∧ RepV H' res L' v' ∧ Rep C n w0 H' L' (St.sem ⟨so, m'⟩) a w' := by
  rintro ⟨vs, hres, rfl, hm, hpin⟩
  obtain ⟨us, hrun, hrl⟩ := res_run hr' _ _ hres
  have hlu := hrl.length
  obtain ⟨_, hps⟩ := hr'.objs pid _ hpin
  refine ⟨hr'.defers.trans hmk, if h : us.toArray.size = 1 then us.toArray[0] else .tuple us.toArray, ?_, _, H', L', rfl, hx, ?_,
   ⟨hr'.glob, hr'.heap, hr.size, pin_slots hps, fun id o ho => hr'.objs id o (hm id o ho), fun id id' o o' g x x' hne ho ho' => hr'.apart id id' o o' g x x' hne (hm id o ho) (hm id' o' ho'), hr'.below, hr.defers⟩⟩
  ·show (do let vs ← fn.results.mapM (resOne a'.tmps); pure (if h : vs.size = 1 then vs[0] else .tuple vs) : Sem Value).run C.P w' = _
   have hm : (fn.results.mapM (resOne a'.tmps)).run C.P w' = .ok us.toArray w' := by
    rw [Array.mapM_eq_mapM_toList]
    simp [hrun]
   simp only [Sem.run_bind, hm, Result.andThen_ok, Sem.run_pure]
  ·match vs, us, hrl, hlu with
   | [v], [u], hrc, _ =>
    simp only [packR]
    simp only [RepL] at hrc
    obtain ⟨x, r, e, hx, _⟩ := hrc
    cases e
    simpa using hx
   | [], us, hrc, hlu =>
    have : us = [] := List.eq_nil_of_length_eq_zero (by simpa using hlu)
    subst this
    simp only [packR, RepV]
    exact ⟨[], by simp, hrc⟩
   | v1 :: v2 :: vs, us, hrc, hlu =>
    simp only [packR, RepV]
    refine ⟨us, ?_, hrc⟩
    rw [dif_neg (by simp at hlu ⊢; omega)]
 cases e with
 | normal => exact fin hq
 | ret => exact fin hq
 | _ => exact hq.elim
theorem awp_regionS {C : Ctx} {n : Nat} {Q : Exit → St → Prop} {σ : St} {id : Nat} {ops : Array Oper} (os os2 : List Oper) (d : Nat) {y : Operand} {f : FuncId} {caps : List AV} {args : Array Operand} {tys : Array TypeId} {t : TypeId} {p : String} {af : Array Edge} (asx : List AV) (res : AV) (m' : List (Nat × AO))
  (hops : ops.toList = os ++ ⟨some d, .call { callee := .value y, args := args, argTypes := tys }, t, p, af, none⟩ :: os2) (hd : dstsB n ops.toList = true) (hb : callable C.P f = true)
  (h : aops C ops σ os fun _ σ1 => σ1.ev y = .clo f caps ∧ args.toList.map σ1.sem.ev ++ caps = asx ∧ SCalls C n f asx σ1.slots σ1.objs res m' ∧ aops C ops ⟨(d, res) :: σ1.slots, m'⟩ os2 fun _ σ2 => Q .normal σ2) :
  awp C n (.region id ops false) Q σ := fun w0 H L a w hr r => by
 obtain ⟨es, σ1, ht, hy, has, hS, es2, σ2, ht2, hq⟩ := h
 have hdst := dsts_spec hd
 refine wpIn_region ?_
 rw [List.range_eq_range']
 have hsz : ops.size = os.length + (os2.length + 1) := by
  have := congrArg List.length hops
  simpa using this
 rw [hsz, ← List.range'_append_1, List.range'_succ]
 refine lex_prefix (C := C) (n := n) (w0 := w0) r _ os 0 σ.sem σ1.sem es H L a w (by rw [hops]; simp) ht hr (fun o ho => hdst o (by rw [hops]; simp [ho])) fun a' w' H' L' hx hr' => ?_
 simp only [Nat.zero_add]
 rw [wpOpsIn_cons]
 have hi : ops[os.length]? = some ⟨some d, .call { callee := .value y, args := args, argTypes := tys }, t, p, af, none⟩ := by
  rw [← Array.getElem?_toList, hops]
  simp
 unfold wpOpIn
 simp only [hi]
 rw [if_pos (by simp [Region.wanted])]
 have hyv := hr'.ev y
 rw [ev_sem, hy] at hyv
 simp only [RepV] at hyv
 obtain ⟨cv, hev, hcr⟩ := hyv
 have hargs : ∀ (xs : List Operand), RepL H' (xs.map σ1.sem.ev) L' (xs.map a'.eval) := by
  intro xs
  induction xs with
  | nil => simp only [List.map_nil, RepL]
  | cons x xs ih => simp only [List.map_cons, RepL]; exact ⟨_, _, rfl, hr'.ev x, ih⟩
 have hal := (hargs args.toList).app hcr
 rw [has] at hal
 have hc := hS w0 H' L' a' w' _ hr' hal
 have e1 : (List.map a'.eval args.toList ++ cv).toArray = args.map a'.eval ++ cv.toArray := by apply Array.ext'; simp
 rw [e1] at hc
 refine wp_enter (run_call_val rfl hev (callable_spec hb).1 (callable_spec hb).2) (hc.mono ?_) r
 rintro e w2 ⟨v, H2, L2, rfl, hx2, hv2, hr2⟩
 refine ⟨v, rfl, ?_⟩
 have hdn : d < n := hdst ⟨some d, .call { callee := .value y, args := args, argTypes := tys }, t, p, af, none⟩ (by rw [hops]; simp) d rfl
 have hv := hr2.val (dst := some d) (fun d' hd' => by cases hd'; exact hdn) (x := res) (v := v) hv2 [] []
 rw [← sem_app] at hv
 have := lex_prefix (C := C) (n := n) (w0 := w0) (ops := ops) (Q := fun e a w => Post C n w0 H Q e a w) r [] os2 (os.length + 1) _ σ2.sem es2 H2 L2 _ w2 (by rw [hops]; simp) ht2 hv (fun o ho => hdst o (by rw [hops]; simp [ho])) fun a3 w3 H3 L3 hx3 hr3 => ⟨σ2, H3, L3, (hx.trans hx2).trans hx3, hr3, hq⟩
 rw [List.append_nil] at this
 exact this
theorem awp_regionSK {C : Ctx} {n : Nat} {Q : Exit → St → Prop} {σ : St} {id : Nat} {ops : Array Oper} (k d : Nat) (y : Operand) (f : FuncId) (caps : List AV) (args : Array Operand) (tys : Array TypeId) (t : TypeId) (p : String) (af : Array Edge) (asx : List AV) (res : AV) (m' : List (Nat × AO))
  (hk : ops.toList[k]? = some ⟨some d, .call { callee := .value y, args := args, argTypes := tys }, t, p, af, none⟩) (hd : dstsB n ops.toList = true) (hb : callable C.P f = true)
  (h : aops C ops σ (ops.toList.take k) fun _ σ1 => σ1.ev y = .clo f caps ∧ args.toList.map σ1.sem.ev ++ caps = asx ∧ SCalls C n f asx σ1.slots σ1.objs res m' ∧ aops C ops ⟨(d, res) :: σ1.slots, m'⟩ (ops.toList.drop (k + 1)) fun _ σ2 => Q .normal σ2) :
  awp C n (.region id ops false) Q σ := by
 obtain ⟨hl, hx⟩ := List.getElem?_eq_some_iff.1 hk
 refine awp_regionS (y := y) (tys := tys) (t := t) (p := p) (af := af) (ops.toList.take k) (ops.toList.drop (k + 1)) d asx res m' ?_ hd hb h
 have h1 := List.take_append_drop k ops.toList
 rw [List.drop_eq_getElem_cons hl, hx] at h1
 exact h1.symm
end Go.Ab

namespace Go.Ab
open Go.RowKit
section
variable {C : Ctx} {ops : Array Oper} {s : List (Nat × AV)} {m : List (Nat × AO)} {d : Nat} {t : TypeId} {p : String} {af : Array Edge} {g : Option (Nat × Bool)} {os : List Oper} {K : List Eff → St → Prop}
theorem i_appendSl {ty : TypeId} {a x : Operand} {e by' : Nat} {z : List Value} {id : Nat} {k : IntKind} (id' : Nat) (xs ys : List Int) (m' : List (Nat × AO)) (hg : Gd ops s g) (ht : tyElem C.P ty = some (e, 1, by')) (hz : tyZero C.P e = some z) (hzl : z.length = 1)
  (hs : ev s a = .row id) (ho : lookO m id = some (.row e 1 (is k xs))) (hx : ev s x = .sl 1 (is k ys)) (hb : (xs.length + ys.length) * by' ≤ 140737488355328) (hby : 0 < by')
  (hf : St.freshB ⟨s, m⟩ id' = true) (hm : delO m id = m') (kk : aops C ops ⟨(d, .row id') :: s, (id', .row e 1 (is k (xs ++ ys))) :: m'⟩ os fun es σ' => K ({ val := .row id', upd := [(id', some (.row e 1 (is k (xs ++ ys)))), (id, none)], use := [id], fresh := [id'] } :: es) σ') :
  aops C ops ⟨s, m⟩ (⟨some d, .call { callee := .builtin .append, args := #[a, x], argTypes := #[ty, ty] }, t, p, af, g⟩ :: os) K :=
 o_append id' (is k ys) (is k (xs ++ ys)) [id] m' hg ht rfl hz hzl hs ho (.inl ⟨hx, rfl⟩) (by simp only [is_len, Nat.div_one]; exact hb) (by simp only [is_len]; have := Nat.le_mul_of_pos_right (xs.length + ys.length) hby; omega) (by simp [is]) hf hm kk
theorem i_slice {ty : TypeId} {x : Operand} {lo hi mx : Option Operand} {e by' : Nat} {k : IntKind} (xs : List Int) (l h : Nat) (hg : Gd ops s g) (ht : tyElem C.P ty = some (e, 1, by')) (hx : ev s x = .sl 1 (is k xs))
  (hlo : (St.sem ⟨s, m⟩).loOk lo l) (hhi : (St.sem ⟨s, m⟩).hiOk hi xs.length h) (hmx : (St.sem ⟨s, m⟩).mxOk mx hi.isSome h) (h1 : l ≤ h) (h2 : h ≤ xs.length)
  (kk : aops C ops ⟨(d, .sl 1 (is k ((xs.drop l).take (h - l)))) :: s, m⟩ os fun es σ' => K ({ val := .sl 1 (is k ((xs.drop l).take (h - l))) } :: es) σ') : aops C ops ⟨s, m⟩ (⟨some d, .slice ty x lo hi mx, t, p, af, g⟩ :: os) K :=
 o_slice l h _ hg ht hx (by simp [is]) hlo hhi hmx h1 h2 (by simp [is, List.map_take, List.map_drop]) kk
def AggEq (P : Program) (ty : TypeId) (xs ys : List Value) (q : Bool) : Prop := P.eqGuardType P.depth ty = false ∧ ∀ w, (Op.equalIn 10000 ty (.agg xs.toArray) (.agg ys.toArray)).run P w = .ok q w
theorem eqGuard_agg {P : Program} {op : BinOp} {t : TypeId} {x y : Operand} {xs ys : Array Value} (hm : P.eqGuardType P.depth t = false) (w : World) : (eqGuard op t x y (.agg xs) (.agg ys)).run P w = .ok () w := run_eqGuard_agg w op t x y xs ys hm
theorem o_pureA {op : Op} {x y : Operand} {xs ys : List Value} {v : Value} (hops : op.operands = #[x, y]) (hg : Gd ops s g) (hx : ev s x = .agg (xs.map .lit)) (hy : ev s y = .agg (ys.map .lit)) (h : ∀ ρ : Operand → Value, ρ x = .agg xs.toArray → ρ y = .agg ys.toArray → ∀ w, (execOp ρ ⟨some d, op, t, p, af, g⟩).run C.P w = .ok (.value v) w)
  (k : aops C ops ⟨(d, .lit v) :: s, m⟩ os fun es σ' => K ({ val := .lit v } :: es) σ') : aops C ops ⟨s, m⟩ (⟨some d, op, t, p, af, g⟩ :: os) K :=
 o_val hg (.pure v fun ρ hρ w => h ρ (hρ x (by simp [hops]) _ (by rw [ev_st, hx]; exact ⟨xs, rfl, rfl⟩)) (hρ y (by simp [hops]) _ (by rw [ev_st, hy]; exact ⟨ys, rfl, rfl⟩)) w) k
theorem o_eqlA {xt yt : TypeId} {x y : Operand} (xs ys : List Value) (q : Prop) [Decidable q] (hg : Gd ops s g) (hx : ev s x = .agg (xs.map .lit)) (hy : ev s y = .agg (ys.map .lit)) (he : AggEq C.P xt xs ys (decide q)) (kk : aops C ops ⟨(d, .lit (.bool (decide q))) :: s, m⟩ os fun es σ' => K ({ val := .lit (.bool (decide q)) } :: es) σ') :
  aops C ops ⟨s, m⟩ (⟨some d, .binOp .eql xt x y yt, t, p, af, g⟩ :: os) K := o_pureA rfl hg hx hy (fun ρ h1 h2 w => by
   simp only [execOp, h1, h2, Sem.run_bind, eqGuard_agg he.1, Result.andThen_ok, run_eql_struct, he.2, Sem.run_pure]) kk
theorem o_neqA {xt yt : TypeId} {x y : Operand} (xs ys : List Value) (q : Prop) [Decidable q] (hg : Gd ops s g) (hx : ev s x = .agg (xs.map .lit)) (hy : ev s y = .agg (ys.map .lit)) (he : AggEq C.P xt xs ys (decide q)) (kk : aops C ops ⟨(d, .lit (.bool (decide (¬ q)))) :: s, m⟩ os fun es σ' => K ({ val := .lit (.bool (decide (¬ q))) } :: es) σ') :
  aops C ops ⟨s, m⟩ (⟨some d, .binOp .neq xt x y yt, t, p, af, g⟩ :: os) K := o_pureA rfl hg hx hy (fun ρ h1 h2 w => by
   have : (!decide q) = decide (¬ q) := by by_cases h : q <;> simp [h]
   simp only [execOp, h1, h2, Sem.run_bind, eqGuard_agg he.1, Result.andThen_ok, run_neq_struct, he.2, Sem.run_pure, this]) kk
end
def freshK : List (Nat × AV) → Bool
 | [] => true
 | (j, _) :: r => r.all (fun p => !Nat.beq p.1 j) && freshK r
theorem freshK_nodup : ∀ {so : List (Nat × AV)}, freshK so = true → (so.map (·.1)).Nodup
 | [], _ => by simp
 | (j, v) :: r, h => by
  simp only [freshK, Bool.and_eq_true] at h
  simp only [List.map_cons, List.nodup_cons]
  refine ⟨fun hm => ?_, freshK_nodup h.2⟩
  obtain ⟨p, hp, he⟩ := List.mem_map.1 hm
  have := List.all_eq_true.1 h.1 p hp
  rw [he] at this
  simp at this
theorem scalls_of_awpB {C : Ctx} {n : Nat} {f : FuncId} {fn : Func} {c : Code} {args : List AV} {so : List (Nat × AV)} {m m' : List (Nat × AO)} {res : AV} (pid : Nat) (hf : C.P.funcs[f]? = some fn) (hb : fn.body = some c) (hn : args.length ≤ fn.ntmps) (hnd : freshK so = true)
  (hfr : St.freshB ⟨so, m⟩ pid = true) (hpa : hasL pid args = false) (h : ∀ us, awp C fn.ntmps c (postS C fn res m' pid (valsOf so) us) ⟨(entry args).slots, (pid, .pin (valsOf so) us) :: m⟩) (hmk : C.marks = [] := by rfl) : SCalls C n f args so m res m' :=
 scalls_of_awp pid hf hb hn (freshK_nodup hnd) (fresh_sem hfr) (valsOf_has (by simp only [St.freshB, Bool.and_eq_true] at hfr; exact hfr.1)) hpa h hmk
theorem lookO_appS : ∀ {m e : List (Nat × AO)} {id : Nat} {ob : AO}, lookO m id = some ob → lookO (m ++ e) id = some ob
 | [], _, _, _, h => by simp [lookO] at h
 | (j, v) :: r, e, id, ob, h => by
  simp only [List.cons_append, lookO] at h ⊢
  cases hb : Nat.beq j id with
  | true => rw [hb] at h; exact h
  | false => rw [hb] at h; exact lookO_appS h
theorem postS_fin {C : Ctx} {fn : Func} {res : AV} {m' extra : List (Nat × AO)} {pid : Nat} {cs : List AV} {us : List Value} {s : List (Nat × AV)} (h : ∃ vs, ResOk C ⟨s, (pid, .pin cs us) :: (m' ++ extra)⟩ fn.results.toList vs ∧ res = packR vs) (hn : lookO m' pid = none) :
  ∃ vs, ResOk C ⟨s, (pid, .pin cs us) :: (m' ++ extra)⟩ fn.results.toList vs ∧ res = packR vs ∧ (∀ id ob, lookO m' id = some ob → lookO ((pid, .pin cs us) :: (m' ++ extra)) id = some ob) ∧ lookO ((pid, AO.pin cs us) :: (m' ++ extra)) pid = some (.pin cs us) := by
 obtain ⟨vs, h1, h2⟩ := h
 refine ⟨vs, h1, h2, fun id ob ho => ?_, by simp [lookO]⟩
 simp only [lookO]
 cases hb : Nat.beq pid id with
 | true =>
  have := Nat.eq_of_beq_eq_true hb
  subst this
  rw [hn] at ho
  cases ho
 | false => exact lookO_appS ho
theorem postS_ret {C : Ctx} {fn : Func} {res : AV} {m' extra : List (Nat × AO)} {pid : Nat} {cs : List AV} {us : List Value} {s : List (Nat × AV)} (h : ∃ vs, ResOk C ⟨s, (pid, .pin cs us) :: (m' ++ extra)⟩ fn.results.toList vs ∧ res = packR vs) (hn : lookO m' pid = none) :
  postS C fn res m' pid cs us .ret ⟨s, (pid, .pin cs us) :: (m' ++ extra)⟩ := postS_fin h hn
theorem ba_list {a b : ByteArray} : a.toList = b.toList ↔ a = b := by
 constructor
 ·intro h
  rw [ByteArray.toList_eq, ByteArray.toList_eq] at h
  obtain ⟨⟨x⟩⟩ := a
  obtain ⟨⟨y⟩⟩ := b
  simp at h
  rw [h]
 ·intro h; rw [h]
theorem ba_eq (a b : ByteArray) : (a.toList == b.toList) = decide (a = b) := by
 by_cases h : a = b
 ·simp [h]
 ·simp [h, ba_list]
theorem part_str {P : Program} {t : TypeId} (hu : P.underlying t = some .string) (xs : Array Value) (off : Nat) (w : World) : (part t xs off).run P w = (match xs[off]? with | some v => (pure v : Sem Value) | none => stuck "part: no such cell").run P w := by
 simp [part, isAgg, run_underlying hu]
 cases xs[off]? <;> rfl
theorem part_int {P : Program} {t : TypeId} {k : IntKind} (hu : P.underlying t = some (.int k)) (xs : Array Value) (off : Nat) (w : World) : (part t xs off).run P w = (match xs[off]? with | some v => (pure v : Sem Value) | none => stuck "part: no such cell").run P w := by
 simp [part, isAgg, run_underlying hu]
 cases xs[off]? <;> rfl
end Go.Ab

namespace Go.Mth
open Go.Ab
def linK (k : IntKind) (l : LinZ) : AV := .agg [bp (l.mul < 0), .sl 1 (ns k (digs l.mul.natAbs)), bp (l.add < 0), .sl 1 (ns k (digs l.add.natAbs)), bp (l.div < 0), .sl 1 (ns k (digs l.div.natAbs))]
def linW (l : LinZ) : AV := linK .u32 l
def linR (l : LinZ) : AV := linK .i64 l
theorem linK_eq {k : IntKind} {l : LinZ} {a b c : Int} (h1 : l.mul = a) (h2 : l.add = b) (h3 : l.div = c) : linK k l = .agg [bp (a < 0), .sl 1 (ns k (digs a.natAbs)), bp (b < 0), .sl 1 (ns k (digs b.natAbs)), bp (c < 0), .sl 1 (ns k (digs c.natAbs))] := by subst h1; subst h2; subst h3; rfl
structure LineS where
 mul : ByteArray
 add : ByteArray
 div : ByteArray
def lineV (l : LineS) : AV := .agg [.lit (.string l.mul), .lit (.string l.add), .lit (.string l.div)]
def noS : ByteArray := { data := #[] }
def lineT (l : LinZ) : LineS := ⟨txt l.mul, txt l.add, txt l.div⟩
def OkW (m : MapM) (w : List Int) : Prop := IsW m w ∧ w.length ≤ 200
noncomputable instance (m : MapM) (w : List Int) : Decidable (OkW m w) := Classical.propDecidable _
def FitK (m : MapM) (z : Int) (k : Nat) : Prop := ∀ j, j < k → Fit (iterZ m j z)
noncomputable instance (m : MapM) (z : Int) (k : Nat) : Decidable (FitK m z k) := Classical.propDecidable _
noncomputable def wordE (m : MapM) (a : ByteArray) (K : Int) : Nat := if okM m = true ∧ okS a = true then if 0 ≤ K ∧ K ≤ 200 then if FitK m (numS a) K.toNat then 0 else 3 else 2 else 1
noncomputable def wordL (m : MapM) (a : ByteArray) (K : Int) : List Int := if wordE m a K = 0 then wordZ m (numS a) K.toNat else []
noncomputable def lineE (m : MapM) (w : List Int) : Nat := if okM m = true then if OkW m w then 0 else 2 else 1
noncomputable def lineS (m : MapM) (w : List Int) : LineS := if okM m = true ∧ OkW m w then lineT (lineZ m w) else ⟨noS, noS, noS⟩
noncomputable def restE (m : MapM) (w : List Int) : Nat := if okM m = true then if OkW m w ∧ freeM m then 0 else 2 else 1
noncomputable def restS (m : MapM) (w : List Int) : ByteArray := if okM m = true ∧ OkW m w ∧ freeM m then txt (restZ m w).1 else noS
noncomputable def restD (m : MapM) (w : List Int) : ByteArray := if okM m = true ∧ OkW m w ∧ freeM m then txt (m.mod ^ w.length) else noS
noncomputable def okL (l : LineS) : Bool := okS l.mul && okS l.add && okS l.div
noncomputable def appV (l : LineS) (a : ByteArray) : Int := numS l.mul * numS a + numS l.add
noncomputable def appE (l : LineS) (a : ByteArray) : Nat := if okL l = true ∧ okS a = true then if 0 < numS l.div then if Fit (appV l a) then 0 else 3 else 2 else 1
def AppB (l : LineS) (a : ByteArray) : Prop := okL l = true ∧ okS a = true ∧ 0 < numS l.div ∧ Fit (appV l a) ∧ appV l a % numS l.div = 0
noncomputable instance (l : LineS) (a : ByteArray) : Decidable (AppB l a) := Classical.propDecidable _
noncomputable def appS (l : LineS) (a : ByteArray) : ByteArray := if AppB l a then txt (appV l a / numS l.div) else noS
theorem line_len {m : MapM} (hm : OkM m) : ∀ w : List Int, IsW m w → (digs (lineZ m w).mul.natAbs).length ≤ 3 * w.length + 3 ∧ (digs (lineZ m w).add.natAbs).length ≤ 3 * w.length + 3 ∧ (digs (lineZ m w).div.natAbs).length ≤ 3 * w.length + 3 := by
 refine snoc_ind (P := fun w => IsW m w → (digs (lineZ m w).mul.natAbs).length ≤ 3 * w.length + 3 ∧ (digs (lineZ m w).add.natAbs).length ≤ 3 * w.length + 3 ∧ (digs (lineZ m w).div.natAbs).length ≤ 3 * w.length + 3) (fun _ => ?_) fun w r ih hw => ?_
 ·have h1 := small_len (z := 1) (by decide)
  have h0 : (digs (0 : Int).natAbs).length = 0 := by simp [digs_zero]
  refine ⟨?_, ?_, ?_⟩
  ·show (digs (1 : Int).natAbs).length ≤ _; omega
  ·show (digs (0 : Int).natAbs).length ≤ _; omega
  ·show (digs (1 : Int).natAbs).length ≤ _; omega
 ·obtain ⟨i1, i2, i3⟩ := ih fun x hx => hw x (by simp [hx])
  obtain ⟨o1, o2, o3, o4, o5⟩ := hm
  obtain ⟨hr0, hr1⟩ := hw r (by simp)
  have hr := o5 r.toNat (by omega)
  have hq := small_len (z := mulM m r) (by unfold mulM; omega)
  have ha := small_len (z := addM m r) (by unfold addM; omega)
  have hd := small_len (z := m.mod) (by omega)
  have e1 := len_mulZ (mulM m r) (lineZ m w).mul
  have e2 := len_mulZ (mulM m r) (lineZ m w).add
  have e3 := len_mulZ (addM m r) (lineZ m w).div
  have e4 := len_mulZ (lineZ m w).div m.mod
  have e5 := len_addZ (mulM m r * (lineZ m w).add) (addM m r * (lineZ m w).div)
  rw [lineZ_snoc, List.length_append, List.length_singleton]
  refine ⟨?_, ?_, ?_⟩
  ·show (digs (mulM m r * (lineZ m w).mul).natAbs).length ≤ _; omega
  ·show (digs (mulM m r * (lineZ m w).add + addM m r * (lineZ m w).div).natAbs).length ≤ _; omega
  ·show (digs ((lineZ m w).div * m.mod).natAbs).length ≤ _; omega
theorem isW_take {m : MapM} {w : List Int} (h : IsW m w) (i : Nat) : IsW m (w.take i) := fun r hr => h r (List.mem_of_mem_take hr)
theorem isW_get {m : MapM} {w : List Int} (h : IsW m w) {i : Nat} (hi : i < w.length) : 0 ≤ w.getD i 0 ∧ w.getD i 0 < m.mod := h _ (by rw [List.getD_eq_getElem?_getD, List.getElem?_eq_getElem hi]; simp)
theorem take_snoc {w : List Int} {i : Nat} (hi : i < w.length) : w.take (i + 1) = w.take i ++ [w.getD i 0] := by
 rw [List.getD_eq_getElem?_getD, List.getElem?_eq_getElem hi, List.take_add_one, List.getElem?_eq_getElem hi]; rfl
theorem lineZ_next {m : MapM} {w : List Int} {i : Nat} (hi : i < w.length) : thenZ m (lineZ m (w.take i)) (w.getD i 0) = lineZ m (w.take (i + 1)) := by rw [take_snoc hi, lineZ_snoc]
theorem isW_of {m : MapM} {w : List Int} (h : ∀ k, k < w.length → 0 ≤ w.getD k 0 ∧ w.getD k 0 < m.mod) : IsW m w := fun r hr => by
 obtain ⟨k, hk, e⟩ := List.getElem_of_mem hr
 have := h k hk
 rw [List.getD_eq_getElem?_getD, List.getElem?_eq_getElem hk] at this
 subst e
 exact this
theorem bp_yes {q : Prop} [Decidable q] (h : q) : bp q = .lit (.bool true) := by unfold bp; rw [decide_eq_true h]
theorem bp_no {q : Prop} [Decidable q] (h : ¬ q) : bp q = .lit (.bool false) := by unfold bp; rw [decide_eq_false h]
end Go.Mth

namespace Go.Proofs.YtaeknciienkijaaGreatDoor
open Go Go.Ab Go.Mth
theorem fieldsFrac : Tryz.prog.fieldsOf 81 = #[{ name := "Num", type := 9, offset := 0, embedded := false, tag := "", pkgPath := "", byteOffset := 0 }, { name := "Den", type := 9, offset := 1, embedded := false, tag := "", pkgPath := "", byteOffset := 16 }] := by kernel_rfl
theorem eq_api_Frac (a1 a2 b1 b2 : ByteArray) : AggEq cx.P 81 [.string a1, .string a2] [.string b1, .string b2] (decide (a1 = b1 ∧ a2 = b2)) := by
 refine ⟨by kernel_rfl, fun w => ?_⟩
 have hS : Tryz.prog.underlying 81 = some (.struct (Tryz.prog.fieldsOf 81)) := by kernel_rfl
 show (Op.equalIn 10000 81 _ _).run Tryz.prog w = _
 rw [show (10000 : Nat) = 9998 + 1 + 1 from rfl, run_equalIn_agg w (9998 + 1) _ _ _ hS (by kernel_rfl), fieldsFrac]
 have uS : Tryz.prog.underlying 9 = some .string := by kernel_rfl
 simp only [Op.eqFields, part_str uS, Sem.run_bind, Sem.run_ite, run_equalIn_string _ _ _ _ _ uS]
 by_cases h1 : a1 = b1 <;> by_cases h2 : a2 = b2 <;> simp [ba_eq, run_equalIn_string _ _ _ _ _ uS, h1, h2]
end Go.Proofs.YtaeknciienkijaaGreatDoor

namespace Go.Proofs.YtaeknciienkijaaGreatDoor
open Go Go.Ab Go.Mth
theorem f76_ : callable cx.P 119 = true := by kernel_rfl
theorem f77_ : callable cx.P 120 = true := by kernel_rfl
theorem c_wTrimX (neg : Bool) (xs : List Nat) (hx : Dig xs) : ECalls cx 52 [.lit (.bool neg), .sl 1 (ns .u32 xs)] (intC (sg neg (val xs))) := by
 refine ecalls_of_awp Tryz.func52 (c := _) rfl (Nat.le_of_ble_eq_true rfl) ?_
 show awp cx 30 _ (postF cx Tryz.f52 _) ⟨[(0, .lit (.bool neg)), (1, .sl 1 (ns .u32 xs))], []⟩
 refine awp_bound (i := 1) rfl fun hb => ?_
 replace hb := n_bnd hb
 refine awp_seq fun K0 hK0 => awp_region rfl ?_
 refine o_alloc 2 [Fv, Zv] gn f15_ rfl rfl rfl ?_
 refine aops_end (hK0 _ (awp_seq fun K1 hK1 => awp_region rfl (o_mv (.sl 1 (ns .u32 xs)) rfl ?_)))
 refine n_len xs gn f7_ rfl ?_
 refine o_as (Nv (xs.length)) rfl (aops_end (hK1 _ (awp_seq fun K2 hK2 => ?_)))
 refine awp_block ?_
 refine awp_loopR (fun κ σ => ∃ (n : Nat), (n ≤ xs.length) ∧ (val (xs.take n) = val xs) ∧ n = κ ∧ σ = ⟨[(0, .lit (.bool neg)), (1, .sl 1 (ns .u32 xs)), (4, .ref 2 0), (5, Nv n)], [(2, .var 51 [Fv, Zv])]⟩) ⟨_, _, ⟨xs.length, Nat.le_refl _, (by rw [List.take_length]), rfl, rfl⟩, ?wk0⟩ ?rd0
 case wk0 =>
  exact Wk.sub ⟨rfl, rfl, rfl, (by first | rfl | exact nm_int (by omega)), trivial⟩ ⟨rfl, trivial⟩
 rintro κ _ ⟨n, hn, hv, rfl, rfl⟩
 refine awp_seq fun K3 hK3 => awp_seq fun K4 hK4 => awp_region rfl (o_mv (Nv n) rfl ?_)
 refine n_gtr n 0 gn rfl rfl ?_
 refine o_mv (bp (0 < n)) rfl ?_
 refine o_splitP (q := 0 < n) 10 rfl (fun h1 => ?_) (fun h1 => ?_)
 ·refine o_move (.sl 1 (ns .u32 xs)) (Gd.yes rfl rfl (decide_eq_true h1)) rfl (o_move (Nv n) (Gd.yes rfl rfl (decide_eq_true h1)) rfl ?_)
  refine n_sub n 1 (Gd.yes rfl rfl (decide_eq_true h1)) rfl rfl (by omega) (by simp only [topOf]; omega) ?_
  refine n_index xs (n - 1) (Gd.yes rfl rfl (decide_eq_true h1)) f16_ rfl rfl (by omega) ?_
  refine n_loadI xs (n - 1) (Gd.yes rfl rfl (decide_eq_true h1)) f17_ rfl (by omega) ?_
  refine n_eql (xs.getD (n - 1) 0) 0 (Gd.yes rfl rfl (decide_eq_true h1)) rfl rfl ?_
  refine o_pickT (bp ((xs.getD (n - 1) 0) = 0)) gn rfl (decide_eq_true h1) rfl ?_
  refine aops_end (hK4 _ ?_)
  refine awp_condQ (q := (xs.getD (n - 1) 0) = 0) rfl (fun h2 => ?_) (fun h2 => ?_)
  ·refine awp_skip (hK3 _ ?_)
   refine awp_block ?_
   refine awp_region rfl (o_mv (Nv n) rfl ?_)
   refine n_sub n 1 gn rfl rfl (by omega) (by simp only [topOf]; omega) ?_
   refine o_as (Nv (n - 1)) rfl (aops_end ?_)
   refine ⟨_, _, ?lt, ⟨n - 1, (by omega), (by rw [← take_getD_zero (by assumption) hn (by assumption)]; exact hv), rfl, rfl⟩, ?wk⟩
   case lt => omega
   case wk => exact Wk.sub ⟨rfl, rfl, rfl, (by first | rfl | exact nm_int (by omega)), trivial⟩ ⟨rfl, trivial⟩
  ·refine awp_exit ?_
   refine hK2 _ (awp_seq fun K5 hK5 => awp_region rfl (o_mv (.lit (.bool neg)) rfl (o_mv (.lit (.bool neg)) rfl ?_)))
   refine o_split (b := neg) 21 rfl (fun h3 => ?_) (fun h3 => ?_)
   ·refine o_move (Nv n) (Gd.yes rfl rfl h3) rfl ?_
    refine n_gtr n 0 (Gd.yes rfl rfl h3) rfl rfl ?_
    refine o_pickT (bp (0 < n)) gn rfl h3 rfl ?_
    refine o_mv (.sl 1 (ns .u32 xs)) rfl (o_mv (Nv n) rfl (o_mv (Nv n) rfl ?_))
    refine n_sliceX xs 0 n gn f16_ rfl rfl (hi_nm rfl) (mx_nm rfl) rfl (by omega) (by omega) ?_
    refine o_build [bp (0 < n), .slc 1 (ns .u32 ((xs.drop 0).take (n - 0))) (n - 0)] [(0, [bp (0 < n)]), (1, [.slc 1 (ns .u32 ((xs.drop 0).take (n - 0))) (n - 0)])] gn f18_ f15_ rfl rfl rfl ?_
    refine o_store [(2, .var 51 [bp (0 < n), .slc 1 (ns .u32 ((xs.drop 0).take (n - 0))) (n - 0)])] gn f19_ rfl rfl rfl rfl rfl rfl ?_
    refine aops_end (hK5 _ ?_)
    refine awp_ret ?_
    refine post_ret ⟨[.agg [bp (0 < n), .slc 1 (ns .u32 ((xs.drop 0).take (n - 0))) (n - 0)]], ⟨⟨2, .var 51 [bp (0 < n), .slc 1 (ns .u32 ((xs.drop 0).take (n - 0))) (n - 0)], rfl, rfl, rfl, Or.inl ⟨f20_, AV.le_refl _⟩⟩, trivial⟩, rfl, ?_⟩
    subst h3
    exact (trimc_fin (neg := true) hx hn hv (by first | (left; omega) | (right; assumption))).symm
   ·refine o_skip rfl rfl h3 (o_skip rfl rfl h3 ?_)
    refine o_pickF Fv gn rfl h3 rfl ?_
    refine o_mv (.sl 1 (ns .u32 xs)) rfl (o_mv (Nv n) rfl (o_mv (Nv n) rfl ?_))
    refine n_sliceX xs 0 n gn f16_ rfl rfl (hi_nm rfl) (mx_nm rfl) rfl (by omega) (by omega) ?_
    refine o_build [Fv, .slc 1 (ns .u32 ((xs.drop 0).take (n - 0))) (n - 0)] [(0, [Fv]), (1, [.slc 1 (ns .u32 ((xs.drop 0).take (n - 0))) (n - 0)])] gn f18_ f15_ rfl rfl rfl ?_
    refine o_store [(2, .var 51 [Fv, .slc 1 (ns .u32 ((xs.drop 0).take (n - 0))) (n - 0)])] gn f19_ rfl rfl rfl rfl rfl rfl ?_
    refine aops_end (hK5 _ ?_)
    refine awp_ret ?_
    refine post_ret ⟨[.agg [Fv, .slc 1 (ns .u32 ((xs.drop 0).take (n - 0))) (n - 0)]], ⟨⟨2, .var 51 [Fv, .slc 1 (ns .u32 ((xs.drop 0).take (n - 0))) (n - 0)], rfl, rfl, rfl, Or.inl ⟨f20_, AV.le_refl _⟩⟩, trivial⟩, rfl, ?_⟩
    subst h3
    exact (trimc_fin (neg := false) hx hn hv (by first | (left; omega) | (right; assumption))).symm
 ·refine o_skip rfl rfl (decide_eq_false h1) (o_skip rfl rfl (decide_eq_false h1) (o_skip rfl rfl (decide_eq_false h1) (o_skip rfl rfl (decide_eq_false h1) (o_skip rfl rfl (decide_eq_false h1) (o_skip rfl rfl (decide_eq_false h1) ?_)))))
  refine o_pickF Fv gn rfl (decide_eq_false h1) rfl ?_
  refine aops_end (hK4 _ ?_)
  refine awp_condB (b := false) rfl (fun hh => absurd (hh.symm.trans rfl) (by decide)) (fun _ => ?_)
  refine awp_exit ?_
  refine hK2 _ (awp_seq fun K6 hK6 => awp_region rfl (o_mv (.lit (.bool neg)) rfl (o_mv (.lit (.bool neg)) rfl ?_)))
  refine o_split (b := neg) 21 rfl (fun h4 => ?_) (fun h4 => ?_)
  ·refine o_move (Nv n) (Gd.yes rfl rfl h4) rfl ?_
   refine n_gtr n 0 (Gd.yes rfl rfl h4) rfl rfl ?_
   refine o_pickT (bp (0 < n)) gn rfl h4 rfl ?_
   refine o_mv (.sl 1 (ns .u32 xs)) rfl (o_mv (Nv n) rfl (o_mv (Nv n) rfl ?_))
   refine n_sliceX xs 0 n gn f16_ rfl rfl (hi_nm rfl) (mx_nm rfl) rfl (by omega) (by omega) ?_
   refine o_build [bp (0 < n), .slc 1 (ns .u32 ((xs.drop 0).take (n - 0))) (n - 0)] [(0, [bp (0 < n)]), (1, [.slc 1 (ns .u32 ((xs.drop 0).take (n - 0))) (n - 0)])] gn f18_ f15_ rfl rfl rfl ?_
   refine o_store [(2, .var 51 [bp (0 < n), .slc 1 (ns .u32 ((xs.drop 0).take (n - 0))) (n - 0)])] gn f19_ rfl rfl rfl rfl rfl rfl ?_
   refine aops_end (hK6 _ ?_)
   refine awp_ret ?_
   refine post_ret ⟨[.agg [bp (0 < n), .slc 1 (ns .u32 ((xs.drop 0).take (n - 0))) (n - 0)]], ⟨⟨2, .var 51 [bp (0 < n), .slc 1 (ns .u32 ((xs.drop 0).take (n - 0))) (n - 0)], rfl, rfl, rfl, Or.inl ⟨f20_, AV.le_refl _⟩⟩, trivial⟩, rfl, ?_⟩
   subst h4
   exact (trimc_fin (neg := true) hx hn hv (by first | (left; omega) | (right; assumption))).symm
  ·refine o_skip rfl rfl h4 (o_skip rfl rfl h4 ?_)
   refine o_pickF Fv gn rfl h4 rfl ?_
   refine o_mv (.sl 1 (ns .u32 xs)) rfl (o_mv (Nv n) rfl (o_mv (Nv n) rfl ?_))
   refine n_sliceX xs 0 n gn f16_ rfl rfl (hi_nm rfl) (mx_nm rfl) rfl (by omega) (by omega) ?_
   refine o_build [Fv, .slc 1 (ns .u32 ((xs.drop 0).take (n - 0))) (n - 0)] [(0, [Fv]), (1, [.slc 1 (ns .u32 ((xs.drop 0).take (n - 0))) (n - 0)])] gn f18_ f15_ rfl rfl rfl ?_
   refine o_store [(2, .var 51 [Fv, .slc 1 (ns .u32 ((xs.drop 0).take (n - 0))) (n - 0)])] gn f19_ rfl rfl rfl rfl rfl rfl ?_
   refine aops_end (hK6 _ ?_)
   refine awp_ret ?_
   refine post_ret ⟨[.agg [Fv, .slc 1 (ns .u32 ((xs.drop 0).take (n - 0))) (n - 0)]], ⟨⟨2, .var 51 [Fv, .slc 1 (ns .u32 ((xs.drop 0).take (n - 0))) (n - 0)], rfl, rfl, rfl, Or.inl ⟨f20_, AV.le_refl _⟩⟩, trivial⟩, rfl, ?_⟩
   subst h4
   exact (trimc_fin (neg := false) hx hn hv (by first | (left; omega) | (right; assumption))).symm

theorem c_wTimes (m n : Nat) (hm : (digs m).length ≤ 1000000000) (hn : n < 1000000000) : ECalls cx 120 [.sl 1 (ns .u32 (digs m)), nm .u64 n] (.sl 1 (ns .u32 (digs (m * n)))) := by
 refine ecalls_of_awp Tryz.func120 (c := _) rfl (Nat.le_of_ble_eq_true rfl) ?_
 show awp cx 42 _ (postF cx Tryz.f120 _) ⟨[(0, .sl 1 (ns .u32 (digs m))), (1, nm .u64 n)], []⟩
 refine awp_bound (i := 0) rfl fun hb => ?_
 replace hb := n_bnd hb
 refine awp_seq fun K0 hK0 => awp_region rfl (o_as Zv rfl (aops_end (hK0 _ (awp_seq fun K1 hK1 => awp_region rfl (o_mv (.sl 1 (ns .u32 (digs m))) rfl ?_)))))
 refine n_len (digs m) gn f7_ rfl ?_
 refine n_add ((digs m).length) 1 gn rfl rfl (by simp only [topOf]; omega) ?_
 refine n_make0 .u32 2 (((digs m).length) + 1) gn f16_ f27_ rfl rfl (by omega) (by omega) rfl ?_
 refine o_as (.row 2) rfl (aops_end (hK1 _ (awp_seq fun K2 hK2 => awp_region rfl (o_as (nm .u64 0) rfl (aops_end (hK2 _ (awp_seq fun K3 hK3 => awp_seq fun K4 hK4 => awp_region rfl (o_mv (.sl 1 (ns .u32 (digs m))) rfl ?_))))))))
 refine n_len (digs m) gn f7_ rfl ?_
 refine o_mv (Nv 0) rfl (aops_end (hK4 _ ?_))
 refine awp_block ?_
 refine awp_loopR (fun κ σ => ∃ (i : Nat), ∃ (r : List Nat), ∃ (c : Nat), (r.length = i) ∧ (i ≤ (digs m).length) ∧ (Dig r) ∧ (c < 1000000000) ∧ (val r + 1000000000 ^ i * c = val ((digs m).take i) * n) ∧ ((digs m).length - i) = κ ∧ σ = ⟨[(1, nm .u64 n), (5, .row 3), (6, nm .u64 c), (14, .sl 1 (ns .u32 (digs m))), (15, Nv ((digs m).length)), (16, Nv i)], [(3, .row 93 1 (ns .u32 r))]⟩) ⟨_, _, ⟨0, [], 0, rfl, (by omega), Dig.nil, (by omega), (by simp [val]), rfl, rfl⟩, ?wk0⟩ ?rd0
 case wk0 =>
  exact Wk.trans (Wk.sub (σ' := ⟨[(1, nm .u64 n), (5, .row 2), (6, nm .u64 0), (14, .sl 1 (ns .u32 (digs m))), (15, Nv ((digs m).length)), (16, Nv 0)], [(2, .row 93 1 (ns .u32 ([])))]⟩) ⟨rfl, rfl, rfl, rfl, rfl, rfl, trivial⟩ ⟨rfl, trivial⟩) (Wk.trans (Wk.ren (id := 2) (id' := 3) rfl) (Wk.sub ⟨rfl, (by first | rfl | simp), (by first | rfl | exact nm_int (by omega)), rfl, rfl, (by first | rfl | exact nm_int (by omega)), trivial⟩ ⟨(by first | rfl | exact row_ns (by simp)), trivial⟩))
 rintro κ _ ⟨i, r, c, hl, hi, hd, hc, hv, rfl, rfl⟩
 have hA := Dig.getD (digs_dig m) i
 have hAn : ((digs m).getD i 0) * n ≤ 999999999 * 999999999 := Nat.mul_le_mul (by omega) (by omega)
 refine awp_seq fun K5 hK5 => awp_region rfl ?_
 refine n_lss i ((digs m).length) gn rfl rfl ?_
 refine aops_end (hK5 _ (awp_seq fun K6 hK6 => ?_))
 refine awp_condQ (q := i < ((digs m).length)) rfl (fun h1 => ?_) (fun h1 => ?_)
 ·refine awp_skip (hK6 _ (awp_seq fun K7 hK7 => ?_))
  refine awp_block ?_
  refine awp_seq fun K8 hK8 => awp_region rfl ?_
  refine n_index (digs m) i gn f16_ rfl rfl (by omega) ?_
  refine n_loadI (digs m) i gn f17_ rfl (by omega) ?_
  refine o_as (nm .u32 ((digs m).getD i 0)) rfl (aops_end (hK8 _ (awp_seq fun K9 hK9 => awp_region rfl (o_mv (nm .u32 ((digs m).getD i 0)) rfl ?_))))
  refine n_conv ((digs m).getD i 0) gn rfl f28_ f40_ (by simp only [topOf]; omega) ?_
  refine o_mv (nm .u64 n) rfl ?_
  refine n_mul ((digs m).getD i 0) n gn rfl rfl (by simp only [topOf]; omega) ?_
  refine o_mv (nm .u64 c) rfl ?_
  refine n_add (((digs m).getD i 0) * n) c gn rfl rfl (by simp only [topOf]; omega) ?_
  refine o_as (nm .u64 ((((digs m).getD i 0) * n) + c)) rfl (aops_end (hK9 _ (awp_seq fun K10 hK10 => awp_region rfl (o_mv (.row 3) rfl (o_mv (nm .u64 ((((digs m).getD i 0) * n) + c)) rfl ?_)))))
  refine n_rem ((((digs m).getD i 0) * n) + c) 1000000000 gn rfl rfl (by omega) ?_
  refine n_conv (((((digs m).getD i 0) * n) + c) % 1000000000) gn rfl f40_ f28_ (by simp only [topOf]; omega) ?_
  refine o_buildSlice 101 (ns .u32 ([((((digs m).getD i 0) * n) + c) % 1000000000])) [(0, [nm .u32 (((((digs m).getD i 0) * n) + c) % 1000000000)])] gn f16_ rfl f27_ rfl rfl rfl rfl rfl rfl rfl ?_
  refine n_append 102 r ([((((digs m).getD i 0) * n) + c) % 1000000000]) [(101, .row 93 1 (ns .u32 ([((((digs m).getD i 0) * n) + c) % 1000000000])))] gn f16_ f27_ rfl rfl rfl rfl rfl (by simp only [List.length_append, List.length_cons, List.length_nil]; omega) (by decide) rfl rfl ?_
  refine o_as (.row 102) rfl (aops_end (hK10 _ (awp_region rfl (o_mv (nm .u64 ((((digs m).getD i 0) * n) + c)) rfl ?_))))
  refine n_quo ((((digs m).getD i 0) * n) + c) 1000000000 gn rfl rfl (by omega) (by simp only [topOf]; omega) ?_
  refine o_as (nm .u64 (((((digs m).getD i 0) * n) + c) / 1000000000)) rfl (aops_end (hK7 _ (awp_region rfl ?_)))
  refine n_add i 1 gn rfl rfl (by simp only [topOf]; omega) ?_
  refine o_mv (Nv (i + 1)) rfl (aops_end ?_)
  refine ⟨_, _, ?lt, ⟨i + 1, r ++ ([((((digs m).getD i 0) * n) + c) % 1000000000]), ((((digs m).getD i 0) * n) + c) / 1000000000, (by simp [hl]), (by omega), (hd.snoc (Nat.mod_lt _ (by decide))), (by omega), times_step hl hv rfl, rfl, rfl⟩, ?wk⟩
  case lt => omega
  case wk => exact Wk.trans (Wk.sub (σ' := ⟨[(1, nm .u64 n), (5, .row 102), (6, nm .u64 (((((digs m).getD i 0) * n) + c) / 1000000000)), (14, .sl 1 (ns .u32 (digs m))), (15, Nv ((digs m).length)), (16, Nv (i + 1))], [(102, .row 93 1 (ns .u32 (r ++ ([((((digs m).getD i 0) * n) + c) % 1000000000]))))]⟩) ⟨rfl, rfl, rfl, rfl, rfl, rfl, trivial⟩ ⟨rfl, trivial⟩) (Wk.trans (Wk.ren (id := 102) (id' := 3) rfl) (Wk.sub ⟨rfl, (by first | rfl | simp), (by first | rfl | exact nm_int (by omega)), rfl, rfl, (by first | rfl | exact nm_int (by omega)), trivial⟩ ⟨(by first | rfl | exact row_ns (by simp)), trivial⟩))
 ·refine awp_exit ?_
  refine hK3 _ (awp_seq fun K11 hK11 => awp_region rfl (o_mv (.row 3) rfl (o_mv (nm .u64 c) rfl ?_)))
  refine n_conv c gn rfl f40_ f28_ (by simp only [topOf]; omega) ?_
  refine o_buildSlice 101 (ns .u32 ([c])) [(0, [nm .u32 c])] gn f16_ rfl f27_ rfl rfl rfl rfl rfl rfl rfl ?_
  refine n_append 102 r ([c]) [(101, .row 93 1 (ns .u32 ([c])))] gn f16_ f27_ rfl rfl rfl rfl rfl (by simp only [List.length_append, List.length_cons, List.length_nil]; omega) (by decide) rfl rfl ?_
  refine o_callG [(102, 1, ns .u32 (r ++ ([c])))] [Fv, .sl 1 (ns .u32 (r ++ ([c])))] _ (intW (sg false (val (r ++ ([c]))))) [(101, .row 93 1 (ns .u32 ([c])))] gn f35_ rfl ⟨⟨_, rfl⟩, trivial⟩ rfl rfl (LeL.cons (AV.le_refl _) (LeL.cons (AV.le_refl _) LeL.nil)) (c_wTrim false (r ++ ([c])) (by first | assumption | exact dgn_dig _ _ | exact digs_dig _ | exact Dig.snoc (by assumption) (by assumption) | exact Dig.cons (by omega) (digs_dig _))) rfl ?_
  refine o_fieldS (.sl 1 (ns .u32 (digs (sg false (val (r ++ ([c])))).natAbs))) gn f5_ f6_ rfl rfl ?_
  refine o_as (.sl 1 (ns .u32 (digs (sg false (val (r ++ ([c])))).natAbs))) rfl (aops_end (hK11 _ ?_))
  refine awp_ret ?_
  refine post_ret ⟨[.sl 1 (ns .u32 (digs (sg false (val (r ++ ([c])))).natAbs))], ⟨AV.le_refl _, trivial⟩, rfl, ?_⟩
  refine ns_congr ?_
  rw [sg_abs, times_fin (by omega) hl hv]

theorem c_wQuot (m n : Nat) (hn0 : 0 < n) (hm : (digs m).length ≤ 900000000) (hn : (digs n).length ≤ 900000000) : ECalls cx 103 [.sl 1 (ns .u32 (digs m)), .sl 1 (ns .u32 (digs n))] (.tup [.sl 1 (ns .u32 (dgn (digs m).length (m / n))), .sl 1 (ns .u32 (digs (m % n)))]) := by
 refine ecalls_of_awp Tryz.func103 (c := _) rfl (Nat.le_of_ble_eq_true rfl) ?_
 show awp cx 65 _ (postF cx Tryz.f103 _) ⟨[(0, .sl 1 (ns .u32 (digs m))), (1, .sl 1 (ns .u32 (digs n)))], []⟩
 refine awp_bound (i := 0) rfl fun hb => ?_
 replace hb := n_bnd hb
 refine awp_bound (i := 1) rfl fun hb2 => ?_
 replace hb2 := n_bnd hb2
 refine awp_seq fun K0 hK0 => awp_region rfl (o_as Zv rfl (o_as Zv rfl (aops_end (hK0 _ (awp_seq fun K1 hK1 => awp_region rfl (o_mv (.sl 1 (ns .u32 (digs m))) rfl ?_))))))
 refine n_len (digs m) gn f7_ rfl ?_
 refine n_make 2 ((digs m).length) gn f16_ f27_ rfl rfl (by omega) rfl rfl ?_
 refine o_as (.row 2) rfl (aops_end (hK1 _ (awp_seq fun K2 hK2 => awp_region rfl (o_as Zv rfl (aops_end (hK2 _ (awp_seq fun K3 hK3 => awp_seq fun K4 hK4 => awp_region rfl (o_mv (.sl 1 (ns .u32 (digs m))) rfl ?_))))))))
 refine n_len (digs m) gn f7_ rfl ?_
 refine o_sub (a := (((digs m).length : Nat) : Int)) (c := ((1 : Nat) : Int)) gn rfl rfl (by exact wrap64 (by omega) (by omega)) ?_
 refine o_as (Iv ((((digs m).length : Nat) : Int) - ((1 : Nat) : Int))) rfl (aops_end (hK4 _ ?_))
 refine awp_block ?_
 refine awp_wk (Wk.slot (i := 7) (y := (.slc 1 (ns .u32 (digs 0)) ((digs 0).length))) (AV.le_nilc' (by decide) (by simp [digs_zero, ns]) (by simp [digs_zero]))) ?_
 refine awp_loopR (fun κ σ => ∃ (j : Nat), ∃ (o : List Nat), ∃ (r : Nat), (j ≤ (digs m).length) ∧ (o.length = (digs m).length) ∧ (Dig o) ∧ (∀ k, k < j → o.getD k 0 = 0) ∧ (r < n) ∧ (val ((digs m).drop j) = n * val (o.drop j) + r) ∧ j = κ ∧ σ = ⟨[(0, .sl 1 (ns .u32 (digs m))), (1, .sl 1 (ns .u32 (digs n))), (6, .row 3), (8, (Iv ((j : Int) - 1))), (7, .slc 1 (ns .u32 (digs r)) ((digs r).length))], [(3, .row 93 1 (ns .u32 o))]⟩) ⟨_, _, ⟨(digs m).length, List.replicate (digs m).length 0, 0, Nat.le_refl _, (by simp), Dig.repl _, (fun k hk => by rw [List.getD_eq_getElem?_getD, List.getElem?_replicate]; split <;> rfl), hn0, (by rw [val_drop_all (Nat.le_refl _), val_drop_all (by simp)]; simp), rfl, rfl⟩, ?wk0⟩ ?rd0
 case wk0 =>
  exact Wk.trans (Wk.sub (σ' := ⟨[(0, .sl 1 (ns .u32 (digs m))), (1, .sl 1 (ns .u32 (digs n))), (6, .row 2), (8, (Iv ((((digs m).length : Nat) : Int) - ((1 : Nat) : Int)))), (7, .slc 1 (ns .u32 (digs 0)) ((digs 0).length))], [(2, .row 93 1 (ns .u32 (List.replicate ((digs m).length) 0)))]⟩) ⟨rfl, rfl, rfl, rfl, rfl, trivial⟩ ⟨rfl, trivial⟩) (Wk.trans (Wk.ren (id := 2) (id' := 3) rfl) (Wk.sub ⟨rfl, rfl, (by first | rfl | simp), (by first | rfl | exact int_eq (by omega) | exact int_nm (by omega)), (by first | rfl | simp), trivial⟩ ⟨(by first | rfl | exact row_ns (by simp)), trivial⟩))
 rintro κ _ ⟨j, o, r, hj, hl, hd, hz, hr, hv, rfl, rfl⟩
 have hA := Dig.getD (digs_dig m) (j - 1)
 have hrl := digs_len_le (Nat.le_of_lt hr)
 have hXt := quo_top hA hr
 have hXl := digs_len_le (Nat.le_of_lt hXt)
 have hXm := digs_mul_len n 1000000000
 have h10 : (digs 1000000000).length ≤ 3 := digs_len_small (by decide)
 refine awp_seq fun K5 hK5 => awp_seq fun K6 hK6 => awp_region rfl (o_mv (Iv ((j : Int) - 1)) rfl ?_)
 refine o_geq (a := ((j : Int) - 1)) (c := ((0 : Nat) : Int)) gn rfl rfl ?_
 refine aops_end (hK6 _ ?_)
 refine awp_condQ (q := ((0 : Nat) : Int) ≤ ((j : Int) - 1)) rfl (fun h1 => ?_) (fun h1 => ?_)
 ·refine awp_wk (Wk.slot (i := 8) (y := (Nv (j - 1))) (AV.le_eq (by exact nm_int (by omega)))) ?_
  refine awp_skip (hK5 _ (awp_seq fun K7 hK7 => ?_))
  refine awp_block ?_
  refine awp_seq fun K8 hK8 => awp_region rfl (o_mv (.slc 1 (ns .u32 (digs r)) ((digs r).length)) rfl (o_mv (.sl 1 (ns .u32 (digs m))) rfl (o_mv (Nv (j - 1)) rfl ?_)))
  refine n_index (digs m) (j - 1) gn f16_ rfl rfl (by omega) ?_
  refine n_loadI (digs m) (j - 1) gn f17_ rfl (by omega) ?_
  refine o_buildSlice 101 (ns .u32 ([(digs m).getD (j - 1) 0])) [(0, [nm .u32 ((digs m).getD (j - 1) 0)])] gn f16_ rfl f27_ rfl rfl rfl rfl rfl rfl rfl ?_
  refine o_callG [(101, 1, ns .u32 ([(digs m).getD (j - 1) 0]))] [.slc 1 (ns .u32 (digs r)) ((digs r).length), Nv 0, .sl 1 (ns .u32 ([(digs m).getD (j - 1) 0]))] _ (.sl 1 (ns .u32 (((digs m).getD (j - 1) 0) :: digs r))) [(3, .row 93 1 (ns .u32 o))] gn f76_ rfl ⟨⟨_, rfl⟩, trivial⟩ rfl rfl (LeL.cons (AV.le_refl _) (LeL.cons (AV.le_refl _) (LeL.cons (AV.le_refl _) LeL.nil))) (c_insert (digs r) ((digs m).getD (j - 1) 0) (by omega)) rfl ?_
  refine o_ct (c_wTrimX false (((digs m).getD (j - 1) 0) :: digs r) (by first | assumption | exact dgn_dig _ _ | exact digs_dig _ | exact Dig.snoc (by assumption) (by assumption) | exact Dig.cons (by omega) (digs_dig _))) gn f35_ rfl ?_
  refine o_fieldS (.slc 1 (ns .u32 (digs (sg false (val (((digs m).getD (j - 1) 0) :: digs r))).natAbs)) ((digs (sg false (val (((digs m).getD (j - 1) 0) :: digs r))).natAbs).length)) gn f5_ f6_ rfl rfl ?_
  refine n_as (v' := (.slc 1 (ns .u32 (digs ((digs m).getD (j - 1) 0 + 1000000000 * r))) ((digs ((digs m).getD (j - 1) 0 + 1000000000 * r)).length))) (by exact nc_sg (by simp only [val, val_digs])) ?_
  refine o_as (.slc 1 (ns .u32 (digs ((digs m).getD (j - 1) 0 + 1000000000 * r))) ((digs ((digs m).getD (j - 1) 0 + 1000000000 * r)).length)) rfl (aops_end (hK8 _ (awp_seq fun K9 hK9 => awp_seq fun K10 hK10 => awp_region rfl (o_mv (.slc 1 (ns .u32 (digs ((digs m).getD (j - 1) 0 + 1000000000 * r))) ((digs ((digs m).getD (j - 1) 0 + 1000000000 * r)).length)) rfl (o_mv (.sl 1 (ns .u32 (digs n))) rfl ?_)))))
  refine o_callG [] [.slc 1 (ns .u32 (digs ((digs m).getD (j - 1) 0 + 1000000000 * r))) ((digs ((digs m).getD (j - 1) 0 + 1000000000 * r)).length), .sl 1 (ns .u32 (digs n))] _ (Iv (cmpN ((digs m).getD (j - 1) 0 + 1000000000 * r) n)) [(3, .row 93 1 (ns .u32 o))] gn f24_ rfl trivial rfl rfl (LeL.cons AV.le_slc (LeL.cons (AV.le_refl _) LeL.nil)) (c_wSize ((digs m).getD (j - 1) 0 + 1000000000 * r) n) rfl ?_
  refine o_lss (a := (cmpN ((digs m).getD (j - 1) 0 + 1000000000 * r) n)) (c := ((0 : Nat) : Int)) gn rfl rfl ?_
  refine aops_end (hK10 _ ?_)
  refine awp_condQ (q := (cmpN ((digs m).getD (j - 1) 0 + 1000000000 * r) n) < ((0 : Nat) : Int)) rfl (fun h2 => ?_) (fun h2 => ?_)
  ·have hXn := cmpN_neg h2
   refine awp_exit ?_
   refine hK7 _ (awp_region rfl (o_mv (Nv (j - 1)) rfl ?_))
   refine o_sub (a := ((j - 1 : Nat) : Int)) (c := ((1 : Nat) : Int)) gn rfl rfl (by exact wrap64 (by omega) (by omega)) ?_
   refine o_as (Iv (((j - 1 : Nat) : Int) - ((1 : Nat) : Int))) rfl (aops_end ?_)
   refine ⟨_, _, ?lt, ⟨j - 1, o, (digs m).getD (j - 1) 0 + 1000000000 * r, (by omega), hl, hd, (fun k hk => hz k (by omega)), hXn, (quo_skip (by omega) hl (by rw [Nat.sub_add_cancel (by omega)]; exact hv) (hz _ (by omega)) hXn), rfl, rfl⟩, ?wk⟩
   case lt => omega
   case wk => exact Wk.sub ⟨rfl, rfl, rfl, (by first | rfl | exact int_eq (by omega) | exact int_nm (by omega)), (by first | rfl | simp), trivial⟩ ⟨rfl, trivial⟩
  ·have hXn := cmpN_nneg h2
   refine awp_skip (hK9 _ (awp_seq fun K11 hK11 => awp_region rfl (o_as (nm .u64 0) rfl (o_as (nm .u64 1000000000) rfl (aops_end (hK11 _ (awp_seq fun K12 hK12 => ?_)))))))
   refine awp_block ?_
   refine awp_loopR (fun κ σ => ∃ (l : Nat), ∃ (h : Nat), (l < h) ∧ (h ≤ 1000000000) ∧ (n * l ≤ ((digs m).getD (j - 1) 0 + 1000000000 * r)) ∧ (((digs m).getD (j - 1) 0 + 1000000000 * r) < n * h) ∧ (h - l) = κ ∧ σ = ⟨[(0, .sl 1 (ns .u32 (digs m))), (1, .sl 1 (ns .u32 (digs n))), (6, .row 3), (8, Nv (j - 1)), (7, .slc 1 (ns .u32 (digs ((digs m).getD (j - 1) 0 + 1000000000 * r))) ((digs ((digs m).getD (j - 1) 0 + 1000000000 * r)).length)), (9, nm .u64 l), (10, nm .u64 h)], [(3, .row 93 1 (ns .u32 o))]⟩) ⟨_, _, ⟨0, 1000000000, (by decide), Nat.le_refl _, (by rw [Nat.mul_zero]; exact Nat.zero_le _), hXt, rfl, rfl⟩, ?wk1⟩ ?rd1
   case wk1 =>
    exact Wk.sub ⟨rfl, rfl, rfl, rfl, rfl, (by first | rfl | exact nm_int (by omega)), (by first | rfl | exact nm_int (by omega)), trivial⟩ ⟨rfl, trivial⟩
   rintro κ _ ⟨l, h, hlh, hh, hlo, hhi, rfl, rfl⟩
   have hml := digs_mul_len n ((l + h) / 2)
   have hmd := digs_len_small (n := (l + h) / 2) (by omega)
   have hnl := digs_len_le hlo
   refine awp_seq fun K13 hK13 => awp_seq fun K14 hK14 => awp_region rfl (o_mv (nm .u64 h) rfl (o_mv (nm .u64 l) rfl ?_))
   refine n_sub h l gn rfl rfl (by omega) (by simp only [topOf]; omega) ?_
   refine n_gtr (h - l) 1 gn rfl rfl ?_
   refine aops_end (hK14 _ ?_)
   refine awp_condQ (q := 1 < (h - l)) rfl (fun h3 => ?_) (fun h3 => ?_)
   ·refine awp_skip (hK13 _ ?_)
    refine awp_block ?_
    refine awp_seq fun K15 hK15 => awp_region rfl (o_mv (nm .u64 l) rfl (o_mv (nm .u64 h) rfl ?_))
    refine n_add l h gn rfl rfl (by simp only [topOf]; omega) ?_
    refine n_quo (l + h) 2 gn rfl rfl (by omega) (by simp only [topOf]; omega) ?_
    refine o_as (nm .u64 ((l + h) / 2)) rfl (aops_end (hK15 _ (awp_seq fun K16 hK16 => awp_region rfl (o_mv (.sl 1 (ns .u32 (digs n))) rfl (o_mv (nm .u64 ((l + h) / 2)) rfl ?_)))))
    refine o_ct (c_wTimes n ((l + h) / 2) (by omega) (by omega)) gn f77_ rfl ?_
    refine o_mv (.slc 1 (ns .u32 (digs ((digs m).getD (j - 1) 0 + 1000000000 * r))) ((digs ((digs m).getD (j - 1) 0 + 1000000000 * r)).length)) rfl ?_
    refine o_callG [] [.sl 1 (ns .u32 (digs (n * ((l + h) / 2)))), .slc 1 (ns .u32 (digs ((digs m).getD (j - 1) 0 + 1000000000 * r))) ((digs ((digs m).getD (j - 1) 0 + 1000000000 * r)).length)] _ (Iv (cmpN (n * ((l + h) / 2)) ((digs m).getD (j - 1) 0 + 1000000000 * r))) [(3, .row 93 1 (ns .u32 o))] gn f24_ rfl trivial rfl rfl (LeL.cons (AV.le_refl _) (LeL.cons AV.le_slc LeL.nil)) (c_wSize (n * ((l + h) / 2)) ((digs m).getD (j - 1) 0 + 1000000000 * r)) rfl ?_
    refine o_leq (a := (cmpN (n * ((l + h) / 2)) ((digs m).getD (j - 1) 0 + 1000000000 * r))) (c := ((0 : Nat) : Int)) gn rfl rfl ?_
    refine aops_end (hK16 _ ?_)
    refine awp_condQ (q := (cmpN (n * ((l + h) / 2)) ((digs m).getD (j - 1) 0 + 1000000000 * r)) ≤ ((0 : Nat) : Int)) rfl (fun h4 => ?_) (fun h4 => ?_)
    ·refine awp_region rfl (o_mv (nm .u64 ((l + h) / 2)) rfl (o_as (nm .u64 ((l + h) / 2)) rfl (aops_end ?_)))
     refine ⟨_, _, ?lt, ⟨(l + h) / 2, h, (by omega), hh, cmpN_le h4, hhi, rfl, rfl⟩, ?wk⟩
     case lt => omega
     case wk => exact Wk.sub ⟨rfl, rfl, rfl, rfl, rfl, (by first | rfl | exact nm_int (by omega)), rfl, trivial⟩ ⟨rfl, trivial⟩
    ·refine awp_region rfl (o_mv (nm .u64 ((l + h) / 2)) rfl (o_as (nm .u64 ((l + h) / 2)) rfl (aops_end ?_)))
     refine ⟨_, _, ?lt, ⟨l, (l + h) / 2, (by omega), (by omega), hlo, cmpN_nle h4, rfl, rfl⟩, ?wk⟩
     case lt => omega
     case wk => exact Wk.sub ⟨rfl, rfl, rfl, rfl, rfl, rfl, (by first | rfl | exact nm_int (by omega)), trivial⟩ ⟨rfl, trivial⟩
   ·have hh1 : h = l + 1 := by omega
    have hend := hhi
    rw [hh1] at hend
    refine awp_exit ?_
    refine hK12 _ (awp_seq fun K17 hK17 => awp_region rfl (o_mv (.row 3) rfl (o_mv (Nv (j - 1)) rfl (o_mv (nm .u64 l) rfl ?_))))
    refine n_conv l gn rfl f40_ f28_ (by simp only [topOf]; omega) ?_
    refine n_indexRow o (j - 1) gn f16_ rfl rfl rfl (by omega) ?_
    refine n_storeRow o (j - 1) l [(3, .row 93 1 (ns .u32 (o.set (j - 1) l)))] gn f42_ rfl rfl rfl (by omega) rfl ?_
    refine aops_end (hK17 _ (awp_region rfl (o_mv (.slc 1 (ns .u32 (digs ((digs m).getD (j - 1) 0 + 1000000000 * r))) ((digs ((digs m).getD (j - 1) 0 + 1000000000 * r)).length)) rfl (o_mv (.sl 1 (ns .u32 (digs n))) rfl (o_mv (nm .u64 l) rfl ?_)))))
    refine o_ct (c_wTimes n l (by omega) (by omega)) gn f77_ rfl ?_
    refine o_callG [] [.slc 1 (ns .u32 (digs ((digs m).getD (j - 1) 0 + 1000000000 * r))) ((digs ((digs m).getD (j - 1) 0 + 1000000000 * r)).length), .sl 1 (ns .u32 (digs (n * l)))] _ (.sl 1 (ns .u32 (dgn (digs ((digs m).getD (j - 1) 0 + 1000000000 * r)).length (((digs m).getD (j - 1) 0 + 1000000000 * r) - (n * l))))) [(3, .row 93 1 (ns .u32 (o.set (j - 1) l)))] gn f36_ rfl trivial rfl rfl (LeL.cons AV.le_slc (LeL.cons (AV.le_refl _) LeL.nil)) (c_wLess ((digs m).getD (j - 1) 0 + 1000000000 * r) (n * l) (by omega) (by omega) (by omega)) rfl ?_
    refine o_ct (c_wTrimX false (dgn (digs ((digs m).getD (j - 1) 0 + 1000000000 * r)).length (((digs m).getD (j - 1) 0 + 1000000000 * r) - (n * l))) (by first | assumption | exact dgn_dig _ _ | exact digs_dig _ | exact Dig.snoc (by assumption) (by assumption) | exact Dig.cons (by omega) (digs_dig _))) gn f35_ rfl ?_
    refine o_fieldS (.slc 1 (ns .u32 (digs (sg false (val (dgn (digs ((digs m).getD (j - 1) 0 + 1000000000 * r)).length (((digs m).getD (j - 1) 0 + 1000000000 * r) - (n * l))))).natAbs)) ((digs (sg false (val (dgn (digs ((digs m).getD (j - 1) 0 + 1000000000 * r)).length (((digs m).getD (j - 1) 0 + 1000000000 * r) - (n * l))))).natAbs).length)) gn f5_ f6_ rfl rfl ?_
    refine n_as (v' := (.slc 1 (ns .u32 (digs (((digs m).getD (j - 1) 0 + 1000000000 * r) - n * l))) ((digs (((digs m).getD (j - 1) 0 + 1000000000 * r) - n * l)).length))) (by exact nc_sg (val_minus _ _)) ?_
    refine o_as (.slc 1 (ns .u32 (digs (((digs m).getD (j - 1) 0 + 1000000000 * r) - n * l))) ((digs (((digs m).getD (j - 1) 0 + 1000000000 * r) - n * l)).length)) rfl (aops_end (hK7 _ (awp_region rfl (o_mv (Nv (j - 1)) rfl ?_))))
    refine o_sub (a := ((j - 1 : Nat) : Int)) (c := ((1 : Nat) : Int)) gn rfl rfl (by exact wrap64 (by omega) (by omega)) ?_
    refine o_as (Iv (((j - 1 : Nat) : Int) - ((1 : Nat) : Int))) rfl (aops_end ?_)
    refine ⟨_, _, ?lt, ⟨j - 1, o.set (j - 1) l, ((digs m).getD (j - 1) 0 + 1000000000 * r) - n * l, (by omega), (by simp only [List.length_set]; exact hl), (hd.set (by omega)), (fun k hk => by rw [getD_set_off (by omega)]; exact hz k (by omega)), quo_rest hlo hend, (quo_put (by omega) hl (by rw [Nat.sub_add_cancel (by omega)]; exact hv) hlo hend), rfl, rfl⟩, ?wk⟩
    case lt => omega
    case wk => exact Wk.sub ⟨rfl, rfl, rfl, (by first | rfl | exact int_eq (by omega) | exact int_nm (by omega)), (by first | rfl | simp), trivial⟩ ⟨(by first | rfl | exact row_ns (by simp)), trivial⟩
 ·have hj0 : j = 0 := by omega
  have hv0 := hv
  rw [hj0] at hv0
  have hE := div_end hr hv0
  refine awp_exit ?_
  refine hK3 _ (awp_seq fun K18 hK18 => awp_region rfl (o_mv (.row 3) rfl (o_mv (.slc 1 (ns .u32 (digs r)) ((digs r).length)) rfl (o_as (.row 3) rfl (o_as (.slc 1 (ns .u32 (digs r)) ((digs r).length)) rfl (aops_end (hK18 _ ?_)))))))
  refine awp_wk (σ' := ⟨[(4, .row 3), (5, .slc 1 (ns .u32 (digs r)) ((digs r).length))], [(3, .row 93 1 (ns .u32 o))]⟩) (Wk.sub ⟨rfl, rfl, trivial⟩ ⟨rfl, trivial⟩) ?_
  refine awp_wk (σ' := ⟨[(4, .sl 1 (ns .u32 o)), (5, .slc 1 (ns .u32 (digs r)) ((digs r).length))], []⟩) (Wk.freeze (id := 3) (e := 93) (sz := 1) (cs := (ns .u32 o)) rfl) ?_
  refine awp_ret ?_
  refine post_ret ⟨[.sl 1 (ns .u32 o), .sl 1 (ns .u32 (digs r))], ⟨AV.le_refl _, AV.le_slc, trivial⟩, rfl, ?_⟩
  exact tup_eq2 (ns_congr (dgn_eq hd hl hE.1).symm) (ns_congr (by rw [← hE.2]))

end Go.Proofs.YtaeknciienkijaaGreatDoor

namespace Go.Proofs.YtaeknciienkijaaGreatDoor
open Go Go.Ab Go.Mth
theorem f78_ : callable cx.P 103 = true := by kernel_rfl
theorem f79_ : callable cx.P 72 = true := by kernel_rfl
theorem c_wDivide (x y : Int) (hy : 0 < y) (hx : (digs x.natAbs).length ≤ 800000000) (hyl : (digs y.natAbs).length ≤ 800000000) : ECalls cx 72 [intW x, intW y] (.tup [intW (x / y), intW (x % y)]) := by
 refine ecalls_of_awp Tryz.func72 (c := _) rfl (Nat.le_of_ble_eq_true rfl) ?_
 show awp cx 40 _ (postF cx Tryz.f72 _) ⟨[(0, intW x), (1, intW y)], []⟩
 have hlq := fun b => len_qN b x y
 have hlr := fun b => len_rN b x y
 have hq1 : (digs ((sg true (val (dgn (digs (x.natAbs)).length (x.natAbs / y.natAbs)))).natAbs)).length ≤ (digs x.natAbs).length := hlq true
 have hr1 : (digs ((sg true (val (digs (x.natAbs % y.natAbs)))).natAbs)).length ≤ (digs x.natAbs).length := hlr true
 have ho := len_one
 refine awp_seq fun K0 hK0 => awp_region rfl ?_
 refine o_box 2 [bp (x < 0), .sl 1 (ns .u32 (digs x.natAbs))] gn rfl rfl ?_
 refine o_box 3 [bp (y < 0), .sl 1 (ns .u32 (digs y.natAbs))] gn rfl rfl ?_
 refine o_alloc 4 [Fv, Zv] gn f15_ rfl rfl rfl ?_
 refine o_alloc 5 [Fv, Zv] gn f15_ rfl rfl rfl ?_
 refine aops_end (hK0 _ (awp_seq fun K1 hK1 => awp_region rfl ?_))
 refine o_fieldRef 1 gn f5_ rfl rfl ?_
 refine o_loadS (.sl 1 (ns .u32 (digs x.natAbs))) gn f6_ rfl rfl rfl ?_
 refine o_fieldRef 1 gn f5_ rfl rfl ?_
 refine o_loadS (.sl 1 (ns .u32 (digs y.natAbs))) gn f6_ rfl rfl rfl ?_
 refine o_ct (c_wQuot (x.natAbs) (y.natAbs) (by omega) (by omega) (by omega)) gn f78_ rfl ?_
 refine o_mv (.tup [.sl 1 (ns .u32 (dgn (digs (x.natAbs)).length (x.natAbs / y.natAbs))), .sl 1 (ns .u32 (digs (x.natAbs % y.natAbs)))]) rfl (o_extract (.sl 1 (ns .u32 (dgn (digs (x.natAbs)).length (x.natAbs / y.natAbs)))) gn rfl rfl (o_extract (.sl 1 (ns .u32 (digs (x.natAbs % y.natAbs)))) gn rfl rfl (o_as (.sl 1 (ns .u32 (dgn (digs (x.natAbs)).length (x.natAbs / y.natAbs)))) rfl (o_as (.sl 1 (ns .u32 (digs (x.natAbs % y.natAbs)))) rfl (aops_end (hK1 _ (awp_seq fun K2 hK2 => awp_seq fun K3 hK3 => awp_region rfl ?_)))))))
 refine o_fieldRef 0 gn f8_ rfl rfl ?_
 refine o_loadS (bp (x < 0)) gn f4_ rfl rfl rfl ?_
 refine o_notP (q := x < 0) gn rfl ?_
 refine aops_end (hK3 _ ?_)
 refine awp_condQ (q := ¬ (x < 0)) rfl (fun h1 => ?_) (fun h1 => ?_)
 ·refine awp_seq fun K4 hK4 => awp_region rfl (o_mv (.sl 1 (ns .u32 (dgn (digs (x.natAbs)).length (x.natAbs / y.natAbs)))) rfl ?_)
  refine o_ct (c_wTrim false (dgn (digs (x.natAbs)).length (x.natAbs / y.natAbs)) (by first | assumption | exact dgn_dig _ _ | exact digs_dig _ | exact Dig.snoc (by assumption) (by assumption) | exact Dig.cons (by omega) (digs_dig _))) gn f35_ rfl ?_
  refine o_mv (.sl 1 (ns .u32 (digs (x.natAbs % y.natAbs)))) rfl ?_
  refine o_ct (c_wTrim false (digs (x.natAbs % y.natAbs)) (by first | assumption | exact dgn_dig _ _ | exact digs_dig _ | exact Dig.snoc (by assumption) (by assumption) | exact Dig.cons (by omega) (digs_dig _))) gn f35_ rfl ?_
  refine o_store [(5, .var 51 [Fv, Zv]), (4, oZ 51 .u32 (sg false (val (dgn (digs (x.natAbs)).length (x.natAbs / y.natAbs))))), (3, oZ 51 .u32 y), (2, oZ 51 .u32 x)] gn f19_ rfl rfl rfl rfl rfl rfl ?_
  refine o_store [(5, oZ 51 .u32 (sg false (val (digs (x.natAbs % y.natAbs))))), (4, oZ 51 .u32 (sg false (val (dgn (digs (x.natAbs)).length (x.natAbs / y.natAbs))))), (3, oZ 51 .u32 y), (2, oZ 51 .u32 x)] gn f19_ rfl rfl rfl rfl rfl rfl ?_
  refine aops_end (hK4 _ ?_)
  refine awp_ret ?_
  refine post_ret ⟨[intW (sg false (val (dgn (digs (x.natAbs)).length (x.natAbs / y.natAbs)))), intW (sg false (val (digs (x.natAbs % y.natAbs))))], ⟨⟨4, oZ 51 .u32 (sg false (val (dgn (digs (x.natAbs)).length (x.natAbs / y.natAbs)))), rfl, rfl, rfl, Or.inl ⟨f20_, AV.le_refl _⟩⟩, ⟨5, oZ 51 .u32 (sg false (val (digs (x.natAbs % y.natAbs)))), rfl, rfl, rfl, Or.inl ⟨f20_, AV.le_refl _⟩⟩, trivial⟩, rfl, ?_⟩
  have e := div1 h1 hy
  exact tup_eq2 (congrArg intW e.1) (congrArg intW e.2)
 ·refine awp_skip (hK2 _ (awp_seq fun K5 hK5 => awp_region rfl (o_mv (.sl 1 (ns .u32 (dgn (digs (x.natAbs)).length (x.natAbs / y.natAbs)))) rfl ?_)))
  refine o_ct (c_wTrim true (dgn (digs (x.natAbs)).length (x.natAbs / y.natAbs)) (by first | assumption | exact dgn_dig _ _ | exact digs_dig _ | exact Dig.snoc (by assumption) (by assumption) | exact Dig.cons (by omega) (digs_dig _))) gn f35_ rfl ?_
  refine o_mv (.sl 1 (ns .u32 (digs (x.natAbs % y.natAbs)))) rfl ?_
  refine o_ct (c_wTrim true (digs (x.natAbs % y.natAbs)) (by first | assumption | exact dgn_dig _ _ | exact digs_dig _ | exact Dig.snoc (by assumption) (by assumption) | exact Dig.cons (by omega) (digs_dig _))) gn f35_ rfl ?_
  refine o_alloc 6 [Fv, Zv] gn f15_ rfl rfl rfl ?_
  refine o_alloc 7 [Fv, Zv] gn f15_ rfl rfl rfl ?_
  refine o_store [(7, .var 51 [Fv, Zv]), (6, oZ 51 .u32 (sg true (val (dgn (digs (x.natAbs)).length (x.natAbs / y.natAbs))))), (5, .var 51 [Fv, Zv]), (4, .var 51 [Fv, Zv]), (3, oZ 51 .u32 y), (2, oZ 51 .u32 x)] gn f19_ rfl rfl rfl rfl rfl rfl ?_
  refine o_store [(7, oZ 51 .u32 (sg true (val (digs (x.natAbs % y.natAbs))))), (6, oZ 51 .u32 (sg true (val (dgn (digs (x.natAbs)).length (x.natAbs / y.natAbs))))), (5, .var 51 [Fv, Zv]), (4, .var 51 [Fv, Zv]), (3, oZ 51 .u32 y), (2, oZ 51 .u32 x)] gn f19_ rfl rfl rfl rfl rfl rfl ?_
  refine aops_end (hK5 _ (awp_seq fun K6 hK6 => awp_seq fun K7 hK7 => awp_region rfl ?_))
  refine o_loadA [bp ((sg true (val (digs (x.natAbs % y.natAbs)))) < 0), .sl 1 (ns .u32 (digs (sg true (val (digs (x.natAbs % y.natAbs)))).natAbs))] gn f20_ rfl rfl rfl rfl rfl ?_
  refine o_ct (c_wSign (sg true (val (digs (x.natAbs % y.natAbs))))) gn f23_ rfl ?_
  refine o_lss (a := (sgn (sg true (val (digs (x.natAbs % y.natAbs)))))) (c := ((0 : Nat) : Int)) gn rfl rfl ?_
  refine aops_end (hK7 _ ?_)
  refine awp_condQ (q := (sgn (sg true (val (digs (x.natAbs % y.natAbs))))) < ((0 : Nat) : Int)) rfl (fun h2 => ?_) (fun h2 => ?_)
  ·refine awp_seq fun K8 hK8 => awp_regionD rfl ?_
   refine o_loadA [bp ((sg true (val (dgn (digs (x.natAbs)).length (x.natAbs / y.natAbs)))) < 0), .sl 1 (ns .u32 (digs (sg true (val (dgn (digs (x.natAbs)).length (x.natAbs / y.natAbs)))).natAbs))] gn f20_ rfl rfl rfl rfl rfl ?_
   refine o_ct (c_wOf (1 : Int) (by first | decide | omega) (by first | decide | omega)) gn f46_ rfl ?_
   refine o_ct (c_wSub (sg true (val (dgn (digs (x.natAbs)).length (x.natAbs / y.natAbs)))) (1 : Int) (by first | omega | assumption | (simp only [Int.natAbs_neg]; omega)) (by first | omega | assumption | (simp only [Int.natAbs_neg]; omega))) gn f47_ rfl ?_
   refine o_loadA [bp ((sg true (val (digs (x.natAbs % y.natAbs)))) < 0), .sl 1 (ns .u32 (digs (sg true (val (digs (x.natAbs % y.natAbs)))).natAbs))] gn f20_ rfl rfl rfl rfl rfl ?_
   refine o_loadA [bp (y < 0), .sl 1 (ns .u32 (digs y.natAbs))] gn f20_ rfl rfl rfl rfl rfl ?_
   refine o_ct (c_wAdd (sg true (val (digs (x.natAbs % y.natAbs)))) y (by first | omega | assumption | (simp only [Int.natAbs_neg]; omega)) (by first | omega | assumption | (simp only [Int.natAbs_neg]; omega))) gn f38_ rfl ?_
   refine o_store [(7, oZ 51 .u32 (sg true (val (digs (x.natAbs % y.natAbs))))), (6, oZ 51 .u32 (sg true (val (dgn (digs (x.natAbs)).length (x.natAbs / y.natAbs))))), (5, .var 51 [Fv, Zv]), (4, (oZ 51 .u32 ((sg true (val (dgn (digs (x.natAbs)).length (x.natAbs / y.natAbs)))) - (1 : Int)))), (3, oZ 51 .u32 y), (2, oZ 51 .u32 x)] gn f19_ rfl rfl rfl rfl rfl rfl ?_
   refine o_store [(7, oZ 51 .u32 (sg true (val (digs (x.natAbs % y.natAbs))))), (6, oZ 51 .u32 (sg true (val (dgn (digs (x.natAbs)).length (x.natAbs / y.natAbs))))), (5, oZ 51 .u32 ((sg true (val (digs (x.natAbs % y.natAbs)))) + y)), (4, (oZ 51 .u32 ((sg true (val (dgn (digs (x.natAbs)).length (x.natAbs / y.natAbs)))) - (1 : Int)))), (3, oZ 51 .u32 y), (2, oZ 51 .u32 x)] gn f19_ rfl rfl rfl rfl rfl rfl ?_
   refine aops_end ⟨by kernel_rfl, ?_⟩
   refine hK8 _ ?_
   refine awp_ret ?_
   refine post_ret ⟨[(intW ((sg true (val (dgn (digs (x.natAbs)).length (x.natAbs / y.natAbs)))) - (1 : Int))), intW ((sg true (val (digs (x.natAbs % y.natAbs)))) + y)], ⟨⟨4, (oZ 51 .u32 ((sg true (val (dgn (digs (x.natAbs)).length (x.natAbs / y.natAbs)))) - (1 : Int))), rfl, rfl, rfl, Or.inl ⟨f20_, AV.le_refl _⟩⟩, ⟨5, oZ 51 .u32 ((sg true (val (digs (x.natAbs % y.natAbs)))) + y), rfl, rfl, rfl, Or.inl ⟨f20_, AV.le_refl _⟩⟩, trivial⟩, rfl, ?_⟩
   have e := div2 (Decidable.not_not.1 h1) hy h2
   exact tup_eq2 (congrArg intW e.1) (congrArg intW e.2)
  ·refine awp_skip (hK6 _ (awp_seq fun K9 hK9 => awp_regionD rfl ?_))
   refine o_loadA [bp ((sg true (val (dgn (digs (x.natAbs)).length (x.natAbs / y.natAbs)))) < 0), .sl 1 (ns .u32 (digs (sg true (val (dgn (digs (x.natAbs)).length (x.natAbs / y.natAbs)))).natAbs))] gn f20_ rfl rfl rfl rfl rfl ?_
   refine o_loadA [bp ((sg true (val (digs (x.natAbs % y.natAbs)))) < 0), .sl 1 (ns .u32 (digs (sg true (val (digs (x.natAbs % y.natAbs)))).natAbs))] gn f20_ rfl rfl rfl rfl rfl ?_
   refine o_store [(7, oZ 51 .u32 (sg true (val (digs (x.natAbs % y.natAbs))))), (6, oZ 51 .u32 (sg true (val (dgn (digs (x.natAbs)).length (x.natAbs / y.natAbs))))), (5, .var 51 [Fv, Zv]), (4, oZ 51 .u32 (sg true (val (dgn (digs (x.natAbs)).length (x.natAbs / y.natAbs))))), (3, oZ 51 .u32 y), (2, oZ 51 .u32 x)] gn f19_ rfl rfl rfl rfl rfl rfl ?_
   refine o_store [(7, oZ 51 .u32 (sg true (val (digs (x.natAbs % y.natAbs))))), (6, oZ 51 .u32 (sg true (val (dgn (digs (x.natAbs)).length (x.natAbs / y.natAbs))))), (5, oZ 51 .u32 (sg true (val (digs (x.natAbs % y.natAbs))))), (4, oZ 51 .u32 (sg true (val (dgn (digs (x.natAbs)).length (x.natAbs / y.natAbs))))), (3, oZ 51 .u32 y), (2, oZ 51 .u32 x)] gn f19_ rfl rfl rfl rfl rfl rfl ?_
   refine aops_end ⟨by kernel_rfl, ?_⟩
   refine hK9 _ ?_
   refine awp_ret ?_
   refine post_ret ⟨[intW (sg true (val (dgn (digs (x.natAbs)).length (x.natAbs / y.natAbs)))), intW (sg true (val (digs (x.natAbs % y.natAbs))))], ⟨⟨4, oZ 51 .u32 (sg true (val (dgn (digs (x.natAbs)).length (x.natAbs / y.natAbs)))), rfl, rfl, rfl, Or.inl ⟨f20_, AV.le_refl _⟩⟩, ⟨5, oZ 51 .u32 (sg true (val (digs (x.natAbs % y.natAbs)))), rfl, rfl, rfl, Or.inl ⟨f20_, AV.le_refl _⟩⟩, trivial⟩, rfl, ?_⟩
   have e := div3 (Decidable.not_not.1 h1) hy h2
   exact tup_eq2 (congrArg intW e.1) (congrArg intW e.2)

theorem c_wGcd (x y : Int) (hx : (digs x.natAbs).length ≤ 800000000) (hyl : (digs y.natAbs).length ≤ 800000000) : ECalls cx 71 [intW x, intW y] (intW ((Int.gcd x y : Nat) : Int)) := by
 refine ecalls_of_awp Tryz.func71 (c := _) rfl (Nat.le_of_ble_eq_true rfl) ?_
 show awp cx 25 _ (postF cx Tryz.f71 _) ⟨[(0, intW x), (1, intW y)], []⟩
 refine awp_seq fun K0 hK0 => awp_region rfl ?_
 refine o_box 2 [bp (x < 0), .sl 1 (ns .u32 (digs x.natAbs))] gn rfl rfl ?_
 refine o_box 3 [bp (y < 0), .sl 1 (ns .u32 (digs y.natAbs))] gn rfl rfl ?_
 refine o_alloc 4 [Fv, Zv] gn f15_ rfl rfl rfl ?_
 refine aops_end (hK0 _ (awp_seq fun K1 hK1 => awp_regionD rfl ?_))
 refine o_fieldRef 1 gn f5_ rfl rfl ?_
 refine o_loadS (.sl 1 (ns .u32 (digs x.natAbs))) gn f6_ rfl rfl rfl ?_
 refine o_ct (c_wTrim false (digs x.natAbs) (by first | assumption | exact dgn_dig _ _ | exact digs_dig _ | exact Dig.snoc (by assumption) (by assumption) | exact Dig.cons (by omega) (digs_dig _))) gn f35_ rfl ?_
 refine n_as (v' := (intW ((x.natAbs : Nat) : Int))) (by exact congrArg intW (by rw [val_digs]; rfl)) ?_
 refine o_fieldRef 1 gn f5_ rfl rfl ?_
 refine o_loadS (.sl 1 (ns .u32 (digs y.natAbs))) gn f6_ rfl rfl rfl ?_
 refine o_ct (c_wTrim false (digs y.natAbs) (by first | assumption | exact dgn_dig _ _ | exact digs_dig _ | exact Dig.snoc (by assumption) (by assumption) | exact Dig.cons (by omega) (digs_dig _))) gn f35_ rfl ?_
 refine n_as (v' := (intW ((y.natAbs : Nat) : Int))) (by exact congrArg intW (by rw [val_digs]; rfl)) ?_
 refine o_store [(4, .var 51 [Fv, Zv]), (3, oZ 51 .u32 y), (2, (oZ 51 .u32 ((x.natAbs : Nat) : Int)))] gn f19_ rfl rfl rfl rfl rfl rfl ?_
 refine o_store [(4, .var 51 [Fv, Zv]), (3, (oZ 51 .u32 ((y.natAbs : Nat) : Int))), (2, (oZ 51 .u32 ((x.natAbs : Nat) : Int)))] gn f19_ rfl rfl rfl rfl rfl rfl ?_
 refine aops_end ⟨by kernel_rfl, ?_⟩
 refine hK1 _ (awp_seq fun K2 hK2 => ?_)
 refine awp_block ?_
 refine awp_loopR (fun κ σ => ∃ (u : Nat), ∃ (v : Nat), (Nat.gcd u v = Int.gcd x y) ∧ ((digs u).length ≤ 800000000) ∧ ((digs v).length ≤ 800000000) ∧ v = κ ∧ σ = ⟨[(2, .ref 2 0), (3, .ref 3 0), (4, .ref 4 0)], [(2, (oZ 51 .u32 ((u : Nat) : Int))), (3, (oZ 51 .u32 ((v : Nat) : Int))), (4, .var 51 [Fv, Zv])]⟩) ⟨_, _, ⟨x.natAbs, y.natAbs, rfl, hx, hyl, rfl, rfl⟩, ?wk0⟩ ?rd0
 case wk0 =>
  exact Wk.sub ⟨rfl, rfl, rfl, trivial⟩ ⟨rfl, rfl, rfl, trivial⟩
 rintro κ _ ⟨u, v, hg, hu, hv, rfl, rfl⟩
 have hu2 : (digs ((u : Nat) : Int).natAbs).length ≤ 800000000 := hu
 have hv2 : (digs ((v : Nat) : Int).natAbs).length ≤ 800000000 := hv
 refine awp_seq fun K3 hK3 => awp_seq fun K4 hK4 => awp_region rfl ?_
 refine o_loadA [(bp (((v : Nat) : Int) < 0)), (.sl 1 (ns .u32 (digs ((v : Nat) : Int).natAbs)))] gn f20_ rfl rfl rfl rfl rfl ?_
 refine o_ct (c_wSign ((v : Nat) : Int)) gn f23_ rfl ?_
 refine o_gtr (a := (sgn ((v : Nat) : Int))) (c := ((0 : Nat) : Int)) gn rfl rfl ?_
 refine aops_end (hK4 _ ?_)
 refine awp_condQ (q := ((0 : Nat) : Int) < (sgn ((v : Nat) : Int))) rfl (fun h1 => ?_) (fun h1 => ?_)
 ·have hvp := sgn_pos.1 h1
  have hv0 : 0 < v := by omega
  refine awp_skip (hK3 _ ?_)
  refine awp_block ?_
  refine awp_seq fun K5 hK5 => awp_region rfl ?_
  refine o_loadA [(bp (((u : Nat) : Int) < 0)), (.sl 1 (ns .u32 (digs ((u : Nat) : Int).natAbs)))] gn f20_ rfl rfl rfl rfl rfl ?_
  refine o_loadA [(bp (((v : Nat) : Int) < 0)), (.sl 1 (ns .u32 (digs ((v : Nat) : Int).natAbs)))] gn f20_ rfl rfl rfl rfl rfl ?_
  refine o_ct (c_wDivide ((u : Nat) : Int) ((v : Nat) : Int) (by omega) (by omega) (by omega)) gn f79_ rfl ?_
  refine o_mv (.tup [(intW (((u : Nat) : Int) / ((v : Nat) : Int))), (intW (((u : Nat) : Int) % ((v : Nat) : Int)))]) rfl (o_extract (intW (((u : Nat) : Int) / ((v : Nat) : Int))) gn rfl rfl (o_extract (intW (((u : Nat) : Int) % ((v : Nat) : Int))) gn rfl rfl ?_))
  refine n_as (v' := (intW ((u % v : Nat) : Int))) (by exact congrArg intW (Int.natCast_emod u v).symm) ?_
  refine o_alloc 101 [Fv, Zv] gn f15_ rfl rfl rfl ?_
  refine o_alloc 102 [Fv, Zv] gn f15_ rfl rfl rfl ?_
  refine o_store [(102, .var 51 [Fv, Zv]), (101, (oZ 51 .u32 (((u : Nat) : Int) / ((v : Nat) : Int)))), (2, (oZ 51 .u32 ((u : Nat) : Int))), (3, (oZ 51 .u32 ((v : Nat) : Int))), (4, .var 51 [Fv, Zv])] gn f19_ rfl rfl rfl rfl rfl rfl ?_
  refine o_store [(102, (oZ 51 .u32 ((u % v : Nat) : Int))), (101, (oZ 51 .u32 (((u : Nat) : Int) / ((v : Nat) : Int)))), (2, (oZ 51 .u32 ((u : Nat) : Int))), (3, (oZ 51 .u32 ((v : Nat) : Int))), (4, .var 51 [Fv, Zv])] gn f19_ rfl rfl rfl rfl rfl rfl ?_
  refine aops_end (hK5 _ (awp_regionD rfl ?_))
  refine o_loadA [(bp (((v : Nat) : Int) < 0)), (.sl 1 (ns .u32 (digs ((v : Nat) : Int).natAbs)))] gn f20_ rfl rfl rfl rfl rfl ?_
  refine o_loadA [(bp (((u % v : Nat) : Int) < 0)), (.sl 1 (ns .u32 (digs ((u % v : Nat) : Int).natAbs)))] gn f20_ rfl rfl rfl rfl rfl ?_
  refine o_store [(102, (oZ 51 .u32 ((u % v : Nat) : Int))), (101, (oZ 51 .u32 (((u : Nat) : Int) / ((v : Nat) : Int)))), (2, (oZ 51 .u32 ((v : Nat) : Int))), (3, (oZ 51 .u32 ((v : Nat) : Int))), (4, .var 51 [Fv, Zv])] gn f19_ rfl rfl rfl rfl rfl rfl ?_
  refine o_store [(102, (oZ 51 .u32 ((u % v : Nat) : Int))), (101, (oZ 51 .u32 (((u : Nat) : Int) / ((v : Nat) : Int)))), (2, (oZ 51 .u32 ((v : Nat) : Int))), (3, (oZ 51 .u32 ((u % v : Nat) : Int))), (4, .var 51 [Fv, Zv])] gn f19_ rfl rfl rfl rfl rfl rfl ?_
  refine aops_end ⟨by kernel_rfl, ?_⟩
  refine ⟨_, _, ?lt, ⟨v, u % v, gcd_next hg, hv, Nat.le_trans (digs_len_mod u hv0) hv, rfl, rfl⟩, ?wk⟩
  case lt => exact Nat.mod_lt u hv0
  case wk => exact Wk.sub ⟨rfl, rfl, rfl, trivial⟩ ⟨rfl, rfl, rfl, trivial⟩
 ·have hvz : v = 0 := (Nat.eq_zero_or_pos v).elim id (fun e => absurd (sgn_pos.2 (show (0 : Int) < ((v : Nat) : Int) by omega)) h1)
  refine awp_exit ?_
  refine hK2 _ (awp_seq fun K6 hK6 => awp_region rfl ?_)
  refine o_loadA [(bp (((u : Nat) : Int) < 0)), (.sl 1 (ns .u32 (digs ((u : Nat) : Int).natAbs)))] gn f20_ rfl rfl rfl rfl rfl ?_
  refine o_store [(2, (oZ 51 .u32 ((u : Nat) : Int))), (3, (oZ 51 .u32 ((v : Nat) : Int))), (4, (oZ 51 .u32 ((u : Nat) : Int)))] gn f19_ rfl rfl rfl rfl rfl rfl ?_
  refine aops_end (hK6 _ ?_)
  refine awp_ret ?_
  refine post_ret ⟨[(intW ((u : Nat) : Int))], ⟨⟨4, (oZ 51 .u32 ((u : Nat) : Int)), rfl, rfl, rfl, Or.inl ⟨f20_, AV.le_refl _⟩⟩, trivial⟩, rfl, ?_⟩
  exact congrArg intW (congrArg Int.ofNat (gcd_end hg hvz))

end Go.Proofs.YtaeknciienkijaaGreatDoor

namespace Go.Proofs.YtaeknciienkijaaGreatDoor
open Go Go.Ab Go.Mth
theorem f80_ : tyZero cx.P 88 = some [Go.Value.bool false, Go.Value.slice none 0 0, Go.Value.bool false, Go.Value.slice none 0 0, Go.Value.bool false, Go.Value.slice none 0 0] := by kernel_rfl
theorem f81_ : tyPlaces cx.P 88 = some (fun i => (#[(0, 2), (2, 2), (4, 2)] : Array (Nat × Nat))[i]?) := by kernel_rfl
theorem f82_ : tySize cx.P 88 = some 6 := by kernel_rfl
theorem f83_ : callable cx.P 68 = true := by kernel_rfl
theorem f84_ : tyField cx.P 88 0 = some (0, 51) := by kernel_rfl
theorem f85_ : tyField cx.P 88 1 = some (2, 51) := by kernel_rfl
theorem f86_ : tyField cx.P 88 2 = some (4, 51) := by kernel_rfl
theorem f87_ : tyAgg cx.P 88 = some 6 := by kernel_rfl
theorem c_oIs (m : MapM) (w : List Int) : ECalls cx 100 [mapV m, Lv w] (bp (OkW m w)) := by
 refine ecalls_of_awp Tryz.func100 (c := _) rfl (Nat.le_of_ble_eq_true rfl) ?_
 show awp cx 25 _ (postF cx Tryz.f100 _) ⟨[(0, mapV m), (1, Lv w)], []⟩
 refine awp_bound (i := 1) rfl fun hwl => ?_
 replace hwl := is_bnd hwl
 refine awp_seq fun K0 hK0 => awp_region rfl ?_
 refine o_box 2 [Iv m.mod, Lv m.mul, Lv m.add] gn rfl rfl ?_
 refine o_as Fv rfl (aops_end (hK0 _ (awp_seq fun K1 hK1 => awp_seq fun K2 hK2 => awp_region rfl (o_mv (Lv w) rfl ?_))))
 refine i_len w gn f2_ rfl ?_
 refine o_mv (Nv 0) rfl (aops_end (hK2 _ ?_))
 refine awp_block ?_
 refine awp_loopR (fun κ σ => ∃ (i : Nat), (i ≤ w.length) ∧ (∀ k, k < i → 0 ≤ w.getD k 0 ∧ w.getD k 0 < m.mod) ∧ (w.length - i) = κ ∧ σ = ⟨[(1, Lv w), (2, .ref 2 0), (7, Lv w), (8, Nv (w.length)), (9, Nv i)], [(2, oM 28 m)]⟩) ⟨_, _, ⟨0, (by omega), (fun k hk => by omega), rfl, rfl⟩, ?wk0⟩ ?rd0
 case wk0 =>
  exact Wk.sub ⟨rfl, rfl, rfl, rfl, (by first | rfl | exact nm_int (by omega)), trivial⟩ ⟨rfl, trivial⟩
 rintro κ _ ⟨i, hi, hf, rfl, rfl⟩
 refine awp_seq fun K3 hK3 => awp_region rfl ?_
 refine n_lss i (w.length) gn rfl rfl ?_
 refine aops_end (hK3 _ (awp_seq fun K4 hK4 => ?_))
 refine awp_condQ (q := i < (w.length)) rfl (fun h1 => ?_) (fun h1 => ?_)
 ·refine awp_skip (hK4 _ (awp_seq fun K5 hK5 => ?_))
  refine awp_block ?_
  refine awp_seq fun K6 hK6 => awp_region rfl ?_
  refine i_index w i gn f10_ rfl rfl (by omega) ?_
  refine i_loadI w i gn f11_ rfl (by omega) ?_
  refine o_as (Iv (w.getD i 0)) rfl (aops_end (hK6 _ (awp_seq fun K7 hK7 => awp_region rfl (o_mv (Iv (w.getD i 0)) rfl ?_))))
  refine o_lss (a := (w.getD i 0)) (c := ((0 : Nat) : Int)) gn rfl rfl ?_
  refine o_mv (bp ((w.getD i 0) < ((0 : Nat) : Int))) rfl ?_
  refine o_splitP (q := (w.getD i 0) < ((0 : Nat) : Int)) 15 rfl (fun h2 => ?_) (fun h2 => ?_)
  ·refine o_skip rfl rfl (decide_eq_true h2) (o_skip rfl rfl (decide_eq_true h2) (o_skip rfl rfl (decide_eq_true h2) (o_skip rfl rfl (decide_eq_true h2) ?_)))
   refine o_pickT Tv gn rfl (decide_eq_true h2) rfl ?_
   refine aops_end (hK7 _ ?_)
   refine awp_condB (b := true) rfl (fun _ => ?_) (fun hh => absurd (hh.symm.trans rfl) (by decide))
   refine awp_seq fun K8 hK8 => awp_region rfl (o_as Fv rfl (aops_end (hK8 _ ?_)))
   refine awp_ret ?_
   refine post_ret ⟨[Fv], ⟨AV.le_refl _, trivial⟩, rfl, ?_⟩
   exact (bl_bp (b := false) ⟨fun h => (by cases h), fun h => absurd h (fun hh => absurd (isW_get hh.1 h1).1 (by omega))⟩).symm
  ·refine o_move (Iv (w.getD i 0)) (Gd.yes rfl rfl (decide_eq_false h2)) rfl ?_
   refine o_fieldRef 0 (Gd.yes rfl rfl (decide_eq_false h2)) f62_ rfl rfl ?_
   refine o_loadS (Iv m.mod) (Gd.yes rfl rfl (decide_eq_false h2)) f11_ rfl rfl rfl ?_
   refine o_geq (a := (w.getD i 0)) (c := m.mod) (Gd.yes rfl rfl (decide_eq_false h2)) rfl rfl ?_
   refine o_pickF (bp (m.mod ≤ (w.getD i 0))) gn rfl (decide_eq_false h2) rfl ?_
   refine aops_end (hK7 _ ?_)
   refine awp_condQ (q := m.mod ≤ (w.getD i 0)) rfl (fun h3 => ?_) (fun h3 => ?_)
   ·refine awp_seq fun K9 hK9 => awp_region rfl (o_as Fv rfl (aops_end (hK9 _ ?_)))
    refine awp_ret ?_
    refine post_ret ⟨[Fv], ⟨AV.le_refl _, trivial⟩, rfl, ?_⟩
    exact (bl_bp (b := false) ⟨fun h => (by cases h), fun h => absurd h (fun hh => absurd (isW_get hh.1 h1).2 (by omega))⟩).symm
   ·refine awp_skip (hK5 _ (awp_region rfl ?_))
    refine n_add i 1 gn rfl rfl (by simp only [topOf]; omega) ?_
    refine o_mv (Nv (i + 1)) rfl (aops_end ?_)
    refine ⟨_, _, ?lt, ⟨i + 1, (by omega), (fun k hk => by rcases Nat.lt_or_ge k i with e | e; exact hf k e; rw [show k = i by omega]; omega), rfl, rfl⟩, ?wk⟩
    case lt => omega
    case wk => exact Wk.sub ⟨rfl, rfl, rfl, rfl, (by first | rfl | exact nm_int (by omega)), trivial⟩ ⟨rfl, trivial⟩
 ·refine awp_exit ?_
  refine hK1 _ (awp_seq fun K10 hK10 => awp_region rfl (o_mv (Lv w) rfl ?_))
  refine i_len w gn f2_ rfl ?_
  refine n_leq (w.length) 200 gn rfl rfl ?_
  refine o_as (bp ((w.length) ≤ 200)) rfl (aops_end (hK10 _ ?_))
  refine awp_ret ?_
  refine post_ret ⟨[bp ((w.length) ≤ 200)], ⟨AV.le_refl _, trivial⟩, rfl, ?_⟩
  exact bp_congr ⟨fun h => h.2, fun h => ⟨isW_of fun k hk => hf k (by omega), h⟩⟩

theorem c_oOf (m : MapM) (w : List Int) (hM : OkM m) (hw : IsW m w) (hl : w.length ≤ 200) : ECalls cx 41 [mapV m, Lv w] (linW (lineZ m w)) := by
 refine ecalls_of_awp Tryz.func41 (c := _) rfl (Nat.le_of_ble_eq_true rfl) ?_
 show awp cx 25 _ (postF cx Tryz.f41 _) ⟨[(0, mapV m), (1, Lv w)], []⟩
 have hM2 := hM
 obtain ⟨o1, o2, o3, o4, o5⟩ := hM2
 refine awp_seq fun K0 hK0 => awp_region rfl ?_
 refine o_box 2 [Iv m.mod, Lv m.mul, Lv m.add] gn rfl rfl ?_
 refine o_alloc 3 [Fv, Zv, Fv, Zv, Fv, Zv] gn f80_ rfl rfl rfl ?_
 refine aops_end (hK0 _ (awp_seq fun K1 hK1 => awp_region rfl ?_))
 refine o_ct (c_wOf (1 : Int) (by first | decide | omega) (by first | decide | omega)) gn f46_ rfl ?_
 refine o_ct (c_wOf (0 : Int) (by first | decide | omega) (by first | decide | omega)) gn f46_ rfl ?_
 refine o_ct (c_wOf (1 : Int) (by first | decide | omega) (by first | decide | omega)) gn f46_ rfl ?_
 refine o_build [(bp ((1 : Int) < 0)), (.sl 1 (ns .u32 (digs (1 : Int).natAbs))), (bp ((0 : Int) < 0)), (.sl 1 (ns .u32 (digs (0 : Int).natAbs))), (bp ((1 : Int) < 0)), (.sl 1 (ns .u32 (digs (1 : Int).natAbs)))] [(0, [(bp ((1 : Int) < 0)), (.sl 1 (ns .u32 (digs (1 : Int).natAbs)))]), (1, [(bp ((0 : Int) < 0)), (.sl 1 (ns .u32 (digs (0 : Int).natAbs)))]), (2, [(bp ((1 : Int) < 0)), (.sl 1 (ns .u32 (digs (1 : Int).natAbs)))])] gn f81_ f80_ rfl rfl rfl ?_
 refine o_alloc 4 [Fv, Zv, Fv, Zv, Fv, Zv] gn f80_ rfl rfl rfl ?_
 refine o_store [(4, (.var 88 [(bp ((1 : Int) < 0)), (.sl 1 (ns .u32 (digs (1 : Int).natAbs))), (bp ((0 : Int) < 0)), (.sl 1 (ns .u32 (digs (0 : Int).natAbs))), (bp ((1 : Int) < 0)), (.sl 1 (ns .u32 (digs (1 : Int).natAbs)))])), (3, .var 88 [Fv, Zv, Fv, Zv, Fv, Zv]), (2, oM 28 m)] gn f82_ rfl rfl rfl rfl rfl rfl ?_
 refine aops_end (hK1 _ (awp_seq fun K2 hK2 => awp_region rfl ?_))
 refine o_makeFunc [.ref 2 0, .ref 4 0] gn rfl ?_
 refine o_as (.clo 68 [.ref 2 0, .ref 4 0]) rfl (aops_end (hK2 _ (awp_seq fun K3 hK3 => awp_seq fun K4 hK4 => awp_region rfl (o_mv (Lv w) rfl ?_))))
 refine i_len w gn f2_ rfl ?_
 refine o_mv (Nv 0) rfl (aops_end (hK4 _ ?_))
 refine awp_block ?_
 refine awp_loopR (fun κ σ => ∃ (i : Nat), ∃ (l : LinZ), (i ≤ w.length) ∧ (l = lineZ m (w.take i)) ∧ (w.length - i) = κ ∧ σ = ⟨[(2, .ref 2 0), (4, .ref 3 0), (5, .ref 4 0), (6, .clo 68 [.ref 2 0, .ref 4 0]), (14, Lv w), (15, Nv (w.length)), (16, Nv i)], [(2, oM 28 m), (3, .var 88 [Fv, Zv, Fv, Zv, Fv, Zv]), (4, .var 88 [Bv (l.mul), Dv (l.mul), Bv (l.add), Dv (l.add), Bv (l.div), Dv (l.div)])]⟩) ⟨_, _, ⟨0, oneZ, (by omega), rfl, rfl, rfl⟩, ?wk0⟩ ?rd0
 case wk0 =>
  exact Wk.sub ⟨rfl, rfl, rfl, rfl, rfl, rfl, (by first | rfl | exact nm_int (by omega)), trivial⟩ ⟨rfl, rfl, rfl, trivial⟩
 rintro κ _ ⟨i, l, hi, hl2, rfl, rfl⟩
 refine awp_seq fun K5 hK5 => awp_region rfl ?_
 refine n_lss i (w.length) gn rfl rfl ?_
 refine aops_end (hK5 _ (awp_seq fun K6 hK6 => ?_))
 refine awp_condQ (q := i < (w.length)) rfl (fun h1 => ?_) (fun h1 => ?_)
 ·have hwi := isW_get hw h1
  refine awp_skip (hK6 _ (awp_seq fun K7 hK7 => ?_))
  refine awp_block ?_
  refine awp_seq fun K8 hK8 => awp_region rfl ?_
  refine i_index w i gn f10_ rfl rfl (by omega) ?_
  refine i_loadI w i gn f11_ rfl (by omega) ?_
  refine n_as (v' := (Nv ((w.getD i 0).toNat))) (nm_int (by omega)) ?_
  refine o_as (Nv ((w.getD i 0).toNat)) rfl (aops_end (hK8 _ ?_))
  refine awp_wk (σ' := ⟨[(2, .ref 2 0), (4, .ref 3 0), (5, .ref 4 0), (6, .clo 68 [.ref 2 0, .ref 4 0]), (14, Lv w), (15, Nv (w.length)), (16, Nv i), (17, bp (i < (w.length))), (18, .ip ((is .i64 w).drop i)), (19, Nv ((w.getD i 0).toNat)), (8, Nv ((w.getD i 0).toNat))], [(2, oM 28 m), (3, .var 88 [Fv, Zv, Fv, Zv, Fv, Zv]), (4, .var 88 [Bv (l.mul), Dv (l.mul), Bv (l.add), Dv (l.add), Bv (l.div), Dv (l.div)])]⟩) (Wk.sub ⟨rfl, rfl, rfl, rfl, rfl, rfl, rfl, rfl, rfl, rfl, rfl, trivial⟩ ⟨rfl, rfl, rfl, trivial⟩) ?_
  refine awp_regionSK 2 22 _ 68 [.ref 2 0, .ref 4 0] _ _ _ _ _ [Nv ((w.getD i 0).toNat), .ref 2 0, .ref 4 0] (linW (thenZ m l (w.getD i 0))) [(2, oM 28 m), (3, .var 88 [Fv, Zv, Fv, Zv, Fv, Zv]), (4, .var 88 [Bv (l.mul), Dv (l.mul), Bv (l.add), Dv (l.add), Bv (l.div), Dv (l.div)])] rfl rfl f83_ ?_
  refine o_mv (.clo 68 [.ref 2 0, .ref 4 0]) rfl (o_mv (Nv ((w.getD i 0).toNat)) rfl ?_)
  refine aops_end ⟨rfl, rfl, ?sc1, ?_⟩
  case sc1 =>
   refine scalls_of_awpB 9010 Tryz.func68 (c := _) rfl (Nat.le_of_ble_eq_true rfl) rfl rfl rfl (fun us1 => ?_)
   show awp cx 37 _ (postS cx Tryz.f68 (linW (thenZ m l (w.getD i 0))) [(2, oM 28 m), (3, .var 88 [Fv, Zv, Fv, Zv, Fv, Zv]), (4, .var 88 [Bv (l.mul), Dv (l.mul), Bv (l.add), Dv (l.add), Bv (l.div), Dv (l.div)])] 9010 [Nv ((w.getD i 0).toNat), .clo 68 [.ref 2 0, .ref 4 0], .ref 2 0, .ref 3 0, .ref 4 0, .clo 68 [.ref 2 0, .ref 4 0], Lv w, Nv (w.length), Nv i, bp (i < (w.length)), .ip ((is .i64 w).drop i), Nv ((w.getD i 0).toNat), Nv ((w.getD i 0).toNat)] us1) ⟨[(0, Nv ((w.getD i 0).toNat)), (1, .ref 2 0), (2, .ref 4 0)], [(9010, .pin [Nv ((w.getD i 0).toNat), .clo 68 [.ref 2 0, .ref 4 0], .ref 2 0, .ref 3 0, .ref 4 0, .clo 68 [.ref 2 0, .ref 4 0], Lv w, Nv (w.length), Nv i, bp (i < (w.length)), .ip ((is .i64 w).drop i), Nv ((w.getD i 0).toNat), Nv ((w.getD i 0).toNat)] us1), (2, oM 28 m), (3, .var 88 [Fv, Zv, Fv, Zv, Fv, Zv]), (4, .var 88 [Bv (l.mul), Dv (l.mul), Bv (l.add), Dv (l.add), Bv (l.div), Dv (l.div)])]⟩
   have hor := o5 ((w.getD i 0).toNat) (by omega)
   obtain ⟨L1, L2, L3⟩ := line_len hM (w.take i) (isW_take hw i)
   have L4 : (w.take i).length ≤ 200 := by rw [List.length_take]; omega
   rw [← hl2] at L1 L2 L3
   have hq1 := small_len (z := ((m.mul).getD ((w.getD i 0).toNat) 0)) (by omega)
   have ha1 := small_len (z := ((m.add).getD ((w.getD i 0).toNat) 0)) (by omega)
   have hd1 := small_len (z := m.mod) (by omega)
   have hm1 := len_mulZ l.mul ((m.mul).getD ((w.getD i 0).toNat) 0)
   have hm2 := len_mulZ l.add ((m.mul).getD ((w.getD i 0).toNat) 0)
   have hm3 := len_mulZ l.div ((m.add).getD ((w.getD i 0).toNat) 0)
   refine awp_seq fun K9 hK9 => awp_region rfl ?_
   refine o_alloc 101 [Fv, Zv, Fv, Zv, Fv, Zv] gn f80_ rfl rfl rfl ?_
   refine aops_end (hK9 _ (awp_seq fun K10 hK10 => awp_region rfl ?_))
   refine o_fieldRef 1 gn f66_ rfl rfl ?_
   refine o_loadS (Lv m.mul) gn f1_ rfl rfl rfl ?_
   refine o_mv (Nv ((w.getD i 0).toNat)) rfl ?_
   refine i_index m.mul ((w.getD i 0).toNat) gn f10_ rfl rfl (by omega) ?_
   refine i_loadI m.mul ((w.getD i 0).toNat) gn f11_ rfl (by omega) ?_
   refine o_ct (c_wOf ((m.mul).getD ((w.getD i 0).toNat) 0) (by first | decide | omega) (by first | decide | omega)) gn f46_ rfl ?_
   refine o_alloc 102 [Fv, Zv] gn f15_ rfl rfl rfl ?_
   refine o_store [(102, oZ 51 .u32 ((m.mul).getD ((w.getD i 0).toNat) 0)), (101, .var 88 [Fv, Zv, Fv, Zv, Fv, Zv]), (9010, .pin [Nv ((w.getD i 0).toNat), .clo 68 [.ref 2 0, .ref 4 0], .ref 2 0, .ref 3 0, .ref 4 0, .clo 68 [.ref 2 0, .ref 4 0], Lv w, Nv (w.length), Nv i, bp (i < (w.length)), .ip ((is .i64 w).drop i), Nv ((w.getD i 0).toNat), Nv ((w.getD i 0).toNat)] us1), (2, oM 28 m), (3, .var 88 [Fv, Zv, Fv, Zv, Fv, Zv]), (4, .var 88 [Bv (l.mul), Dv (l.mul), Bv (l.add), Dv (l.add), Bv (l.div), Dv (l.div)])] gn f19_ rfl rfl rfl rfl rfl rfl ?_
   refine aops_end (hK10 _ (awp_seq fun K11 hK11 => awp_regionD rfl ?_))
   refine o_fieldRef 0 gn f84_ rfl rfl ?_
   refine o_loadA [Bv (l.mul), Dv (l.mul)] gn f20_ rfl rfl rfl rfl rfl ?_
   refine o_loadA [bp ((m.mul).getD ((w.getD i 0).toNat) 0 < 0), .sl 1 (ns .u32 (digs ((m.mul).getD ((w.getD i 0).toNat) 0).natAbs))] gn f20_ rfl rfl rfl rfl rfl ?_
   refine o_ct (c_wMul (l.mul) ((m.mul).getD ((w.getD i 0).toNat) 0) (by first | omega | assumption | (simp only [Int.natAbs_neg]; omega)) (by first | omega | assumption | (simp only [Int.natAbs_neg]; omega))) gn f70_ rfl ?_
   refine o_fieldRef 2 gn f85_ rfl rfl ?_
   refine o_loadA [Bv (l.add), Dv (l.add)] gn f20_ rfl rfl rfl rfl rfl ?_
   refine o_loadA [bp ((m.mul).getD ((w.getD i 0).toNat) 0 < 0), .sl 1 (ns .u32 (digs ((m.mul).getD ((w.getD i 0).toNat) 0).natAbs))] gn f20_ rfl rfl rfl rfl rfl ?_
   refine o_ct (c_wMul (l.add) ((m.mul).getD ((w.getD i 0).toNat) 0) (by first | omega | assumption | (simp only [Int.natAbs_neg]; omega)) (by first | omega | assumption | (simp only [Int.natAbs_neg]; omega))) gn f70_ rfl ?_
   refine o_fieldRef 4 gn f86_ rfl rfl ?_
   refine o_loadA [Bv (l.div), Dv (l.div)] gn f20_ rfl rfl rfl rfl rfl ?_
   refine o_fieldRef 2 gn f68_ rfl rfl ?_
   refine o_loadS (Lv m.add) gn f1_ rfl rfl rfl ?_
   refine o_mv (Nv ((w.getD i 0).toNat)) rfl ?_
   refine i_index m.add ((w.getD i 0).toNat) gn f10_ rfl rfl (by omega) ?_
   refine i_loadI m.add ((w.getD i 0).toNat) gn f11_ rfl (by omega) ?_
   refine o_ct (c_wOf ((m.add).getD ((w.getD i 0).toNat) 0) (by first | decide | omega) (by first | decide | omega)) gn f46_ rfl ?_
   refine o_ct (c_wMul (l.div) ((m.add).getD ((w.getD i 0).toNat) 0) (by first | omega | assumption | (simp only [Int.natAbs_neg]; omega)) (by first | omega | assumption | (simp only [Int.natAbs_neg]; omega))) gn f70_ rfl ?_
   refine o_ct (c_wAdd ((l.add) * (m.mul).getD ((w.getD i 0).toNat) 0) ((l.div) * (m.add).getD ((w.getD i 0).toNat) 0) (by first | omega | assumption | (simp only [Int.natAbs_neg]; omega)) (by first | omega | assumption | (simp only [Int.natAbs_neg]; omega))) gn f38_ rfl ?_
   refine o_fieldRef 4 gn f86_ rfl rfl ?_
   refine o_loadA [Bv (l.div), Dv (l.div)] gn f20_ rfl rfl rfl rfl rfl ?_
   refine o_fieldRef 0 gn f62_ rfl rfl ?_
   refine o_loadS (Iv m.mod) gn f11_ rfl rfl rfl ?_
   refine o_ct (c_wOf m.mod (by first | decide | omega) (by first | decide | omega)) gn f46_ rfl ?_
   refine o_ct (c_wMul (l.div) m.mod (by first | omega | assumption | (simp only [Int.natAbs_neg]; omega)) (by first | omega | assumption | (simp only [Int.natAbs_neg]; omega))) gn f70_ rfl ?_
   refine o_build [bp (((l.mul) * (m.mul).getD ((w.getD i 0).toNat) 0) < 0), .sl 1 (ns .u32 (digs ((l.mul) * (m.mul).getD ((w.getD i 0).toNat) 0).natAbs)), bp ((((l.add) * (m.mul).getD ((w.getD i 0).toNat) 0) + ((l.div) * (m.add).getD ((w.getD i 0).toNat) 0)) < 0), .sl 1 (ns .u32 (digs (((l.add) * (m.mul).getD ((w.getD i 0).toNat) 0) + ((l.div) * (m.add).getD ((w.getD i 0).toNat) 0)).natAbs)), bp (((l.div) * m.mod) < 0), .sl 1 (ns .u32 (digs ((l.div) * m.mod).natAbs))] [(0, [bp (((l.mul) * (m.mul).getD ((w.getD i 0).toNat) 0) < 0), .sl 1 (ns .u32 (digs ((l.mul) * (m.mul).getD ((w.getD i 0).toNat) 0).natAbs))]), (1, [bp ((((l.add) * (m.mul).getD ((w.getD i 0).toNat) 0) + ((l.div) * (m.add).getD ((w.getD i 0).toNat) 0)) < 0), .sl 1 (ns .u32 (digs (((l.add) * (m.mul).getD ((w.getD i 0).toNat) 0) + ((l.div) * (m.add).getD ((w.getD i 0).toNat) 0)).natAbs))]), (2, [bp (((l.div) * m.mod) < 0), .sl 1 (ns .u32 (digs ((l.div) * m.mod).natAbs))])] gn f81_ f80_ rfl rfl rfl ?_
   refine o_store [(102, oZ 51 .u32 ((m.mul).getD ((w.getD i 0).toNat) 0)), (101, .var 88 [bp (((l.mul) * (m.mul).getD ((w.getD i 0).toNat) 0) < 0), .sl 1 (ns .u32 (digs ((l.mul) * (m.mul).getD ((w.getD i 0).toNat) 0).natAbs)), bp ((((l.add) * (m.mul).getD ((w.getD i 0).toNat) 0) + ((l.div) * (m.add).getD ((w.getD i 0).toNat) 0)) < 0), .sl 1 (ns .u32 (digs (((l.add) * (m.mul).getD ((w.getD i 0).toNat) 0) + ((l.div) * (m.add).getD ((w.getD i 0).toNat) 0)).natAbs)), bp (((l.div) * m.mod) < 0), .sl 1 (ns .u32 (digs ((l.div) * m.mod).natAbs))]), (9010, .pin [Nv ((w.getD i 0).toNat), .clo 68 [.ref 2 0, .ref 4 0], .ref 2 0, .ref 3 0, .ref 4 0, .clo 68 [.ref 2 0, .ref 4 0], Lv w, Nv (w.length), Nv i, bp (i < (w.length)), .ip ((is .i64 w).drop i), Nv ((w.getD i 0).toNat), Nv ((w.getD i 0).toNat)] us1), (2, oM 28 m), (3, .var 88 [Fv, Zv, Fv, Zv, Fv, Zv]), (4, .var 88 [Bv (l.mul), Dv (l.mul), Bv (l.add), Dv (l.add), Bv (l.div), Dv (l.div)])] gn f82_ rfl rfl rfl rfl rfl rfl ?_
   refine aops_end ⟨by kernel_rfl, ?_⟩
   refine hK11 _ ?_
   refine awp_wk (σ' := ⟨[(4, .ref 101 0)], [(9010, .pin [Nv ((w.getD i 0).toNat), .clo 68 [.ref 2 0, .ref 4 0], .ref 2 0, .ref 3 0, .ref 4 0, .clo 68 [.ref 2 0, .ref 4 0], Lv w, Nv (w.length), Nv i, bp (i < (w.length)), .ip ((is .i64 w).drop i), Nv ((w.getD i 0).toNat), Nv ((w.getD i 0).toNat)] us1), (2, oM 28 m), (3, .var 88 [Fv, Zv, Fv, Zv, Fv, Zv]), (4, .var 88 [Bv (l.mul), Dv (l.mul), Bv (l.add), Dv (l.add), Bv (l.div), Dv (l.div)]), (101, .var 88 [bp (((l.mul) * (m.mul).getD ((w.getD i 0).toNat) 0) < 0), .sl 1 (ns .u32 (digs ((l.mul) * (m.mul).getD ((w.getD i 0).toNat) 0).natAbs)), bp ((((l.add) * (m.mul).getD ((w.getD i 0).toNat) 0) + ((l.div) * (m.add).getD ((w.getD i 0).toNat) 0)) < 0), .sl 1 (ns .u32 (digs (((l.add) * (m.mul).getD ((w.getD i 0).toNat) 0) + ((l.div) * (m.add).getD ((w.getD i 0).toNat) 0)).natAbs)), bp (((l.div) * m.mod) < 0), .sl 1 (ns .u32 (digs ((l.div) * m.mod).natAbs))])]⟩) (Wk.sub ⟨rfl, trivial⟩ ⟨rfl, rfl, rfl, rfl, rfl, trivial⟩) ?_
   refine awp_ret ?_
   try dsimp only [thenK, inBlk]
   refine postS_ret (extra := [(101, .var 88 [bp (((l.mul) * (m.mul).getD ((w.getD i 0).toNat) 0) < 0), .sl 1 (ns .u32 (digs ((l.mul) * (m.mul).getD ((w.getD i 0).toNat) 0).natAbs)), bp ((((l.add) * (m.mul).getD ((w.getD i 0).toNat) 0) + ((l.div) * (m.add).getD ((w.getD i 0).toNat) 0)) < 0), .sl 1 (ns .u32 (digs (((l.add) * (m.mul).getD ((w.getD i 0).toNat) 0) + ((l.div) * (m.add).getD ((w.getD i 0).toNat) 0)).natAbs)), bp (((l.div) * m.mod) < 0), .sl 1 (ns .u32 (digs ((l.div) * m.mod).natAbs))])]) ?_ rfl
   refine ⟨[.agg [bp (((l.mul) * (m.mul).getD ((w.getD i 0).toNat) 0) < 0), .sl 1 (ns .u32 (digs ((l.mul) * (m.mul).getD ((w.getD i 0).toNat) 0).natAbs)), bp ((((l.add) * (m.mul).getD ((w.getD i 0).toNat) 0) + ((l.div) * (m.add).getD ((w.getD i 0).toNat) 0)) < 0), .sl 1 (ns .u32 (digs (((l.add) * (m.mul).getD ((w.getD i 0).toNat) 0) + ((l.div) * (m.add).getD ((w.getD i 0).toNat) 0)).natAbs)), bp (((l.div) * m.mod) < 0), .sl 1 (ns .u32 (digs ((l.div) * m.mod).natAbs))]], ⟨⟨101, .var 88 [bp (((l.mul) * (m.mul).getD ((w.getD i 0).toNat) 0) < 0), .sl 1 (ns .u32 (digs ((l.mul) * (m.mul).getD ((w.getD i 0).toNat) 0).natAbs)), bp ((((l.add) * (m.mul).getD ((w.getD i 0).toNat) 0) + ((l.div) * (m.add).getD ((w.getD i 0).toNat) 0)) < 0), .sl 1 (ns .u32 (digs (((l.add) * (m.mul).getD ((w.getD i 0).toNat) 0) + ((l.div) * (m.add).getD ((w.getD i 0).toNat) 0)).natAbs)), bp (((l.div) * m.mod) < 0), .sl 1 (ns .u32 (digs ((l.div) * m.mod).natAbs))], rfl, rfl, rfl, Or.inl ⟨f87_, AV.le_refl _⟩⟩, trivial⟩, ?_⟩
   exact linK_eq (Int.mul_comm _ _) (congr (congrArg HAdd.hAdd (Int.mul_comm _ _)) (Int.mul_comm _ _)) rfl
  refine o_store [(2, oM 28 m), (3, .var 88 [Fv, Zv, Fv, Zv, Fv, Zv]), (4, .var 88 [Bv ((thenZ m l (w.getD i 0)).mul), Dv ((thenZ m l (w.getD i 0)).mul), Bv ((thenZ m l (w.getD i 0)).add), Dv ((thenZ m l (w.getD i 0)).add), Bv ((thenZ m l (w.getD i 0)).div), Dv ((thenZ m l (w.getD i 0)).div)])] gn f82_ rfl rfl rfl rfl rfl rfl ?_
  refine aops_end (hK7 _ (awp_region rfl ?_))
  refine n_add i 1 gn rfl rfl (by simp only [topOf]; omega) ?_
  refine o_mv (Nv (i + 1)) rfl (aops_end ?_)
  refine ⟨_, _, ?lt, ⟨i + 1, thenZ m l (w.getD i 0), (by omega), (by rw [hl2]; exact lineZ_next h1), rfl, rfl⟩, ?wk⟩
  case lt => omega
  case wk => exact Wk.sub ⟨rfl, rfl, rfl, rfl, rfl, rfl, (by first | rfl | exact nm_int (by omega)), trivial⟩ ⟨rfl, rfl, rfl, trivial⟩
 ·refine awp_exit ?_
  refine hK3 _ (awp_seq fun K12 hK12 => awp_region rfl ?_)
  refine o_loadA [Bv (l.mul), Dv (l.mul), Bv (l.add), Dv (l.add), Bv (l.div), Dv (l.div)] gn f87_ rfl rfl rfl rfl rfl ?_
  refine o_store [(2, oM 28 m), (3, .var 88 [Bv (l.mul), Dv (l.mul), Bv (l.add), Dv (l.add), Bv (l.div), Dv (l.div)]), (4, .var 88 [Bv (l.mul), Dv (l.mul), Bv (l.add), Dv (l.add), Bv (l.div), Dv (l.div)])] gn f82_ rfl rfl rfl rfl rfl rfl ?_
  refine aops_end (hK12 _ ?_)
  refine awp_ret ?_
  refine post_ret ⟨[.agg [Bv (l.mul), Dv (l.mul), Bv (l.add), Dv (l.add), Bv (l.div), Dv (l.div)]], ⟨⟨3, .var 88 [Bv (l.mul), Dv (l.mul), Bv (l.add), Dv (l.add), Bv (l.div), Dv (l.div)], rfl, rfl, rfl, Or.inl ⟨f87_, AV.le_refl _⟩⟩, trivial⟩, rfl, ?_⟩
  exact congrArg linW (by rw [hl2, List.take_of_length_le (by omega)])

end Go.Proofs.YtaeknciienkijaaGreatDoor

namespace Go.Mth
open Go.Ab
theorem fit_of_pow' {z : Int} {k : Nat} (h : z.natAbs < 10 ^ k) (hk : k ≤ 2000) (h1 : 1 ≤ k) : Fit z := fit_of_pow h hk h1
theorem line_abs {m : MapM} (hm : OkM m) : ∀ w : List Int, IsW m w → (lineZ m w).mul.natAbs < 10 ^ (3 * w.length + 1) ∧ (lineZ m w).add.natAbs < 10 ^ (3 * w.length + 7) ∧ (lineZ m w).div.natAbs < 10 ^ (3 * w.length + 1) := by
 refine snoc_ind (P := fun w => IsW m w → (lineZ m w).mul.natAbs < 10 ^ (3 * w.length + 1) ∧ (lineZ m w).add.natAbs < 10 ^ (3 * w.length + 7) ∧ (lineZ m w).div.natAbs < 10 ^ (3 * w.length + 1)) (fun _ => ⟨show (1 : Int).natAbs < 10 ^ (3 * 0 + 1) by decide, show (0 : Int).natAbs < 10 ^ (3 * 0 + 7) by decide, show (1 : Int).natAbs < 10 ^ (3 * 0 + 1) by decide⟩) fun w r ih hw => ?_
 obtain ⟨i1, i2, i3⟩ := ih fun x hx => hw x (by simp [hx])
 obtain ⟨o1, o2, o3, o4, o5⟩ := hm
 obtain ⟨hr0, hr1⟩ := hw r (by simp)
 obtain ⟨r1, r2, r3, r4, _⟩ := o5 r.toNat (by omega)
 have e1 : (mulM m r).natAbs ≤ 999 := by unfold mulM; omega
 have e2 : (addM m r).natAbs ≤ 999999 := by unfold addM; omega
 have e3 : m.mod.natAbs ≤ 12 := by omega
 rw [lineZ_snoc, List.length_append, List.length_singleton]
 have p1 : (10 : Nat) ^ (3 * (w.length + 1) + 1) = 1000 * 10 ^ (3 * w.length + 1) := by rw [show 3 * (w.length + 1) + 1 = 3 * w.length + 1 + 3 by omega, Nat.pow_add, Nat.mul_comm]
 have p2 : (10 : Nat) ^ (3 * (w.length + 1) + 7) = 1000 * 10 ^ (3 * w.length + 7) := by rw [show 3 * (w.length + 1) + 7 = 3 * w.length + 7 + 3 by omega, Nat.pow_add, Nat.mul_comm]
 have p3 : (10 : Nat) ^ (3 * w.length + 7) = 1000000 * 10 ^ (3 * w.length + 1) := by rw [show 3 * w.length + 7 = 3 * w.length + 1 + 6 by omega, Nat.pow_add, Nat.mul_comm]
 refine ⟨?_, ?_, ?_⟩
 ·show (mulM m r * (lineZ m w).mul).natAbs < _
  rw [Int.natAbs_mul, p1]
  have := Nat.mul_le_mul e1 (Nat.le_of_lt i1)
  have : 0 < (10 : Nat) ^ (3 * w.length + 1) := Nat.pow_pos (by decide)
  omega
 ·show (mulM m r * (lineZ m w).add + addM m r * (lineZ m w).div).natAbs < _
  have a1 := Int.natAbs_add_le (mulM m r * (lineZ m w).add) (addM m r * (lineZ m w).div)
  rw [Int.natAbs_mul, Int.natAbs_mul] at a1
  have a2 := Nat.mul_le_mul e1 (Nat.le_of_lt i2)
  have a3 := Nat.mul_le_mul e2 (Nat.le_of_lt i3)
  have : 0 < (10 : Nat) ^ (3 * w.length + 1) := Nat.pow_pos (by decide)
  rw [p2]
  omega
 ·show ((lineZ m w).div * m.mod).natAbs < _
  rw [Int.natAbs_mul, p1]
  have := Nat.mul_le_mul (Nat.le_of_lt i3) e3
  have : 0 < (10 : Nat) ^ (3 * w.length + 1) := Nat.pow_pos (by decide)
  omega
theorem wordZ_is {m : MapM} (hm : OkM m) (z : Int) : ∀ k, IsW m (wordZ m z k)
 | 0 => fun r hr => by simp [wordZ] at hr
 | k + 1 => fun r hr => by
  rw [wordZ, List.mem_append, List.mem_singleton] at hr
  rcases hr with hr | rfl
  ·exact wordZ_is hm z k r hr
  ·have := hm.1
   exact ⟨Int.emod_nonneg _ (by omega), Int.emod_lt_of_pos _ (by omega)⟩
theorem len_subZ (a b : Int) : (digs (a - b).natAbs).length ≤ max (digs a.natAbs).length (digs b.natAbs).length + 1 := by
 have := len_addZ a (-b)
 rwa [Int.natAbs_neg, ← Int.sub_eq_add_neg] at this
end Go.Mth

namespace Go.Mth
open Go.Ab
theorem getD_mem {α : Type} {l : List α} {i : Nat} {d : α} (h : i < l.length) : l.getD i d ∈ l := by
 rw [List.getD_eq_getElem?_getD, List.getElem?_eq_getElem h]
 exact List.getElem_mem h
noncomputable def shortB (a : ByteArray) : Bool := decide (a.size ≤ 601) && okS a
def ShortS (l : List ByteArray) : Prop := ∀ k, k < l.length → shortB (l.getD k { data := #[] }) = true
noncomputable instance (l : List ByteArray) : Decidable (ShortS l) := Classical.propDecidable _
theorem list_extZ {x y : List Int} (hl : x.length = y.length) (h : ∀ k, k < x.length → x.getD k 0 = y.getD k 0) : x = y := by
 refine List.ext_getElem hl fun k h1 h2 => ?_
 have := h k h1
 rw [List.getD_eq_getElem?_getD, List.getD_eq_getElem?_getD, List.getElem?_eq_getElem h1, List.getElem?_eq_getElem h2] at this
 exact this
def propN (m : MapM) (w : List Int) : Nat → List Int
 | 0 => []
 | i + 1 => propN m w i ++ [w.getD i 0 % m.mod]
def propW (m : MapM) (w : List Int) : List Int := propN m w (min w.length 40)
theorem step_len' {m : MapM} (hm : OkM m) (z : Int) : (digs (stepZ m z).natAbs).length ≤ (digs z.natAbs).length + 4 := by
 have := step_len (z := z) (k := (digs z.natAbs).length + 1) hm (by omega) (by omega)
 omega
end Go.Mth

namespace Go.Mth
open Go.Ab
theorem step_abs {m : MapM} (hm : OkM m) {z : Int} {e : Nat} (he : 6 ≤ e) (h : z.natAbs < 10 ^ e) : (stepZ m z).natAbs < 10 ^ (e + 3) := by
 have hs := getD_toNat hm z
 obtain ⟨o1, o2, o3, o4, o5⟩ := hm
 have hr0 := Int.emod_nonneg z (show m.mod ≠ 0 by omega)
 have hr1 := Int.emod_lt_of_pos z (show 0 < m.mod by omega)
 obtain ⟨r1, r2, r3, r4, _⟩ := o5 (z % m.mod).toNat (by omega)
 have e1 : (mulM m (z % m.mod)).natAbs ≤ 999 := by unfold mulM; omega
 have e2 : (addM m (z % m.mod)).natAbs ≤ 999999 := by unfold addM; omega
 have a1 := Int.natAbs_add_le (mulM m (z % m.mod) * z) (addM m (z % m.mod))
 rw [Int.natAbs_mul] at a1
 have a2 := Nat.mul_le_mul e1 (Nat.le_of_lt h)
 have a3 : (stepZ m z).natAbs ≤ (stepZ m z * m.mod).natAbs := by rw [Int.natAbs_mul]; exact Nat.le_mul_of_pos_right _ (by omega)
 rw [hs] at a3
 have p1 : (10 : Nat) ^ (e + 3) = 1000 * 10 ^ e := by rw [Nat.pow_add, Nat.mul_comm]
 have p2 : (10 : Nat) ^ 6 ≤ 10 ^ e := Nat.pow_le_pow_right (by decide) he
 have p3 : (10 : Nat) ^ 6 = 1000000 := by decide
 rw [p1]
 omega
theorem iter_abs {m : MapM} (hm : OkM m) {z : Int} {e : Nat} (he : 6 ≤ e) (h : z.natAbs < 10 ^ e) : ∀ j, (iterZ m j z).natAbs < 10 ^ (e + 3 * j)
 | 0 => h
 | j + 1 => by
  have := step_abs hm (e := e + 3 * j) (by omega) (iter_abs hm he h j)
  rw [iterZ, show e + 3 * (j + 1) = e + 3 * j + 3 by omega]
  exact this
theorem wordZ_get (m : MapM) (z : Int) : ∀ k i, i < k → (wordZ m z k).getD i 0 = iterZ m i z % m.mod
 | 0, i, h => by omega
 | k + 1, i, h => by
  rw [wordZ]
  rcases Nat.lt_or_ge i k with e | e
  ·have := wordZ_get m z k i e
   rw [List.getD_eq_getElem?_getD] at this ⊢
   rw [List.getElem?_append_left (by rw [wordZ_len]; exact e)]
   exact this
  ·have : i = k := by omega
   subst this
   rw [List.getD_eq_getElem?_getD, List.getElem?_append_right (by rw [wordZ_len]; exact Nat.le_refl _), wordZ_len, Nat.sub_self]
   rfl
theorem add_lt_pow {x y : Int} {p : Nat} (hx : x.natAbs < 10 ^ p) (hy : y.natAbs < 10 ^ p) : (x + y).natAbs < 10 ^ (p + 1) := by
 have h := Int.natAbs_add_le x y
 rw [Nat.pow_succ]
 omega
end Go.Mth

namespace Go.Mth
open Go.Ab
structure FrZ where
 num : Int
 den : Int
def RedF (f : FrZ) : Prop := 0 < f.den ∧ Int.gcd f.num f.den = 1
def redP (n d : Int) : FrZ := ⟨n / ((Int.gcd n d : Nat) : Int), d / ((Int.gcd n d : Nat) : Int)⟩
def redZ (n d : Int) : FrZ := if d < 0 then redP (-n) (-d) else redP n d
theorem frz_ext {f g : FrZ} (h1 : f.num = g.num) (h2 : f.den = g.den) : f = g := by cases f; cases g; simp_all
theorem redP_ok {n d : Int} (hd : 0 < d) : RedF (redP n d) ∧ (redP n d).num * d = n * (redP n d).den ∧ (redP n d).den ∣ d ∧ (redP n d).num ∣ n := by
 have hg : 0 < Int.gcd n d := Int.gcd_pos_of_ne_zero_right n (by omega)
 obtain ⟨a, ha⟩ := Int.gcd_dvd_left n d
 obtain ⟨b, hb⟩ := Int.gcd_dvd_right n d
 obtain ⟨g, hgg⟩ : ∃ g : Int, g = ((Int.gcd n d : Nat) : Int) := ⟨_, rfl⟩
 have hg0 : g ≠ 0 := by omega
 have h1 : n / ((Int.gcd n d : Nat) : Int) = a := by rw [← hgg] at ha ⊢; rw [ha, Int.mul_ediv_cancel_left _ hg0]
 have h2 : d / ((Int.gcd n d : Nat) : Int) = b := by rw [← hgg] at hb ⊢; rw [hb, Int.mul_ediv_cancel_left _ hg0]
 have h3 := Int.gcd_ediv_gcd_ediv_gcd (i := n) (j := d) hg
 rw [← hgg] at ha hb
 refine ⟨⟨?_, ?_⟩, ?_, ?_, ?_⟩
 ·show 0 < d / ((Int.gcd n d : Nat) : Int)
  rw [h2]
  rw [hb, Int.mul_comm] at hd
  exact Int.pos_of_mul_pos_left hd (by omega)
 ·exact h3
 ·show n / ((Int.gcd n d : Nat) : Int) * d = n * (d / ((Int.gcd n d : Nat) : Int))
  rw [h1, h2]; grind
 ·show d / ((Int.gcd n d : Nat) : Int) ∣ d
  rw [h2]; exact ⟨g, by grind⟩
 ·show n / ((Int.gcd n d : Nat) : Int) ∣ n
  rw [h1]; exact ⟨g, by grind⟩
theorem redZ_ok {n d : Int} (hd : d ≠ 0) : RedF (redZ n d) ∧ (redZ n d).num * d = n * (redZ n d).den ∧ (redZ n d).den ∣ d ∧ (redZ n d).num ∣ n := by
 unfold redZ
 split
 ·obtain ⟨h1, h2, h3, h4⟩ := redP_ok (n := -n) (d := -d) (by omega)
  exact ⟨h1, by grind, (Int.dvd_neg).1 h3, (Int.dvd_neg).1 h4⟩
 ·exact redP_ok (by omega)
theorem dvd_cop {a b c : Int} (h : a ∣ b * c) (hc : Int.gcd a b = 1) : a ∣ c := by
 have h1 := Int.natAbs_dvd_natAbs.2 h
 rw [Int.natAbs_mul] at h1
 exact Int.natAbs_dvd_natAbs.1 (Nat.Coprime.dvd_of_dvd_mul_left hc h1)
theorem red_uniq {f g : FrZ} (hf : RedF f) (hg : RedF g) (h : f.num * g.den = g.num * f.den) : f = g := by
 have h1 : f.den ∣ g.den := dvd_cop (b := f.num) ⟨g.num, by rw [h, Int.mul_comm]⟩ (by rw [Int.gcd_comm]; exact hf.2)
 have h2 : g.den ∣ f.den := dvd_cop (b := g.num) ⟨f.num, by rw [← h, Int.mul_comm]⟩ (by rw [Int.gcd_comm]; exact hg.2)
 have h3 := Int.dvd_antisymm (by have := hf.1; omega) (by have := hg.1; omega) h1 h2
 have h4 := hf.1
 rw [h3] at h
 exact frz_ext (Int.eq_of_mul_eq_mul_right (by have := hg.1; omega) h) h3
theorem red_is {n d : Int} (hd : d ≠ 0) {f : FrZ} (hf : RedF f) (h : f.num * d = n * f.den) : redZ n d = f := by
 obtain ⟨h1, h2, h3, h4⟩ := redZ_ok (n := n) hd
 refine red_uniq h1 hf (Int.eq_of_mul_eq_mul_right hd ?_)
 grind
theorem abs_of_dvd {a b : Int} (h : a ∣ b) (hb : b ≠ 0) : a.natAbs ≤ b.natAbs := Nat.le_of_dvd (by omega) (Int.natAbs_dvd_natAbs.2 h)
theorem redZ_abs {n d : Int} (hd : d ≠ 0) : (redZ n d).num.natAbs ≤ n.natAbs ∧ (redZ n d).den.natAbs ≤ d.natAbs := by
 obtain ⟨h1, h2, h3, h4⟩ := redZ_ok (n := n) hd
 refine ⟨?_, abs_of_dvd h3 hd⟩
 by_cases hn : n = 0
 ·subst hn
  rw [Int.zero_mul] at h2
  rcases Int.mul_eq_zero.1 h2 with e | e
  ·rw [e]; exact Nat.le_refl _
  ·exact absurd e hd
 ·exact abs_of_dvd h4 hn
def fixZ (m : MapM) (w : List Int) : FrZ := redZ (lineZ m w).add ((lineZ m w).div - (lineZ m w).mul)
def nxtZ (m : MapM) (f : FrZ) (r : Int) : FrZ := redZ (f.num * mulM m r + f.den * addM m r) (f.den * m.mod)
def CopD (m : MapM) (f : FrZ) : Prop := Int.gcd f.den m.mod = 1
theorem line_cop {m : MapM} (hm : OkM m) (hf : freeM m) {w : List Int} (hw : IsW m w) : Int.gcd (lineZ m w).mul m.mod = 1 := by
 obtain ⟨h1, h2, h3, h4⟩ := restZ_ok hm hf w hw
 have h := prod_line m (restZ m w).1 w.length
 rw [h4] at h
 have hp := prod_free hm hf (restZ m w).1 w.length
 rw [h] at hp
 have e : m.mod.natAbs = m.mod.toNat := by have := hm.1; omega
 show Nat.gcd _ m.mod.natAbs = 1
 rw [e]; exact hp
theorem line_one (m : MapM) (r : Int) : (lineZ m [r]).mul = mulM m r ∧ (lineZ m [r]).add = addM m r ∧ (lineZ m [r]).div = m.mod := by
 refine ⟨?_, ?_, ?_⟩
 ·show mulM m r * 1 = mulM m r; omega
 ·show mulM m r * 0 + addM m r * 1 = addM m r; omega
 ·show 1 * m.mod = m.mod; omega
theorem line_cons (m : MapM) (r : Int) (v : List Int) : (lineZ m (r :: v)).mul = (lineZ m v).mul * mulM m r ∧ (lineZ m (r :: v)).add = (lineZ m v).mul * addM m r + (lineZ m v).add * m.mod ∧ (lineZ m (r :: v)).div = m.mod * (lineZ m v).div := by
 have h := lineZ_app m [r] v
 obtain ⟨e1, e2, e3⟩ := line_one m r
 rw [e1, e2, e3] at h
 exact h
theorem mulM_cop {m : MapM} (hm : OkM m) (hf : freeM m) {r : Int} (hr : 0 ≤ r ∧ r < m.mod) : Int.gcd (mulM m r) m.mod = 1 := by
 have h := line_cop hm hf (w := [r]) (fun x hx => by simp at hx; rw [hx]; exact hr)
 rw [(line_one m r).1] at h
 exact h
theorem dvd_pow_ne {a : Int} {k : Nat} (h : k ≠ 0) : a ∣ a ^ k := by
 obtain ⟨j, rfl⟩ : ∃ j, k = j + 1 := ⟨k - 1, by omega⟩
 exact ⟨a ^ j, by rw [Int.pow_succ, Int.mul_comm]⟩
theorem line_ne {m : MapM} (hm : OkM m) (hf : freeM m) {w : List Int} (hw : IsW m w) (hne : w ≠ []) : (lineZ m w).div - (lineZ m w).mul ≠ 0 := fun e => by
 have hc := line_cop hm hf hw
 have h1 : m.mod ∣ (lineZ m w).mul := by
  rw [show (lineZ m w).mul = (lineZ m w).div by omega, lineZ_div]
  exact dvd_pow_ne (fun h => hne (List.eq_nil_of_length_eq_zero h))
 have h2 := Int.natAbs_dvd_natAbs.2 (Int.dvd_coe_gcd h1 (Int.dvd_refl m.mod))
 rw [hc] at h2
 have h3 := Nat.le_of_dvd (by decide) h2
 have := hm.1
 simp at h3
 omega
theorem fix_ok {m : MapM} (hm : OkM m) (hf : freeM m) {w : List Int} (hw : IsW m w) (hne : w ≠ []) : RedF (fixZ m w) ∧ (fixZ m w).num * ((lineZ m w).div - (lineZ m w).mul) = (lineZ m w).add * (fixZ m w).den ∧ CopD m (fixZ m w) := by
 obtain ⟨h1, h2, h3, h4⟩ := redZ_ok (n := (lineZ m w).add) (line_ne hm hf hw hne)
 refine ⟨h1, h2, ?_⟩
 have hc := line_cop hm hf hw
 have hd : m.mod ∣ (lineZ m w).div := by rw [lineZ_div]; exact dvd_pow_ne (fun h => hne (List.eq_nil_of_length_eq_zero h))
 have g1 := Int.gcd_dvd_left (fixZ m w).den m.mod
 have g2 := Int.gcd_dvd_right (fixZ m w).den m.mod
 have g3 := Int.dvd_sub (Int.dvd_trans g2 hd) (Int.dvd_trans g1 h3)
 rw [show (lineZ m w).div - ((lineZ m w).div - (lineZ m w).mul) = (lineZ m w).mul by omega] at g3
 have g4 := Int.dvd_gcd g3 g2
 rw [hc] at g4
 exact Nat.dvd_one.1 g4
theorem isW_cons {m : MapM} {r : Int} {v : List Int} : IsW m (r :: v) ↔ (0 ≤ r ∧ r < m.mod) ∧ IsW m v := by
 constructor
 ·intro h; exact ⟨h r (by simp), fun x hx => h x (by simp [hx])⟩
 ·rintro ⟨h1, h2⟩ x hx
  rcases List.mem_cons.1 hx with e | e
  ·rw [e]; exact h1
  ·exact h2 x e
theorem isW_app {m : MapM} {u v : List Int} : IsW m (u ++ v) ↔ IsW m u ∧ IsW m v := by
 constructor
 ·intro h; exact ⟨fun x hx => h x (by simp [hx]), fun x hx => h x (by simp [hx])⟩
 ·rintro ⟨h1, h2⟩ x hx
  rcases List.mem_append.1 hx with e | e
  ·exact h1 x e
  ·exact h2 x e
theorem fix_next {m : MapM} (hm : OkM m) (hf : freeM m) {r : Int} {v : List Int} (hw : IsW m (r :: v)) : nxtZ m (fixZ m (r :: v)) r = fixZ m (v ++ [r]) := by
 have hw2 : IsW m (v ++ [r]) := isW_app.2 ⟨(isW_cons.1 hw).2, fun x hx => by simp at hx; rw [hx]; exact (isW_cons.1 hw).1⟩
 obtain ⟨a1, a2, a3⟩ := fix_ok hm hf hw (by simp)
 obtain ⟨b1, b2, b3⟩ := fix_ok hm hf hw2 (by simp)
 have hn := line_ne hm hf hw2 (by simp)
 obtain ⟨c1, c2, c3⟩ := line_cons m r v
 obtain ⟨d1, d2, d3⟩ := lineZ_app m v [r]
 obtain ⟨e1, e2, e3⟩ := line_one m r
 rw [e1] at d1 d2
 rw [e2] at d2
 rw [e3] at d3
 rw [c1, c2, c3] at a2
 rw [d1, d2, d3] at b2
 rw [d1, d3] at hn
 have hq := a1.1
 have hM := hm.1
 refine red_is (by intro h0; rcases Int.mul_eq_zero.1 h0 with h | h <;> omega) b1 (Int.eq_of_mul_eq_mul_right hn ?_)
 generalize (fixZ m (r :: v)).num = p at a2 ⊢
 generalize (fixZ m (r :: v)).den = q at a2 ⊢
 generalize (fixZ m (v ++ [r])).num = p2 at b2 ⊢
 generalize (fixZ m (v ++ [r])).den = q2 at b2 ⊢
 generalize mulM m r = c at a2 b2 ⊢
 generalize addM m r = e at a2 b2 ⊢
 generalize (lineZ m v).mul = a at a2 b2 ⊢
 generalize (lineZ m v).add = b at a2 b2 ⊢
 generalize (lineZ m v).div = d at a2 b2 ⊢
 generalize m.mod = M at a2 b2 ⊢
 grind
theorem val_map {m : MapM} (hm : OkM m) {r : Int} (hr : 0 ≤ r ∧ r < m.mod) : m.mod ∣ mulM m r * r + addM m r := by
 obtain ⟨o1, o2, o3, o4, o5⟩ := hm
 obtain ⟨_, _, _, _, h⟩ := o5 r.toNat (by omega)
 have hd := Int.dvd_of_tmod_eq_zero h
 rw [Int.toNat_of_nonneg hr.1] at hd
 exact hd
theorem fix_rest {m : MapM} (hm : OkM m) (hf : freeM m) {r : Int} {v : List Int} (hw : IsW m (r :: v)) : ((fixZ m (r :: v)).num - r * (fixZ m (r :: v)).den) % m.mod = 0 := by
 obtain ⟨a1, a2, a3⟩ := fix_ok hm hf hw (by simp)
 obtain ⟨hr, hv⟩ := isW_cons.1 hw
 obtain ⟨c1, c2, c3⟩ := line_cons m r v
 rw [c1, c2, c3] at a2
 have g1 := line_cop hm hf hv
 have g2 := mulM_cop hm hf hr
 obtain ⟨t, ht⟩ := val_map hm hr
 refine Int.emod_eq_zero_of_dvd (dvd_cop (b := mulM m r) (dvd_cop (b := (lineZ m v).mul) ⟨(fixZ m (r :: v)).num * (lineZ m v).div - (lineZ m v).add * (fixZ m (r :: v)).den - (lineZ m v).mul * t * (fixZ m (r :: v)).den, ?_⟩ (by rw [Int.gcd_comm]; exact g1)) (by rw [Int.gcd_comm]; exact g2))
 generalize (fixZ m (r :: v)).num = p at a2 ⊢
 generalize (fixZ m (r :: v)).den = q at a2 ⊢
 generalize mulM m r = c at a2 ht ⊢
 generalize addM m r = e at a2 ht ⊢
 generalize (lineZ m v).mul = a at a2 ⊢
 generalize (lineZ m v).add = b at a2 ⊢
 generalize (lineZ m v).div = d at a2 ⊢
 generalize m.mod = M at a2 ht ⊢
 grind
def restF (m : MapM) (f : FrZ) : Int := match (List.range m.mod.toNat).find? fun (r : Nat) => decide ((f.num - (r : Int) * f.den) % m.mod = 0) with
 | some r => r
 | none => -1
theorem restF_is {m : MapM} (hm : OkM m) {f : FrZ} (hc : CopD m f) {r : Int} (hr : 0 ≤ r ∧ r < m.mod) (h : (f.num - r * f.den) % m.mod = 0) : restF m f = r := by
 unfold restF
 cases hu : (List.range m.mod.toNat).find? fun (r : Nat) => decide ((f.num - (r : Int) * f.den) % m.mod = 0) with
 | none =>
  have := List.find?_eq_none.1 hu r.toNat (by simp; omega)
  rw [Int.toNat_of_nonneg hr.1] at this
  simp [h] at this
 | some u =>
  have h1 := List.find?_some hu
  have h2 := List.mem_of_find?_eq_some hu
  simp at h1 h2
  show (u : Int) = r
  have h3 := Int.dvd_sub (Int.dvd_of_emod_eq_zero h1) (Int.dvd_of_emod_eq_zero h)
  rw [show f.num - (u : Int) * f.den - (f.num - r * f.den) = f.den * (r - u) by grind] at h3
  have h4 := dvd_cop h3 (by rw [Int.gcd_comm]; exact hc)
  obtain ⟨t, ht⟩ := h4
  rcases Int.lt_trichotomy t 0 with g | g | g
  ·have := Int.mul_le_mul_of_nonneg_left (show t ≤ -1 by omega) (show 0 ≤ m.mod by omega)
   omega
  ·rw [g] at ht; omega
  ·have := Int.mul_le_mul_of_nonneg_left (show 1 ≤ t by omega) (show 0 ≤ m.mod by omega)
   omega
def trnZ (m : MapM) (w : List Int) (f : FrZ) : Nat → FrZ
 | 0 => f
 | i + 1 => nxtZ m (trnZ m w f i) (w.getD i 0)
def rotL {α : Type} (w : List α) (i : Nat) : List α := w.drop i ++ w.take i
theorem rot_len {α : Type} (w : List α) (i : Nat) : (rotL w i).length = w.length := by unfold rotL; rw [List.length_append, List.length_drop, List.length_take]; omega
theorem rot_is {m : MapM} {w : List Int} (h : IsW m w) (i : Nat) : IsW m (rotL w i) := isW_app.2 ⟨fun x hx => h x (List.mem_of_mem_drop hx), fun x hx => h x (List.mem_of_mem_take hx)⟩
theorem rot_cons {w : List Int} {i : Nat} (h : i < w.length) : rotL w i = w.getD i 0 :: (w.drop (i + 1) ++ w.take i) ∧ rotL w (i + 1) = (w.drop (i + 1) ++ w.take i) ++ [w.getD i 0] := by
 unfold rotL
 refine ⟨?_, ?_⟩
 ·rw [List.drop_eq_getElem_cons h, List.getD_eq_getElem?_getD, List.getElem?_eq_getElem h]; rfl
 ·rw [take_snoc h, List.append_assoc]
theorem trn_rot {m : MapM} (hm : OkM m) (hf : freeM m) {w : List Int} (hw : IsW m w) : ∀ i, i ≤ w.length → trnZ m w (fixZ m w) i = fixZ m (rotL w i)
 | 0, _ => by show fixZ m w = fixZ m (w.drop 0 ++ w.take 0); simp
 | i + 1, h => by
  obtain ⟨h1, h2⟩ := rot_cons (w := w) (i := i) (by omega)
  rw [trnZ, trn_rot hm hf hw i (by omega), h1, h2]
  exact fix_next hm hf (by rw [← h1]; exact rot_is hw i)
theorem trn_rest {m : MapM} (hm : OkM m) (hf : freeM m) {w : List Int} (hw : IsW m w) {i : Nat} (h : i < w.length) : ((trnZ m w (fixZ m w) i).num - w.getD i 0 * (trnZ m w (fixZ m w) i).den) % m.mod = 0 ∧ restF m (trnZ m w (fixZ m w) i) = w.getD i 0 := by
 obtain ⟨h1, h2⟩ := rot_cons (w := w) (i := i) h
 have hwr := rot_is hw i
 rw [h1] at hwr
 have h3 := fix_rest hm hf hwr
 rw [← h1, ← trn_rot hm hf hw i (by omega)] at h3
 have h4 := (fix_ok hm hf hwr (by simp)).2.2
 rw [← h1, ← trn_rot hm hf hw i (by omega)] at h4
 exact ⟨h3, restF_is hm h4 (isW_get hw h) h3⟩
theorem rot_all {α : Type} (w : List α) : rotL w w.length = w := by unfold rotL; simp
theorem trn_end {m : MapM} (hm : OkM m) (hf : freeM m) {w : List Int} (hw : IsW m w) : trnZ m w (fixZ m w) w.length = fixZ m w := by rw [trn_rot hm hf hw _ (Nat.le_refl _), rot_all]
theorem fit_abs {x y : Int} (h : x.natAbs ≤ y.natAbs) {k : Nat} (hy : y.natAbs < 10 ^ k) (hk : k ≤ 2000) (h1 : 1 ≤ k) : Fit x := fit_of_pow (Nat.lt_of_le_of_lt h hy) hk h1
theorem fix_fit {m : MapM} (hm : OkM m) (hf : freeM m) {w : List Int} (hw : OkW m w) (hne : w ≠ []) : Fit (fixZ m w).num ∧ Fit (fixZ m w).den := by
 obtain ⟨h1, h2⟩ := redZ_abs (n := (lineZ m w).add) (line_ne hm hf hw.1 hne)
 obtain ⟨l1, l2, l3⟩ := line_abs hm w hw.1
 have := hw.2
 refine ⟨fit_abs h1 l2 (by omega) (by omega), ?_⟩
 have l4 := add_lt_pow l3 (show (-(lineZ m w).mul).natAbs < _ by rw [Int.natAbs_neg]; exact l1)
 exact fit_abs h2 (by rw [Int.sub_eq_add_neg]; exact l4) (by omega) (by omega)
theorem fix_len {m : MapM} (hm : OkM m) (hf : freeM m) {w : List Int} (hw : OkW m w) (hne : w ≠ []) : (digs (fixZ m w).num.natAbs).length ≤ 300 ∧ (digs (fixZ m w).den.natAbs).length ≤ 300 := ⟨fit_len (fix_fit hm hf hw hne).1, fit_len (fix_fit hm hf hw hne).2⟩
theorem nxt_int {m : MapM} (hm : OkM m) {y r : Int} (hr : y % m.mod = r) : nxtZ m ⟨y, 1⟩ r = ⟨stepZ m y, 1⟩ := by
 have hM := hm.1
 have hs := getD_toNat hm y
 rw [hr] at hs
 refine red_is (by show (1 : Int) * m.mod ≠ 0; omega) ⟨show (0 : Int) < 1 by decide, by show Int.gcd _ 1 = 1; simp⟩ ?_
 show stepZ m y * (1 * m.mod) = (y * mulM m r + 1 * addM m r) * 1
 grind
theorem fix_int {m : MapM} (hm : OkM m) (hf : freeM m) {w : List Int} (hw : IsW m w) (h1 : (fixZ m w).den = 1) : (∀ i, i ≤ w.length → trnZ m w (fixZ m w) i = ⟨iterZ m i (fixZ m w).num, 1⟩) ∧ iterZ m w.length (fixZ m w).num = (fixZ m w).num ∧ wordZ m (fixZ m w).num w.length = w := by
 have hM := hm.1
 have key : ∀ i, i ≤ w.length → trnZ m w (fixZ m w) i = ⟨iterZ m i (fixZ m w).num, 1⟩ ∧ ∀ j, j < i → w.getD j 0 = iterZ m j (fixZ m w).num % m.mod := by
  intro i
  induction i with
  | zero => intro _; exact ⟨frz_ext rfl h1, fun j hj => by omega⟩
  | succ i ih =>
   intro hi
   obtain ⟨a, b⟩ := ih (by omega)
   obtain ⟨g1, _⟩ := trn_rest hm hf hw (show i < w.length by omega)
   obtain ⟨r0, r1⟩ := isW_get hw (show i < w.length by omega)
   rw [a] at g1
   have e : w.getD i 0 = iterZ m i (fixZ m w).num % m.mod := by
    have g2 : (iterZ m i (fixZ m w).num - w.getD i 0 * 1) % m.mod = 0 := g1
    rw [Int.mul_one] at g2
    have g3 := (Int.emod_eq_emod_iff_emod_sub_eq_zero).2 g2
    rw [Int.emod_eq_of_lt r0 r1] at g3
    exact g3.symm
   refine ⟨?_, fun j hj => ?_⟩
   ·rw [trnZ, a, nxt_int hm e.symm]; rfl
   ·rcases Nat.lt_or_ge j i with hji | hji
    ·exact b j hji
    ·rw [show j = i by omega]; exact e
 obtain ⟨a, b⟩ := key w.length (Nat.le_refl _)
 rw [trn_end hm hf hw] at a
 refine ⟨fun i hi => (key i hi).1, (congrArg FrZ.num a).symm, ?_⟩
 exact list_extZ (wordZ_len _ _ _) fun k hk => by
  rw [wordZ_len] at hk
  rw [wordZ_get m _ _ k hk, b k hk]
end Go.Mth

namespace Go.Mth
open Go.Ab
def valW (M : Int) (w : List Int) : Int := w.foldl (fun v r => v * M + r) 0
def wordT (M : Nat) : Nat → Nat → List Int
 | 0, _ => []
 | n + 1, t => wordT M n (t / M) ++ [((t % M : Nat) : Int)]
theorem valW_snoc (M : Int) (w : List Int) (r : Int) : valW M (w ++ [r]) = valW M w * M + r := by unfold valW; rw [List.foldl_append]; rfl
theorem valW_app (M : Int) (u v : List Int) : valW M (u ++ v) = valW M u * M ^ v.length + valW M v := by
 refine snoc_ind (P := fun v => valW M (u ++ v) = valW M u * M ^ v.length + valW M v) ?_ (fun v r ih => ?_) v
 ·show valW M (u ++ []) = _
  rw [List.append_nil]
  show _ = valW M u * M ^ 0 + 0
  rw [Int.pow_zero]; omega
 ·show valW M (u ++ (v ++ [r])) = valW M u * M ^ (v ++ [r]).length + valW M (v ++ [r])
  rw [← List.append_assoc, valW_snoc, valW_snoc, ih, List.length_append, List.length_singleton, Int.pow_succ]
  grind
theorem wordT_len (M : Nat) : ∀ n t, (wordT M n t).length = n
 | 0, _ => rfl
 | n + 1, t => by rw [wordT, List.length_append, wordT_len M n]; rfl
theorem wordT_is {m : MapM} (hm : OkM m) : ∀ n t, IsW m (wordT m.mod.toNat n t)
 | 0, _ => fun x hx => by cases hx
 | n + 1, t => isW_app.2 ⟨wordT_is hm n _, fun x hx => by
   simp only [List.mem_singleton] at hx
   have h1 := hm.1
   have := Nat.mod_lt t (show 0 < m.mod.toNat by omega)
   rw [hx]; omega⟩
theorem valW_bd {m : MapM} (hm : OkM m) : ∀ w : List Int, IsW m w → 0 ≤ valW m.mod w ∧ valW m.mod w < m.mod ^ w.length := by
 refine snoc_ind (P := fun w => IsW m w → 0 ≤ valW m.mod w ∧ valW m.mod w < m.mod ^ w.length) (fun _ => ⟨Int.le_refl 0, by show (0 : Int) < m.mod ^ 0; rw [Int.pow_zero]; decide⟩) fun w r ih hw => ?_
 obtain ⟨h1, h2⟩ := ih (isW_app.1 hw).1
 obtain ⟨r0, r1⟩ := (isW_app.1 hw).2 r (by simp)
 have hM := hm.1
 rw [valW_snoc, List.length_append, List.length_singleton, Int.pow_succ]
 have a1 := Int.mul_nonneg h1 (show 0 ≤ m.mod by omega)
 have a2 := Int.mul_le_mul_of_nonneg_right (show valW m.mod w ≤ m.mod ^ w.length - 1 by omega) (show 0 ≤ m.mod by omega)
 rw [Int.sub_mul] at a2
 omega
theorem valW_wordT (M : Nat) (hM : 0 < M) : ∀ n t, t < M ^ n → valW (M : Int) (wordT M n t) = (t : Int)
 | 0, t, h => by
  rw [Nat.pow_zero] at h
  show (0 : Int) = _
  omega
 | n + 1, t, h => by
  rw [wordT, valW_snoc, valW_wordT M hM n (t / M) (by rw [Nat.pow_succ, Nat.mul_comm] at h; exact Nat.div_lt_of_lt_mul h)]
  have := Nat.div_add_mod t M
  rw [Nat.mul_comm] at this
  exact_mod_cast this
theorem wordT_valW {m : MapM} (hm : OkM m) : ∀ w : List Int, IsW m w → wordT m.mod.toNat w.length (valW m.mod w).toNat = w := by
 refine snoc_ind (P := fun w => IsW m w → wordT m.mod.toNat w.length (valW m.mod w).toNat = w) (fun _ => rfl) fun w r ih hw => ?_
 obtain ⟨h1, h2⟩ := valW_bd hm w (isW_app.1 hw).1
 obtain ⟨r0, r1⟩ := (isW_app.1 hw).2 r (by simp)
 have hM := hm.1
 have hih := ih (isW_app.1 hw).1
 rw [List.length_append, List.length_singleton, wordT, valW_snoc]
 have e : (valW m.mod w * m.mod + r).toNat = m.mod.toNat * (valW m.mod w).toNat + r.toNat := by
  have a1 := Int.mul_nonneg h1 (show 0 ≤ m.mod by omega)
  have e1 : (((valW m.mod w * m.mod + r).toNat : Nat) : Int) = ((m.mod.toNat * (valW m.mod w).toNat + r.toNat : Nat) : Int) := by
   rw [Int.toNat_of_nonneg (by omega), Int.natCast_add, Int.natCast_mul, Int.toNat_of_nonneg (by omega), Int.toNat_of_nonneg h1, Int.toNat_of_nonneg r0, Int.mul_comm]
  exact Int.ofNat.inj e1
 have hr : r.toNat < m.mod.toNat := by omega
 rw [e, Nat.mul_add_div (by omega), Nat.div_eq_of_lt hr, Nat.add_zero, hih, Nat.mul_add_mod, Nat.mod_eq_of_lt hr, Int.toNat_of_nonneg r0]
theorem split_at {w : List Int} {i : Nat} (h : i < w.length) : w = w.take i ++ (w.getD i 0 :: w.drop (i + 1)) := by
 have := (rot_cons (w := w) (i := i) h).1
 rw [show w.getD i 0 :: w.drop (i + 1) = w.drop i by rw [List.drop_eq_getElem_cons h, List.getD_eq_getElem?_getD, List.getElem?_eq_getElem h]; rfl, List.take_append_drop]
theorem set_split {w : List Int} {i : Nat} (h : i < w.length) (x : Int) : w.set i x = w.take i ++ (x :: w.drop (i + 1)) := by
 rw [List.set_eq_take_append_cons_drop, if_pos h]
theorem valW_set (M : Int) {w : List Int} {i : Nat} (h : i < w.length) (x : Int) : valW M (w.set i x) = valW M w + (x - w.getD i 0) * M ^ (w.length - 1 - i) := by
 have key : ∀ y : Int, valW M (w.take i ++ (y :: w.drop (i + 1))) = valW M (w.take i) * M ^ (w.length - i) + (y * M ^ (w.length - 1 - i) + valW M (w.drop (i + 1))) := fun y => by
  rw [valW_app, List.length_cons, List.length_drop, show w.length - (i + 1) + 1 = w.length - i by omega]
  have := valW_app M [y] (w.drop (i + 1))
  rw [List.singleton_append] at this
  rw [this, List.length_drop, show w.length - (i + 1) = w.length - 1 - i by omega]
  show _ = _ + ((y : Int) * _ + _)
  rw [show valW M [y] = y by show (0 : Int) * M + y = y; omega]
 rw [set_split h, key]
 have h2 := key (w.getD i 0)
 rw [← split_at h] at h2
 rw [h2]; grind
theorem isW_set {m : MapM} {w : List Int} (h : IsW m w) {i : Nat} {x : Int} (hx : 0 ≤ x ∧ x < m.mod) : IsW m (w.set i x) := fun y hy => by
 rcases List.mem_or_eq_of_mem_set hy with e | e
 ·exact h y e
 ·rw [e]; exact hx
def nextP (m : MapM) (n t : Nat) (w : List Int) (j : Nat) : Prop := IsW m w ∧ w.length = n ∧ j ≤ n ∧ valW m.mod w + m.mod ^ j = (t : Int) + 1
theorem next_0 {m : MapM} (hm : OkM m) {n t : Nat} (ht : (t : Int) < m.mod ^ n) : nextP m n t (wordT m.mod.toNat n t) 0 := by
 have hM := hm.1
 refine ⟨wordT_is hm n t, wordT_len _ _ _, Nat.zero_le _, ?_⟩
 have e : ((m.mod.toNat : Nat) : Int) = m.mod := Int.toNat_of_nonneg (by omega)
 have h := valW_wordT m.mod.toNat (by omega) n t (by
  have : ((m.mod.toNat ^ n : Nat) : Int) = m.mod ^ n := by rw [Int.natCast_pow, e]
  omega)
 rw [e] at h
 rw [h, Int.pow_zero]
theorem next_s {m : MapM} (hm : OkM m) {n t : Nat} {w : List Int} {j : Nat} (h : nextP m n t w j) (hj : j < n) (hx : w.getD (n - 1 - j) 0 = m.mod - 1) : nextP m n t (w.set (n - 1 - j) 0) (j + 1) := by
 have hM := hm.1
 obtain ⟨h1, h2, h3, h4⟩ := h
 refine ⟨isW_set h1 ⟨by decide, by omega⟩, by rw [List.length_set]; exact h2, hj, ?_⟩
 rw [valW_set _ (by omega), hx, h2, show n - 1 - (n - 1 - j) = j by omega, Int.pow_succ]
 grind
theorem next_y {m : MapM} (hm : OkM m) {n t : Nat} {w : List Int} {j : Nat} (h : nextP m n t w j) (hj : j < n) (hx : w.getD (n - 1 - j) 0 ≠ m.mod - 1) : w.set (n - 1 - j) (w.getD (n - 1 - j) 0 + 1) = wordT m.mod.toNat n (t + 1) ∧ (((t + 1 : Nat) : Nat) : Int) < m.mod ^ n := by
 obtain ⟨h1, h2, h3, h4⟩ := h
 obtain ⟨r0, r1⟩ := isW_get h1 (show n - 1 - j < w.length by omega)
 have g1 := isW_set h1 (i := n - 1 - j) (x := w.getD (n - 1 - j) 0 + 1) ⟨by omega, by omega⟩
 have g2 := valW_set m.mod (w := w) (i := n - 1 - j) (by omega) (w.getD (n - 1 - j) 0 + 1)
 rw [h2, show n - 1 - (n - 1 - j) = j by omega, show w.getD (n - 1 - j) 0 + 1 - w.getD (n - 1 - j) 0 = 1 by omega, Int.one_mul] at g2
 have g3 := valW_bd hm _ g1
 rw [List.length_set, h2] at g3
 have g4 := wordT_valW hm _ g1
 rw [List.length_set, h2] at g4
 have e : (valW m.mod (w.set (n - 1 - j) (w.getD (n - 1 - j) 0 + 1))).toNat = t + 1 := by omega
 rw [e] at g4
 exact ⟨g4.symm, by omega⟩
theorem next_n {m : MapM} (hm : OkM m) {n t : Nat} {w : List Int} (h : nextP m n t w n) (ht : (t : Int) < m.mod ^ n) : ((t + 1 : Nat) : Int) = m.mod ^ n := by
 obtain ⟨h1, h2, h3, h4⟩ := h
 have := (valW_bd hm w h1).1
 omega
def cmpL : List Int → List Int → Int
 | [], [] => 0
 | [], _ :: _ => -1
 | _ :: _, [] => 1
 | a :: x, b :: y => if cmpZ a b = 0 then cmpL x y else cmpZ a b
theorem cmpZ_eq0 {x y : Int} : cmpZ x y = 0 ↔ x = y := by unfold cmpZ; split <;> (try split) <;> omega
theorem valW_cons (M : Int) (a : Int) (x : List Int) : valW M (a :: x) = a * M ^ x.length + valW M x := by
 have := valW_app M [a] x
 rw [List.singleton_append] at this
 rw [this, show valW M [a] = a by show (0 : Int) * M + a = a; omega]
theorem cmpL_val {m : MapM} (hm : OkM m) : ∀ {x y : List Int}, IsW m x → IsW m y → x.length = y.length → cmpL x y = cmpZ (valW m.mod x) (valW m.mod y)
 | [], [], _, _, _ => by show (0 : Int) = cmpZ 0 0; rfl
 | [], _ :: _, _, _, h => by simp at h
 | _ :: _, [], _, _, h => by simp at h
 | a :: x, b :: y, hx, hy, h => by
  have hl : x.length = y.length := by simpa using h
  obtain ⟨_, hx2⟩ := isW_cons.1 hx
  obtain ⟨_, hy2⟩ := isW_cons.1 hy
  have ih := cmpL_val hm hx2 hy2 hl
  have bx := valW_bd hm x hx2
  have by' := valW_bd hm y hy2
  rw [cmpL, valW_cons, valW_cons, hl]
  rw [hl] at bx
  split
  ·rename_i e
   rw [cmpZ_eq0.1 e, ih]
   unfold cmpZ
   split <;> split <;> (try split) <;> (try split) <;> first | rfl | omega
  ·rename_i e
   have hne : a ≠ b := fun q => e (cmpZ_eq0.2 q)
   have hp : 0 < m.mod ^ y.length := Int.pow_pos (by have := hm.1; omega)
   rcases Int.lt_or_gt_of_ne hne with g | g
   ·have := Int.mul_le_mul_of_nonneg_right (show a + 1 ≤ b by omega) (Int.le_of_lt hp)
    rw [Int.add_mul, Int.one_mul] at this
    unfold cmpZ
    rw [if_pos g, if_pos (by omega)]
   ·have := Int.mul_le_mul_of_nonneg_right (show b + 1 ≤ a by omega) (Int.le_of_lt hp)
    rw [Int.add_mul, Int.one_mul] at this
    unfold cmpZ
    rw [if_neg (by omega), if_pos g, if_neg (by omega), if_pos (by omega)]
def firstP (w : List Int) : Prop := ∀ i, i < w.length → 0 < i → ¬ cmpL (rotL w i) w ≤ 0
instance (w : List Int) : Decidable (firstP w) := inferInstanceAs (Decidable (∀ i, i < w.length → 0 < i → ¬ cmpL (rotL w i) w ≤ 0))
theorem first_val {m : MapM} (hm : OkM m) {w : List Int} (hw : IsW m w) : firstP w ↔ ∀ i, i < w.length → 0 < i → valW m.mod w < valW m.mod (rotL w i) := by
 have key : ∀ i, ¬ cmpL (rotL w i) w ≤ 0 ↔ valW m.mod w < valW m.mod (rotL w i) := fun i => by
  rw [cmpL_val hm (rot_is hw i) hw (rot_len w i)]
  unfold cmpZ
  split <;> (try split) <;> omega
 constructor
 ·intro h i h1 h2; exact (key i).1 (h i h1 h2)
 ·intro h i h1 h2; exact (key i).2 (h i h1 h2)
end Go.Mth

namespace Go.Ab
open Go.RowKit
def seesOk (m : List (Nat × AO)) : List (Nat × AO) → Prop
 | [] => True
 | (id, ob) :: r => lookO m id = some ob ∧ ob.seeB = true ∧ seesOk m r
section
variable {C : Ctx} {ops : Array Oper} {s : List (Nat × AV)} {m : List (Nat × AO)} {d : Nat} {t : TypeId} {p : String} {af : Array Edge} {g : Option (Nat × Bool)} {os : List Oper} {K : List Eff → St → Prop}
end
end Go.Ab

namespace Go.Ab
open Go.RowKit
def gcells {α : Type} (c : α → List AV) (l : List α) : List AV := l.flatMap c
theorem gcells_len {α : Type} {c : α → List AV} {n : Nat} (hc : ∀ x, (c x).length = n) : ∀ l : List α, (gcells c l).length = l.length * n
 | [] => by simp [gcells]
 | x :: l => by
  have := gcells_len hc l
  unfold gcells at this ⊢
  rw [List.flatMap_cons, List.length_append, this, hc, List.length_cons, Nat.add_mul, Nat.one_mul, Nat.add_comm]
theorem gcells_drop {α : Type} {c : α → List AV} {n : Nat} (hc : ∀ x, (c x).length = n) (d : α) : ∀ (l : List α) (i : Nat), i < l.length → (gcells c l).drop (i * n) = c (l.getD i d) ++ gcells c (l.drop (i + 1))
 | [], i, h => by simp at h
 | x :: l, 0, _ => by simp [gcells]
 | x :: l, i + 1, h => by
  have := gcells_drop hc d l i (by simpa using h)
  unfold gcells at this ⊢
  rw [List.flatMap_cons, show (i + 1) * n = (c x).length + i * n by rw [hc, Nat.add_mul, Nat.one_mul, Nat.add_comm], ← List.drop_drop, List.drop_left, this]
  simp
section
variable {C : Ctx} {ops : Array Oper} {s : List (Nat × AV)} {m : List (Nat × AO)} {d : Nat} {t : TypeId} {p : String} {af : Array Edge} {g : Option (Nat × Bool)} {os : List Oper} {K : List Eff → St → Prop}
theorem i_indexRow {ty : TypeId} {x y : Operand} {e e' id by' : Nat} {k kk' : IntKind} (xs : List Int) (i : Nat) (hg : Gd ops s g) (ht : tyElem C.P ty = some (e, 1, by')) (hx : ev s x = .row id) (ho : lookO m id = some (.row e' 1 (is k xs))) (hy : ev s y = nm kk' i) (h1 : i < xs.length)
  (kk : aops C ops ⟨(d, .ref id i) :: s, m⟩ os fun es σ' => K ({ val := .ref id i, use := [id] } :: es) σ') : aops C ops ⟨s, m⟩ (⟨some d, .indexAddr ty x y, t, p, af, g⟩ :: os) K :=
 o_indexRow1 (i := (i : Int)) hg ht hx ho hy (by omega) (by simpa [is] using h1) kk
theorem i_loadRow {ty : TypeId} {x : Operand} {id e' : Nat} {k : IntKind} (xs : List Int) (i : Nat) (hg : Gd ops s g) (ht : tySc C.P ty = true) (hx : ev s x = .ref id i) (ho : lookO m id = some (.row e' 1 (is k xs))) (h1 : i < xs.length)
  (kk : aops C ops ⟨(d, .lit (.int k (xs.getD i 0))) :: s, m⟩ os fun es σ' => K ({ val := .lit (.int k (xs.getD i 0)), use := [id] } :: es) σ') : aops C ops ⟨s, m⟩ (⟨some d, .load ty x, t, p, af, g⟩ :: os) K :=
 o_loadS _ hg ht hx ho (getMap 0 h1) kk
theorem i_storeRow {ty : TypeId} {x y : Operand} {id e' : Nat} {k : IntKind} (xs : List Int) (i : Nat) (v : Int) (m' : List (Nat × AO)) (hg : Gd ops s g) (ht : tySize C.P ty = some 1) (hx : ev s x = .ref id i) (ho : lookO m id = some (.row e' 1 (is k xs))) (hy : ev s y = .lit (.int k v)) (h1 : i < xs.length)
  (hm : setO m id (.row e' 1 (is k (xs.set i v))) = m') (kk : aops C ops ⟨s, m'⟩ os fun es σ' => K ({ val := .any, upd := [(id, some (.row e' 1 (is k (xs.set i v))))], use := [id] } :: es) σ') : aops C ops ⟨s, m⟩ (⟨none, .store ty x y, t, p, af, g⟩ :: os) K :=
 o_storeRow (new := [.lit (.int k v)]) (is k (xs.set i v)) m' hg ht hx ho (by rw [hy]; rfl) rfl rfl (by simp [is]; omega) (overMap (f := im k) h1) hm kk
theorem o_eqlNilSl {xt yt e : TypeId} {x y : Operand} {sz : Nat} {cs : List AV} (hg : Gd ops s g) (ht : C.P.underlying xt = some (.slice e)) (hx : ev s x = .sl sz cs) (hy : ev s y = .lit (.slice none 0 0)) (hn : 0 < cs.length)
  (kk : aops C ops ⟨(d, .lit (.bool false)) :: s, m⟩ os fun es σ' => K ({ val := .lit (.bool false) } :: es) σ') : aops C ops ⟨s, m⟩ (⟨some d, .binOp .eql xt x y yt, t, p, af, g⟩ :: os) K :=
 o_val hg (.eqlNil xt e yt x y sz cs rfl ht (by rw [ev_st]; exact hx) (by rw [ev_st]; exact hy) hn) kk
theorem g_len {α : Type} {ty e : TypeId} {x : Operand} {n : Nat} (c : α → List AV) (l : List α) (hc : ∀ x, (c x).length = n) (hg : Gd ops s g) (ht : C.P.underlying ty = some (.slice e)) (hx : ev s x = .sl n (gcells c l))
  (kk : aops C ops ⟨(d, nm .i64 l.length) :: s, m⟩ os fun es σ' => K ({ val := nm .i64 l.length } :: es) σ') : aops C ops ⟨s, m⟩ (⟨some d, .call { callee := .builtin .len, args := #[x], argTypes := #[ty] }, t, p, af, g⟩ :: os) K :=
 o_lenSl l.length hg ht hx (gcells_len hc l) kk
theorem g_lenRow {α : Type} {ty e e' : TypeId} {x : Operand} {n id : Nat} (c : α → List AV) (l : List α) (hc : ∀ x, (c x).length = n) (hg : Gd ops s g) (ht : C.P.underlying ty = some (.slice e)) (hx : ev s x = .row id) (ho : lookO m id = some (.row e' n (gcells c l)))
  (kk : aops C ops ⟨(d, nm .i64 l.length) :: s, m⟩ os fun es σ' => K ({ val := nm .i64 l.length, use := [id] } :: es) σ') : aops C ops ⟨s, m⟩ (⟨some d, .call { callee := .builtin .len, args := #[x], argTypes := #[ty] }, t, p, af, g⟩ :: os) K :=
 o_lenRow l.length hg ht hx ho (gcells_len hc l) kk
theorem g_index {α : Type} {ty : TypeId} {x y : Operand} {e n by' : Nat} {kk' : IntKind} (c : α → List AV) (l : List α) (i : Nat) (hc : ∀ x, (c x).length = n) (hn : Nat.blt 0 n = true) (hg : Gd ops s g) (ht : tyElem C.P ty = some (e, n, by')) (hx : ev s x = .sl n (gcells c l)) (hy : ev s y = nm kk' i) (h1 : i < l.length)
  (kk : aops C ops ⟨(d, .ip ((gcells c l).drop (i * n + 0))) :: s, m⟩ os fun es σ' => K ({ val := .ip ((gcells c l).drop (i * n + 0)) } :: es) σ') : aops C ops ⟨s, m⟩ (⟨some d, .indexAddr ty x y, t, p, af, g⟩ :: os) K := by
 have h2 := o_indexN (C := C) (ops := ops) (m := m) (d := d) (t := t) (p := p) (af := af) (os := os) (K := K) (i := (i : Int)) hg ht hx hy (by omega) (by rw [gcells_len hc, Int.toNat_natCast]; rw [Nat.blt_eq] at hn; exact Nat.mul_lt_mul_of_pos_right h1 hn)
 rw [Int.toNat_natCast] at h2
 exact h2 kk
theorem g_loadA {α : Type} {ty : TypeId} {x : Operand} {n : Nat} (c : α → List AV) (l : List α) (i : Nat) (dflt : α) (hc : ∀ x, (c x).length = n) (hg : Gd ops s g) (ht : tyAgg C.P ty = some n) (hx : ev s x = .ip ((gcells c l).drop (i * n + 0))) (h1 : i < l.length)
  (kk : aops C ops ⟨(d, .agg (c (l.getD i dflt))) :: s, m⟩ os fun es σ' => K ({ val := .agg (c (l.getD i dflt)) } :: es) σ') : aops C ops ⟨s, m⟩ (⟨some d, .load ty x, t, p, af, g⟩ :: os) K := by
 rw [Nat.add_zero, gcells_drop hc dflt l i h1] at hx
 exact o_loadIA _ hg ht hx (by rw [List.length_append, hc]; omega) (by rw [← hc (l.getD i dflt)]; exact List.take_left) kk
theorem g_field {α : Type} {ty : TypeId} {x : Operand} {f fo n : Nat} {ft : TypeId} (c : α → List AV) (l : List α) (i : Nat) (hc : ∀ x, (c x).length = n) (hg : Gd ops s g) (hf : tyField C.P ty f = some (fo, ft)) (hx : ev s x = .ip ((gcells c l).drop (i * n + 0))) (h1 : i < l.length) (h2 : Nat.blt fo n = true)
  (kk : aops C ops ⟨(d, .ip ((gcells c l).drop (i * n + fo))) :: s, m⟩ os fun es σ' => K ({ val := .ip ((gcells c l).drop (i * n + fo)) } :: es) σ') : aops C ops ⟨s, m⟩ (⟨some d, .fieldAddr ty x f, t, p, af, g⟩ :: os) K := by
 have e1 : ((gcells c l).drop (i * n + 0)).drop fo = (gcells c l).drop (i * n + fo) := by rw [List.drop_drop, Nat.add_zero]
 rw [Nat.blt_eq] at h2
 have hl : fo < ((gcells c l).drop (i * n + 0)).length := by
  rw [List.length_drop, gcells_len hc, Nat.add_zero, ← Nat.sub_mul]
  have : 1 * n ≤ (l.length - i) * n := Nat.mul_le_mul_right _ (by omega)
  omega
 have h3 := o_fieldIp (C := C) (ops := ops) (m := m) (d := d) (t := t) (p := p) (af := af) (os := os) (K := K) hg hf hx hl
 rw [e1] at h3
 exact h3 kk
theorem g_loadS {α : Type} {ty : TypeId} {x : Operand} {n fo : Nat} (c : α → List AV) (l : List α) (i : Nat) (dflt : α) (v : AV) (hc : ∀ x, (c x).length = n) (hg : Gd ops s g) (ht : tySc C.P ty = true) (hx : ev s x = .ip ((gcells c l).drop (i * n + fo))) (h1 : i < l.length) (hv : (c (l.getD i dflt))[fo]? = some v)
  (kk : aops C ops ⟨(d, v) :: s, m⟩ os fun es σ' => K ({ val := v } :: es) σ') : aops C ops ⟨s, m⟩ (⟨some d, .load ty x, t, p, af, g⟩ :: os) K := by
 refine o_loadIS v hg ht hx ?_ kk
 have hlt : fo < (c (l.getD i dflt)).length := (List.getElem?_eq_some_iff.1 hv).1
 rw [← List.drop_drop, gcells_drop hc dflt l i h1, List.getElem?_drop]
 simp only [Nat.add_zero]
 rw [List.getElem?_append_left hlt]
 exact hv
theorem g_append {α : Type} {ty : TypeId} {a x : Operand} {e n by' : Nat} {z : List Value} {id i e' : Nat} (c : α → List AV) (id' : Nat) (xs ys : List α) (m' : List (Nat × AO)) (hc : ∀ x, (c x).length = n) (hn : Nat.blt 0 n = true) (hg : Gd ops s g) (ht : tyElem C.P ty = some (e, n, by')) (hz : tyZero C.P e = some z) (hzl : z.length = n)
  (hs : ev s a = .row id) (ho : lookO m id = some (.row e n (gcells c xs))) (hx : ev s x = .row i) (hi : lookO m i = some (.row e' n (gcells c ys))) (hb : (xs.length + ys.length) * by' ≤ 140737488355328) (hb2 : (xs.length + ys.length) * n ≤ 140737488355328)
  (hf : St.freshB ⟨s, m⟩ id' = true) (hm : delO m id = m') (kk : aops C ops ⟨(d, .row id') :: s, (id', .row e n (gcells c (xs ++ ys))) :: m'⟩ os fun es σ' => K ({ val := .row id', upd := [(id', some (.row e n (gcells c (xs ++ ys)))), (id, none)], use := [id, i], fresh := [id'] } :: es) σ') :
  aops C ops ⟨s, m⟩ (⟨some d, .call { callee := .builtin .append, args := #[a, x], argTypes := #[ty, ty] }, t, p, af, g⟩ :: os) K := by
 have hn' := hn
 rw [Nat.blt_eq] at hn'
 exact o_append id' (gcells c ys) (gcells c (xs ++ ys)) [id, i] m' hg ht hn hz hzl hs ho (.inr ⟨i, e', hx, hi, rfl⟩) (by rw [gcells_len hc, gcells_len hc, ← Nat.add_mul, Nat.mul_div_cancel _ hn']; exact hb) (by rw [gcells_len hc, gcells_len hc, ← Nat.add_mul]; exact hb2) (by simp [gcells]) hf hm kk
theorem g_appendSl {α : Type} {ty : TypeId} {a x : Operand} {e n by' : Nat} {z : List Value} {id : Nat} (c : α → List AV) (id' : Nat) (xs ys : List α) (m' : List (Nat × AO)) (hc : ∀ x, (c x).length = n) (hn : Nat.blt 0 n = true) (hg : Gd ops s g) (ht : tyElem C.P ty = some (e, n, by')) (hz : tyZero C.P e = some z) (hzl : z.length = n)
  (hs : ev s a = .row id) (ho : lookO m id = some (.row e n (gcells c xs))) (hx : ev s x = .sl n (gcells c ys)) (hb : (xs.length + ys.length) * by' ≤ 140737488355328) (hb2 : (xs.length + ys.length) * n ≤ 140737488355328)
  (hf : St.freshB ⟨s, m⟩ id' = true) (hm : delO m id = m') (kk : aops C ops ⟨(d, .row id') :: s, (id', .row e n (gcells c (xs ++ ys))) :: m'⟩ os fun es σ' => K ({ val := .row id', upd := [(id', some (.row e n (gcells c (xs ++ ys)))), (id, none)], use := [id], fresh := [id'] } :: es) σ') :
  aops C ops ⟨s, m⟩ (⟨some d, .call { callee := .builtin .append, args := #[a, x], argTypes := #[ty, ty] }, t, p, af, g⟩ :: os) K := by
 have hn' := hn
 rw [Nat.blt_eq] at hn'
 exact o_append id' (gcells c ys) (gcells c (xs ++ ys)) [id] m' hg ht hn hz hzl hs ho (.inl ⟨hx, rfl⟩) (by rw [gcells_len hc, gcells_len hc, ← Nat.add_mul, Nat.mul_div_cancel _ hn']; exact hb) (by rw [gcells_len hc, gcells_len hc, ← Nat.add_mul]; exact hb2) (by simp [gcells]) hf hm kk
end
end Go.Ab

namespace Go.Mth
open Go.Ab
structure Ins where
 kind : Int
 reg : Int
 next : Int
 els : Int
 deriving Inhabited, DecidableEq
structure Mac where
 regs : Int
 code : List Ins
structure Cfg where
 at' : Int
 regs : List Int
structure Frc where
 num : ByteArray
 den : ByteArray
 deriving Inhabited
def cI (x : Ins) : List AV := [.lit (.int .i64 x.kind), .lit (.int .i64 x.reg), .lit (.int .i64 x.next), .lit (.int .i64 x.els)]
def cF (x : Frc) : List AV := [.lit (.string x.num), .lit (.string x.den)]
def macV (m : Mac) : AV := .agg [.lit (.int .i64 m.regs), .sl 4 (gcells cI m.code)]
def cfgV (c : Cfg) : AV := .agg [.lit (.int .i64 c.at'), .sl 1 (is .i64 c.regs)]
def plc (m : Mac) (z : Int) : Prop := 0 ≤ z ∧ z ≤ (m.code.length : Int)
instance (m : Mac) (z : Int) : Decidable (plc m z) := by unfold plc; infer_instance
def insP (m : Mac) (x : Ins) : Prop := (0 ≤ x.reg ∧ x.reg < m.regs ∧ plc m x.next) ∧ (x.kind = 0 ∧ x.els = 0 ∨ x.kind = 1 ∧ plc m x.els)
instance (m : Mac) (x : Ins) : Decidable (insP m x) := by unfold insP; infer_instance
def okMac (m : Mac) : Prop := 1 ≤ m.regs ∧ m.regs ≤ 4 ∧ 1 ≤ m.code.length ∧ m.code.length ≤ 12 ∧ ∀ x ∈ m.code, insP m x
instance (m : Mac) : Decidable (okMac m) := by unfold okMac; infer_instance
def regP (n : Int) : Prop := 0 ≤ n ∧ n ≤ 1000
instance (n : Int) : Decidable (regP n) := by unfold regP; infer_instance
def okCfg (m : Mac) (c : Cfg) : Prop := okMac m ∧ plc m c.at' ∧ (c.regs.length : Int) = m.regs ∧ ∀ n ∈ c.regs, regP n
instance (m : Mac) (c : Cfg) : Decidable (okCfg m c) := by unfold okCfg; infer_instance
def P30 : List Nat := [2, 3, 5, 7, 11, 13, 17, 19, 23, 29, 31, 37, 41, 43, 47, 53, 59, 61, 67, 71, 73, 79, 83, 89, 97, 101, 103, 107, 109, 113]
def prv (i : Nat) : Nat := (1 :: P30).getD i 0
def arr (i : Nat) : List Nat := P30.take i ++ List.replicate (30 - i) 0
theorem bpn {q : Prop} [Decidable q] (h : ¬ q) : bp q = .lit (.bool false) := by unfold bp; rw [decide_eq_false h]
theorem bpy {q : Prop} [Decidable q] (h : q) : bp q = .lit (.bool true) := by unfold bp; rw [decide_eq_true h]
def ixP {α : Type} (p : α → Prop) [DecidablePred p] (l : List α) : Int := if ∃ x ∈ l, p x then (l.findIdx (fun x => decide (p x)) : Int) else -1
def ownP (m : Mac) (z : Int) : Nat := P30.getD (m.regs + 2 * z).toNat 0
def twnP (m : Mac) (z : Int) : Nat := P30.getD (m.regs + 2 * z + 1).toNat 0
end Go.Mth

namespace Go.Ab
open Go.RowKit
mutual
theorem RepV.agree {H : Heap} {L L' : Loc} : ∀ {x : AV} {v : Value}, (∀ id, x.has id = true → L' id = L id) → RepV H x L v → RepV H x L' v
 | .any, _, _, _ => by simp [RepV]
 | .lit _, _, _, h => by simpa [RepV] using h
 | .sl _ _, _, _, h => by simpa [RepV] using h
 | .slc _ _ _, _, _, h => by simpa [RepV] using h
 | .agg fs, _, hn, h => by
  simp only [RepV] at h ⊢
  obtain ⟨vs, rfl, hr, h1⟩ := h
  exact ⟨vs, rfl, RepL.agree (fun id hid => hn id (by simpa [AV.has] using hid)) hr, h1⟩
 | .tup fs, _, hn, h => by
  simp only [RepV] at h ⊢
  obtain ⟨vs, rfl, hr⟩ := h
  exact ⟨vs, rfl, RepL.agree (fun id hid => hn id (by simpa [AV.has] using hid)) hr⟩
 | .ref i off, _, hn, h => by
  simp only [RepV] at h ⊢
  obtain ⟨x, g, h1, h2, h3⟩ := h
  exact ⟨x, g, by rw [hn i (by simp [AV.has])]; exact h1, h2, h3⟩
 | .row i, _, hn, h => by
  simp only [RepV] at h ⊢
  exact ⟨by rw [hn i (by simp [AV.has])]; exact h.1, h.2⟩
 | .vw i off sz n, _, hn, h => by
  simp only [RepV] at h ⊢
  obtain ⟨x, g, A, cap, h1, h2⟩ := h
  exact ⟨x, g, A, cap, by rw [hn i (by simp [AV.has])]; exact h1, h2⟩
 | .ip _, _, _, h => by simpa [RepV] using h
 | .clo f fs, _, hn, h => by
  simp only [RepV] at h ⊢
  obtain ⟨vs, rfl, hr⟩ := h
  exact ⟨vs, rfl, RepL.agree (fun id hid => hn id (by simpa [AV.has] using hid)) hr⟩
theorem RepL.agree {H : Heap} {L L' : Loc} : ∀ {xs : List AV} {vs : List Value}, (∀ id, hasL id xs = true → L' id = L id) → RepL H xs L vs → RepL H xs L' vs
 | [], _, _, h => by simpa [RepL] using h
 | x :: xs, _, hn, h => by
  simp only [RepL] at h ⊢
  obtain ⟨v, r, rfl, h1, h2⟩ := h
  exact ⟨v, r, rfl, RepV.agree (fun id hid => hn id (by simp [hasL, hid])) h1, RepL.agree (fun id hid => hn id (by simp [hasL, hid])) h2⟩
end
mutual
/-- The own objects that a value names. -/
def AV.ids : AV → List Nat
 | .ref i _ => [i]
 | .row i => [i]
 | .vw i _ _ _ => [i]
 | .agg fs => idsL fs
 | .tup fs => idsL fs
 | .clo _ fs => idsL fs
 | _ => []
def idsL : List AV → List Nat
 | [] => []
 | x :: xs => x.ids ++ idsL xs
end
mutual
theorem has_ids {id : Nat} : ∀ {x : AV}, x.has id = true → id ∈ x.ids
 | .any, h => by simp [AV.has] at h
 | .lit _, h => by simp [AV.has] at h
 | .sl _ _, h => by simp [AV.has] at h
 | .slc _ _ _, h => by simp [AV.has] at h
 | .ip _, h => by simp [AV.has] at h
 | .ref i _, h => by simp only [AV.has] at h; simp [AV.ids, Nat.eq_of_beq_eq_true h]
 | .row i, h => by simp only [AV.has] at h; simp [AV.ids, Nat.eq_of_beq_eq_true h]
 | .vw i _ _ _, h => by simp only [AV.has] at h; simp [AV.ids, Nat.eq_of_beq_eq_true h]
 | .agg fs, h => by simp only [AV.has, AV.ids] at h ⊢; exact hasL_ids h
 | .tup fs, h => by simp only [AV.has, AV.ids] at h ⊢; exact hasL_ids h
 | .clo _ fs, h => by simp only [AV.has, AV.ids] at h ⊢; exact hasL_ids h
theorem hasL_ids {id : Nat} : ∀ {xs : List AV}, hasL id xs = true → id ∈ idsL xs
 | [], h => by simp [hasL] at h
 | x :: xs, h => by
  simp only [hasL, Bool.or_eq_true] at h
  simp only [idsL, List.mem_append]
  exact h.elim (fun e => .inl (has_ids e)) (fun e => .inr (hasL_ids e))
end
def AO.ids : AO → List Nat
 | .var _ cs => idsL cs
 | .pin cs _ => idsL cs
 | _ => []
def memB (K : List Nat) (i : Nat) : Bool := K.any fun j => Nat.beq j i
def RCalls (C : Ctx) (f : FuncId) (args : List AV) (K : List Nat) (m : List (Nat × AO)) (res : AV) (m' : List (Nat × AO)) : Prop :=
 ∀ (w0 : World) (H : Heap) (L : Loc) (a : Act) (w : World) (vals : List Value), Rep C 0 w0 H L (St.sem ⟨[], m⟩) a w → RepL H args L vals →
  Calls C.P f vals.toArray w fun e w' => ∃ v H' L', e = .returned v ∧ Ext w0.heap.size H H' ∧ RepV H' res L' v ∧ Rep C 0 w0 H' L' (St.sem ⟨[], m'⟩) a w' ∧ ∀ id ∈ K, L' id = L id
def idxK : Nat → List Nat → List (Nat × AV)
 | _, [] => []
 | j, i :: r => (j, .ref i 0) :: idxK (j + 1) r
def varAt (m : List (Nat × AO)) (i : Nat) : Bool := match lookO m i with
 | some o => o.isVar
 | none => false
def keysO (m : List (Nat × AO)) : List Nat := m.map (·.1)
def pinK (K : List Nat) : AO → Bool
 | .pin cs _ => (idsL cs).all (memB K)
 | _ => false
def restB (K : List Nat) (m m' : List (Nat × AO)) (res : AV) (e : List (Nat × AO)) : Bool :=
 e.all fun p => pinK K p.2 && !memB (keysO m) p.1 && !memB (keysO m') p.1 && !memB res.ids p.1 && !memB K p.1 && m'.all fun q => !memB q.2.ids p.1
section
variable {C : Ctx} {n : Nat} {w0 : World} {ops : Array Oper} {Q : Exit → Act → World → Prop}
theorem any_soundL (r : Option Nat) {S' : SS} {N : Nat} {oz : Oper} (hoz : ops[N]? = some oz) (hN : ops.size = N + 1) (hedge : ∀ j o, ops[j]? = some o → ∀ e ∈ o.after, Region.binds .any e = true → e.on < j)
  (hsucc : ∀ j, j < N → ∃ k o, j < k ∧ ops[k]? = some o ∧ edgeB j o = true) (H0 : Heap) (hlast : ∀ (K : Act → World → Prop) (H : Heap) (L : Loc) (a : Act) (w : World), Ext w0.heap.size H0 H → Rep C n w0 H L S' a w → (∀ a' w', Q .normal a' w' → K a' w') → wpOpIn (fen r) 0 C.P ops Q N K a w) :
  ∀ (fuel : Nat) (listed : Array Bool) (R : List It) (S : SS) (H : Heap) (L : Loc) (a : Act) (w : World),
  R.length + 1 ≤ fuel → listed.size = ops.size → (∀ p ∈ R, ops[p.i]? = some p.o) → (∀ p ∈ R, p.i < N) → (∀ j, listed.getD j true = false → (∃ p ∈ R, p.i = j) ∨ j = N) → (∀ p ∈ R, listed.getD p.i true = false) → listed.getD N true = false →
  (∀ j o, ops[j]? = some o → listed.getD j true = true → ∀ e ∈ o.after, Region.binds .any e = true → listed.getD e.on true = true) →
  R.Pairwise (fun p q => p.i < q.i) → R.Pairwise (fun p q => lateB p q = true ∧ (edgeB p.i q.o = true ∨ indepB ops p q = true)) →
  (∀ p ∈ R, ∀ id ∈ p.e.fresh, S.Fresh id) → (∀ p ∈ R, ∀ d, p.o.dst = some d → d < n) → Tr C ops S R S' → Rep C n w0 H L S a w → Ext w0.heap.size H0 H → wpAnyIn (fen r) 0 C.P .any ops Q fuel listed a w := by
 intro fuel
 induction fuel with
 | zero => intro listed R S H L a w hlen; omega
 | succ fuel ih =>
  intro listed R S H L a w hlen hsz hops hlt hun hR hNu hdown hasc hpw hfr hd ht hr hx0
  have hsize : ∀ {j o}, ops[j]? = some o → j < listed.size := fun h => by rw [hsz]; exact (Array.getElem?_eq_some_iff.1 h).1
  have isList : ∀ {j : Nat}, j < listed.size → listed.getD j true ≠ false → listed.getD j true = true := fun hj hn => by cases h : listed.getD _ true with | true => rfl | false => exact absurd h hn
  refine ⟨fun hre => ?_, fun j hj => ?_⟩
  ·exfalso
   have front : ∃ j, j ∈ Region.ready .any ops listed := by
    cases R with
    | nil =>
     refine ⟨N, mem_ready.2 ⟨hNu, oz, hoz, fun e he hb => ?_⟩⟩
     have hl := hedge N oz hoz e he hb
     have hs : e.on < listed.size := by have := hsize hoz; omega
     have : listed.getD e.on true = true := isList hs fun hf => by
      rcases hun _ hf with ⟨p, hp, _⟩ | h
      ·cases hp
      ·omega
     simpa [Array.getD_eq_getD_getElem?, hs] using this
    | cons p R =>
     have hp := hops p (by simp)
     refine ⟨p.i, mem_ready.2 ⟨hR p (by simp), p.o, hp, fun e he hb => ?_⟩⟩
     have hl := hedge p.i p.o hp e he hb
     have hs : e.on < listed.size := by have := hsize hp; omega
     have : listed.getD e.on true = true := isList hs fun hf => by
      rcases hun _ hf with ⟨q, hq, hqe⟩ | h
      ·rcases List.mem_cons.1 hq with rfl | hq
       ·omega
       ·have := List.rel_of_pairwise_cons hasc hq
        omega
      ·have := hlt p (by simp)
       omega
     simpa [Array.getD_eq_getD_getElem?, hs] using this
   obtain ⟨j, hj⟩ := front
   rw [hre] at hj
   cases hj
  ·obtain ⟨hjun, oj, hoj, hall⟩ := mem_ready.1 hj
   have hall2 : ∀ e ∈ oj.after, Region.binds .any e = true → listed.getD e.on true = true := fun e he hb => by
    have h1 := hall e he hb
    have hs : e.on < listed.size := by have := hedge j oj hoj e he hb; have := hsize hoj; omega
    simp [Array.getD_eq_getD_getElem?, hs] at h1 ⊢
    exact h1
   have edge_on : ∀ {i : Nat} {o : Oper}, edgeB i o = true → ∃ e ∈ o.after, Region.binds .any e = true ∧ e.on = i := fun {i o} h => by
    simp only [edgeB, Array.any_eq_true'] at h
    obtain ⟨e, he, hb⟩ := h
    simp only [Bool.and_eq_true] at hb
    exact ⟨e, he, hb.1, Nat.eq_of_beq_eq_true hb.2⟩
   rcases hun j hjun with ⟨p, hpR, rfl⟩ | rfl
   ·have hpo := hops p hpR
    rw [hoj] at hpo
    cases hpo
    obtain ⟨R1, R2, rfl⟩ := List.append_of_mem hpR
    have hind : ∀ q ∈ R1, indepB ops q p = true := by
     intro q hq
     have := (List.pairwise_append.1 hpw).2.2 q hq p (by simp)
     rcases this.2 with h | h
     ·exfalso
      obtain ⟨e, he, hb, hon⟩ := edge_on h
      have h1 := hall2 e he hb
      rw [hon, hR q (by simp [hq])] at h1
      cases h1
     ·exact h
    obtain ⟨hstep, ht'⟩ := Tr.front R1 S ht hind
    have hsub : (R1 ++ R2).Sublist (R1 ++ p :: R2) := List.Sublist.append (List.Sublist.refl _) (List.sublist_cons_self p R2)
    have hpN := hlt p hpR
    refine hstep.sound hoj hr (hd p hpR) (hfr p hpR) (fun a' w' H' L' hx hr' => ?_) r
    refine ih (listed.setIfInBounds p.i true) (R1 ++ R2) _ H' L' a' w' (by simp at hlen ⊢; omega) (by simpa using hsz) (fun q hq => hops q (hsub.subset hq)) (fun q hq => hlt q (hsub.subset hq)) (fun k hk => ?_) (fun q hq => ?_) ?_ (fun k o ho hk e he hb => ?_) (hasc.sublist hsub) (hpw.sublist hsub) (fun q hq id hid => ?_) (fun q hq => hd q (hsub.subset hq)) ht' hr' (hx0.trans hx)
    ·have hkp : p.i ≠ k := by
      intro e
      subst e
      simp [Array.getD_eq_getD_getElem?, hsize hoj] at hk
     rw [getD_set_ne true hkp] at hk
     rcases hun k hk with ⟨q, hq, rfl⟩ | h
     ·refine .inl ⟨q, ?_, rfl⟩
      rcases List.mem_append.1 hq with hq | hq
      ·exact List.mem_append_left _ hq
      ·rcases List.mem_cons.1 hq with rfl | hq
       ·exact absurd rfl hkp
       ·exact List.mem_append_right _ hq
     ·exact .inr h
    ·have hne : p.i ≠ q.i := by
      rcases List.mem_append.1 hq with hq | hq
      ·have := (List.pairwise_append.1 hasc).2.2 q hq p (by simp)
       omega
      ·have := List.rel_of_pairwise_cons (List.pairwise_append.1 hasc).2.1 hq
       omega
     rw [getD_set_ne true hne]
     exact hR q (hsub.subset hq)
    ·rw [getD_set_ne true (by omega)]
     exact hNu
    ·have keep : ∀ i, listed.getD i true = true → (listed.setIfInBounds p.i true).getD i true = true := fun i hi => by
      by_cases hip : p.i = i
      ·subst hip; simp [Array.getD_eq_getD_getElem?, hsize hoj]
      ·rw [getD_set_ne true hip]; exact hi
     by_cases hkp : p.i = k
     ·subst hkp
      rw [hoj] at ho
      cases ho
      exact keep _ (hall2 e he hb)
     ·rw [getD_set_ne true hkp] at hk
      exact keep _ (hdown k o ho hk e he hb)
    ·have hfq := hfr q (hsub.subset hq) id hid
     rcases List.mem_append.1 hq with hq | hq
     ·have := hind q hq
      simp only [indepB, Bool.and_eq_true, List.all_eq_true, Bool.not_eq_true'] at this
      exact app_fresh hfq (this.2 id hid).1 (this.2 id hid).2
     ·have := (List.rel_of_pairwise_cons (List.pairwise_append.1 hpw).2.1 hq).1
      simp only [lateB, Bool.and_eq_true, List.all_eq_true, Bool.not_eq_true'] at this
      exact app_fresh hfq (this id hid).1 (this id hid).2
   ·rw [hoz] at hoj
    cases hoj
    have hnil : R = [] := by
     refine Decidable.byContradiction fun hne => ?_
     obtain ⟨R1, p, rfl⟩ : ∃ R1 p, R = R1 ++ [p] := ⟨R.dropLast, R.getLast hne, (List.dropLast_concat_getLast hne).symm⟩
     have hpu := hR p (by simp)
     obtain ⟨k, o, hk, hko, hke⟩ := hsucc p.i (hlt p (by simp))
     obtain ⟨e, he, hb, hon⟩ := edge_on hke
     have hks := hsize hko
     rw [hsz, hN] at hks
     by_cases hkN : k = j
     ·subst hkN
      rw [hoz] at hko
      cases hko
      have := hall2 e he hb
      rw [hon, hpu] at this
      cases this
     ·have hkl : listed.getD k true = true := isList (hsize hko) fun hf => by
       rcases hun k hf with ⟨q, hq, rfl⟩ | h
       ·rcases List.mem_append.1 hq with hq | hq
        ·have := (List.pairwise_append.1 hasc).2.2 q hq p (by simp)
         omega
        ·rw [List.mem_singleton] at hq
         subst hq
         omega
       ·exact hkN h
      have := hdown k o hko hkl e he hb
      rw [hon, hpu] at this
      cases this
    subst hnil
    cases ht
    refine hlast _ H L a w hx0 hr (fun a' w' hq => ?_)
    have hrd : Region.ready .any ops (listed.setIfInBounds j true) = [] := by
     refine List.eq_nil_iff_forall_not_mem.2 fun k hk => ?_
     have hku := (mem_ready.1 hk).1
     by_cases hkj : j = k
     ·subst hkj
      simp [Array.getD_eq_getD_getElem?, hsize hoz] at hku
     ·rw [getD_set_ne true hkj] at hku
      rcases hun k hku with ⟨q, hq, _⟩ | h
      ·cases hq
      ·exact hkj h.symm
    cases fuel with
    | zero => exact ⟨hrd, hq⟩
    | succ fuel => exact ⟨fun _ => hq, fun i hi => by rw [hrd] at hi; cases hi⟩
end
end Go.Ab

namespace Go.Ab
open Go.RowKit
def succB (N : Nat) (ops : Array Oper) : Bool := (List.range N).all fun j => (List.range (N + 1)).any fun k => Nat.blt j k && (match ops[k]? with
 | some o => edgeB j o
 | none => false)
theorem succB_spec {N : Nat} {ops : Array Oper} (h : succB N ops = true) : ∀ j, j < N → ∃ k o, j < k ∧ ops[k]? = some o ∧ edgeB j o = true := fun j hj => by
 have h1 := List.all_eq_true.1 h j (List.mem_range.2 hj)
 rw [List.any_eq_true] at h1
 obtain ⟨k, _, hk⟩ := h1
 simp only [Bool.and_eq_true] at hk
 cases ho : ops[k]? with
 | none => rw [ho] at hk; cases hk.2
 | some o => rw [ho] at hk; exact ⟨k, o, Nat.blt_eq.mp hk.1 |> fun h => h, ho, hk.2⟩
theorem awp_regionSW {C : Ctx} {n : Nat} {Q : Exit → St → Prop} {σ : St} {id : Nat} {ops : Array Oper} (k d : Nat) (y : Operand) (f : FuncId) (caps : List AV) (args : Array Operand) (tys : Array TypeId) (t : TypeId) (p : String) (af : Array Edge) (asx : List AV) (res : AV) (m' : List (Nat × AO))
  (hk : ops[k]? = some ⟨some d, .call { callee := .value y, args := args, argTypes := tys }, t, p, af, none⟩) (hkl : ops.size = k + 1) (hd : dstsB n ops.toList = true) (hb : callable C.P f = true)
  (h : aops C ops σ (ops.toList.take k) fun es σ0 => ∃ σ1, Wk C n σ0 σ1 ∧ σ1.ev y = .clo f caps ∧ args.toList.map σ1.sem.ev ++ caps = asx ∧ SCalls C n f asx σ1.slots σ1.objs res m' ∧ Q .normal ⟨(d, res) :: σ1.slots, m'⟩) :
  awp C n (.region id ops false) Q σ := fun w0 H L a w hr r => by
 obtain ⟨es, σ0, ht, σ1, hwk, hy, has, hS, hq⟩ := h
 have hdst := dsts_spec hd
 have hk' : ops.toList[k]? = some ⟨some d, .call { callee := .value y, args := args, argTypes := tys }, t, p, af, none⟩ := by simpa using hk
 have hops : ops.toList = ops.toList.take k ++ [⟨some d, .call { callee := .value y, args := args, argTypes := tys }, t, p, af, none⟩] := by
  obtain ⟨hl, hx⟩ := List.getElem?_eq_some_iff.1 hk'
  have h1 := List.take_append_drop k ops.toList
  rw [List.drop_eq_getElem_cons hl, hx, List.drop_of_length_le (by simp [hkl])] at h1
  exact h1.symm
 refine wpIn_region ?_
 rw [List.range_eq_range']
 have htl : (ops.toList.take k).length = k := by rw [List.length_take]; simp [hkl]
 have hsz : ops.size = (ops.toList.take k).length + (0 + 1) := by rw [htl, hkl]
 rw [hsz, ← List.range'_append_1, List.range'_succ]
 refine lex_prefix (C := C) (n := n) (w0 := w0) r _ (ops.toList.take k) 0 σ.sem σ0.sem es H L a w (by rw [List.drop_zero, htl]) ht hr (fun o ho => hdst o (List.mem_of_mem_take ho)) fun a2 w2 Hq Lq hxq hrq => ?_
 obtain ⟨H2, L2, hxw, hr2⟩ := hwk w0 Hq Lq a2 w2 hrq
 have hx2 := hxq.trans hxw
 simp only [Nat.zero_add]
 rw [wpOpsIn_cons, htl]
 unfold wpOpIn
 simp only [hk]
 rw [if_pos (by simp [Region.wanted])]
 have hyv := hr2.ev y
 rw [ev_sem, hy] at hyv
 simp only [RepV] at hyv
 obtain ⟨cv, hev, hcr⟩ := hyv
 have hargs : ∀ (xs : List Operand), RepL H2 (xs.map σ1.sem.ev) L2 (xs.map a2.eval) := by
  intro xs
  induction xs with
  | nil => simp only [List.map_nil, RepL]
  | cons x xs ih => simp only [List.map_cons, RepL]; exact ⟨_, _, rfl, hr2.ev x, ih⟩
 have hal := (hargs args.toList).app hcr
 rw [has] at hal
 have hc := hS w0 H2 L2 a2 w2 _ hr2 hal
 have e1 : (List.map a2.eval args.toList ++ cv).toArray = args.map a2.eval ++ cv.toArray := by apply Array.ext'; simp
 rw [e1] at hc
 refine wp_enter (run_call_val rfl hev (callable_spec hb).1 (callable_spec hb).2) (hc.mono ?_) r
 rintro e w3 ⟨v, H3, L3, rfl, hx3, hv3, hr3⟩
 refine ⟨v, rfl, ?_⟩
 have hdn : d < n := hdst ⟨some d, .call { callee := .value y, args := args, argTypes := tys }, t, p, af, none⟩ (List.mem_of_getElem? hk') d rfl
 have hv := hr3.val (dst := some d) (fun d' hd' => by cases hd'; exact hdn) (x := res) (v := v) hv3 [] []
 rw [← sem_app] at hv
 simp only [List.range'_zero]
 rw [wpOpsIn]
 exact ⟨_, H3, L3, hx2.trans hx3, hv, hq⟩
theorem SCalls.le {C : Ctx} {n : Nat} {f : FuncId} {asx as' : List AV} {so : List (Nat × AV)} {m m' : List (Nat × AO)} {res : AV} (h : ∀ H L vs, RepL H asx L vs → RepL H as' L vs) (hS : SCalls C n f as' so m res m') : SCalls C n f asx so m res m' := fun w0 H L a w vals hr hra => hS w0 H L a w vals hr (h H L vals hra)
section
variable {C : Ctx} {ops : Array Oper} {s : List (Nat × AV)} {m : List (Nat × AO)} {K : List Eff → St → Prop} {os : List Oper} {d : Nat} {t : TypeId} {p : String} {af : Array Edge} {g : Option (Nat × Bool)}
end
def lateQ (C : Ctx) (n : Nat) (Q : Exit → St → Prop) : Exit → St → Prop := fun e σ => ∃ σ', Wk C n σ σ' ∧ Q e σ'
def AO.frzVO (id : Nat) (ob : AO) : AO → AO
 | .var t c => .var t (frzVL id ob c)
 | .row e s c => .row e s c
 | .blk o => .blk o
 | .pin c us => .pin (frzVL id ob c) us
def St.seeV (σ : St) (id : Nat) (ob : AO) : St := ⟨σ.slots.map fun p => (p.1, p.2.frzV id ob), (delO σ.objs id).map fun p => (p.1, AO.frzVO id ob p.2)⟩
theorem Wk.see {C : Ctx} {n : Nat} {σ : St} {id : Nat} {t : TypeId} {cs : List AV} (h : lookO σ.objs id = some (.var t cs)) (hk : closedL cs = true) : Wk C n σ (σ.seeV id (.var t cs)) := fun w0 H L a w hr => by
 obtain ⟨g, vs, hl, hh, hrl, h1, hB, hH⟩ := hr.objs id _ h
 have hle : H.le (fun b => if b = g then some (.cells vs.toArray t (0, 0)) else H b) := fun b o hb => by
  have : b ≠ g := fun e => by subst e; rw [hH] at hb; cases hb
  simp [this, hb]
 have hheap : ∀ b o, (if b = g then some (.cells vs.toArray t (0, 0)) else H b) = some o → w.heap[b]? = some o := fun b o hb => by
  by_cases hbg : b = g
  ·subst hbg; simp at hb; subst hb; exact hh
  ·simp [hbg] at hb; exact hr.heap b o hb
 have hseen : Seen (fun b => if b = g then some (.cells vs.toArray t (0, 0)) else H b) (.var t cs) (.pointer (some ⟨g, 0, none⟩)) := ⟨fun e' sz' cs' he => (by cases he), fun g' hg => by
  simp only [ownB, Option.some.injEq] at hg
  subst hg
  exact ⟨vs.toArray, t, (0, 0), vs, by simp, fun j u hu => by simpa using hu, RepL.mono hle (Loc.le_refl _) (RepL.closed hk hrl), h1⟩⟩
 have r2 := hr.hide h hl hle hheap fun g' hg' => by
  have : g' ≠ g := fun e => hg' (by rw [e]; rfl)
  simp [this]
 have old : ∀ {i : Nat} {o : AO}, lookO ((delO σ.objs id).map fun p => (p.1, AO.frzVO id (.var t cs) p.2)) i = some o → ∃ o0, o = AO.frzVO id (.var t cs) o0 ∧ i ≠ id ∧ lookO σ.objs i = some o0 := fun {i o} hi => by
  rw [lookO_map (fun x => AO.frzVO id (.var t cs) x), lookO_del] at hi
  by_cases hid : i = id
  ·rw [if_pos hid] at hi; cases hi
  ·rw [if_neg hid] at hi
   cases ho : lookO σ.objs i with
   | none => rw [ho] at hi; cases hi
   | some o0 => rw [ho] at hi; cases hi; exact ⟨o0, rfl, hid, rfl⟩
 have mu : ∀ {i : Nat} {o0 : AO}, i ≠ id → lookO σ.objs i = some o0 → (fun j => if j = id then none else (St.sem σ).μ j) i = some o0 := fun hne ho => by simp [hne]; exact ho
 refine ⟨_, L, ⟨hle, fun b hb => ?_⟩, ⟨r2.glob, r2.heap, r2.size, fun i => ?_, fun i o ho => ?_, fun i j o o' gg x x' hne ho ho' hx hx' hg => ?_, r2.below, r2.defers⟩⟩
 ·have : b ≠ g := fun e => by omega
  simp [this]
 ·show RepV _ (look (σ.slots.map fun p => (p.1, p.2.frzV id (.var t cs))) i) L _
  rw [look_map (fun x => x.frzV id (.var t cs)) rfl]
  exact RepV.frzV (Heap.le_refl _) hseen hl (r2.slot i)
 ·obtain ⟨o0, rfl, hne, ho0⟩ := old ho
  have h2 := r2.objs i o0 (mu hne ho0)
  cases o0 with
  | var t' c =>
   obtain ⟨g2, us, a1, a2, a3, a4, a5, a6⟩ := h2
   exact ⟨g2, us, a1, a2, RepL.frzV (Heap.le_refl _) hseen hl a3, a4, a5, a6⟩
  | row e s c => exact h2
  | blk o => exact h2
  | pin c us => exact ⟨h2.1, RepL.frzV (Heap.le_refl _) hseen hl h2.2⟩
 ·obtain ⟨o0, rfl, hne0, ho0⟩ := old ho
  obtain ⟨o1, rfl, hne1, ho1⟩ := old ho'
  exact r2.apart i j o0 o1 gg x x' hne (mu hne0 ho0) (mu hne1 ho1) hx hx' hg
end Go.Ab

namespace Go.Ab
open Go.RowKit
section
variable {C : Ctx} {ops : Array Oper} {s : List (Nat × AV)} {m : List (Nat × AO)} {K : List Eff → St → Prop} {os : List Oper} {d : Nat} {t : TypeId} {p : String} {af : Array Edge} {g : Option (Nat × Bool)}
theorem g_indexRow {α : Type} {ty : TypeId} {x y : Operand} {e e' n by' id : Nat} {kk' : IntKind} (c : α → List AV) (l : List α) (i : Nat) (hc : ∀ x, (c x).length = n) (hn : Nat.blt 0 n = true) (hg : Gd ops s g) (ht : tyElem C.P ty = some (e, n, by')) (hx : ev s x = .row id) (ho : lookO m id = some (.row e' n (gcells c l))) (hy : ev s y = nm kk' i) (h1 : i < l.length)
  (kk : aops C ops ⟨(d, .ref id (i * n)) :: s, m⟩ os fun es σ' => K ({ val := .ref id (i * n), use := [id] } :: es) σ') : aops C ops ⟨s, m⟩ (⟨some d, .indexAddr ty x y, t, p, af, g⟩ :: os) K := by
 have := Step.indexRow (C := C) (S := St.sem ⟨s, m⟩) (o := ⟨some d, .indexAddr ty x y, t, p, af, g⟩) ty x y e e' id n by' (gcells c l) kk' (i : Int) rfl ht (by rw [ev_st]; exact hx) ho (by rw [ev_st]; exact hy) (by omega) (by rw [gcells_len hc, Int.toNat_natCast]; rw [Nat.blt_eq] at hn; exact Nat.mul_lt_mul_of_pos_right h1 hn)
 rw [Int.toNat_natCast] at this
 exact o_val hg this kk
theorem g_loadRowA {α : Type} {ty : TypeId} {x : Operand} {n id e' : Nat} (c : α → List AV) (l : List α) (i : Nat) (dflt : α) (hc : ∀ x, (c x).length = n) (hg : Gd ops s g) (ht : tyAgg C.P ty = some n) (hx : ev s x = .ref id (i * n)) (ho : lookO m id = some (.row e' n (gcells c l))) (h1 : i < l.length)
  (kk : aops C ops ⟨(d, .agg (c (l.getD i dflt))) :: s, m⟩ os fun es σ' => K ({ val := .agg (c (l.getD i dflt)), use := [id] } :: es) σ') : aops C ops ⟨s, m⟩ (⟨some d, .load ty x, t, p, af, g⟩ :: os) K :=
 o_loadA _ hg ht hx ho rfl (by
  rw [Nat.ble_eq]
  show i * n + n ≤ (gcells c l).length
  rw [gcells_len hc, ← Nat.succ_mul]
  exact Nat.mul_le_mul_right _ h1) (by
  show ((gcells c l).drop (i * n)).take n = _
  rw [gcells_drop hc dflt l i h1, ← hc (l.getD i dflt)]
  exact List.take_left) kk
end
def idxX : Nat → List (Nat × Bool) → List (Nat × AV)
 | _, [] => []
 | j, (i, b) :: r => (j, bif b then .row i else .ref i 0) :: idxX (j + 1) r
def rowAt (m : List (Nat × AO)) (i : Nat) : Bool := match lookO m i with
 | some (.row ..) => true
 | _ => false
def okX (m m' : List (Nat × AO)) (p : Nat × Bool) : Bool := bif p.2 then rowAt m p.1 else varAt m p.1 && varAt m' p.1
end Go.Ab

namespace Go.Mth
open Go.Ab
instance : Inhabited FrZ := ⟨⟨0, 1⟩⟩
instance : Inhabited LinZ := ⟨oneZ⟩
def cK (k : IntKind) (z : Int) : List AV := [bp (z < 0), .sl 1 (ns k (digs z.natAbs))]
def cW (z : Int) : List AV := cK .u32 z
def cN (z : Int) : List AV := cK .i64 z
def cQ (f : FrZ) : List AV := cK .u32 f.num ++ cK .u32 f.den
def cR (f : FrZ) : List AV := cK .i64 f.num ++ cK .i64 f.den
def cV (l : List Int) : List AV := [.sl 2 (gcells cW l)]
def cM (l : List Int) : List AV := [.sl 2 (gcells cN l)]
def cP (l : List Int) : List AV := [.sl 1 (sbs (l.map txt))]
def cJ (l : LinZ) : List AV := cK .i64 l.mul ++ cK .i64 l.add ++ cK .i64 l.div
theorem cW_len : ∀ x, (cW x).length = 2 := fun _ => rfl
theorem cV_len : ∀ x, (cV x).length = 1 := fun _ => rfl
theorem cP_len : ∀ x, (cP x).length = 1 := fun _ => rfl
def frW (f : FrZ) : AV := .agg (cQ f)
def frR (f : FrZ) : AV := .agg (cR f)
theorem row_gs' {α : Type} {e : TypeId} {n : Nat} {c : α → List AV} {xs ys : List α} (h : xs = ys) : (some (AO.row e n (gcells c xs)) : Option AO) = some (AO.row e n (gcells c ys)) := by rw [h]
theorem gs_as {α : Type} {n : Nat} {c : α → List AV} {xs ys : List α} (h : xs = ys) : AV.sl n (gcells c xs) = AV.sl n (gcells c ys) := by rw [h]
theorem sgn_lt0 {z : Int} : sgn z < 0 ↔ z < 0 := by unfold sgn; split <;> (try split) <;> omega
theorem gcd_pos {n d : Int} (hd : d ≠ 0) : (0 : Int) < ((Int.gcd n d : Nat) : Int) := by have := Int.gcd_pos_of_ne_zero_right n hd; omega
theorem gcd_len {n d : Int} (hd : d ≠ 0) : (digs (((Int.gcd n d : Nat) : Int)).natAbs).length ≤ (digs d.natAbs).length := digs_len_le (abs_of_dvd (Int.gcd_dvd_right n d) hd)
theorem red_n {n d : Int} (h : d < 0) : redZ n d = redP (-n) (-d) := if_pos h
theorem red_p {n d : Int} (h : ¬ d < 0) : redZ n d = redP n d := if_neg h
def frT (f : FrZ) : Frc := ⟨txt f.num, txt f.den⟩
def noF : Frc := ⟨noS, noS⟩
noncomputable def cycE (m : MapM) (w : List Int) : Nat := if okM m = true then if freeM m ∧ OkW m w ∧ w ≠ [] then 0 else 2 else 1
noncomputable def fxF (m : MapM) (w : List Int) : Frc := if cycE m w = 0 then frT (fixZ m w) else noF
def trL (m : MapM) (w : List Int) (i : Nat) : List Frc := (List.range i).map fun j => frT (trnZ m w (fixZ m w) j)
noncomputable def tnL (m : MapM) (w : List Int) : List Frc := if cycE m w = 0 then trL m w w.length else []
theorem cyc_1 {m : MapM} {w : List Int} (h : ¬ okM m = true) : cycE m w = 1 := by unfold cycE; rw [if_neg h]
theorem cyc_2 {m : MapM} {w : List Int} (h : okM m = true) (h2 : ¬ (freeM m ∧ OkW m w ∧ w ≠ [])) : cycE m w = 2 := by unfold cycE; rw [if_pos h, if_neg h2]
theorem cyc_0 {m : MapM} {w : List Int} (h : okM m = true) (h2 : freeM m ∧ OkW m w ∧ w ≠ []) : cycE m w = 0 := by unfold cycE; rw [if_pos h, if_pos h2]
theorem cyc_0' {m : MapM} {w : List Int} (h : cycE m w = 0) : OkM m ∧ freeM m ∧ OkW m w ∧ w ≠ [] := by
 unfold cycE at h
 split at h
 ·rename_i hm
  split at h
  ·rename_i h2; exact ⟨okM_iff.1 hm, h2⟩
  ·cases h
 ·cases h
theorem fxF_no {m : MapM} {w : List Int} (h : cycE m w ≠ 0) : fxF m w = noF ∧ tnL m w = [] := ⟨if_neg h, if_neg h⟩
theorem fxF_ok {m : MapM} {w : List Int} (h : cycE m w = 0) : fxF m w = frT (fixZ m w) ∧ tnL m w = trL m w w.length := ⟨if_pos h, if_pos h⟩
def tzL (m : MapM) (w : List Int) (i : Nat) : List FrZ := (List.range i).map fun j => trnZ m w (fixZ m w) j
end Go.Mth

