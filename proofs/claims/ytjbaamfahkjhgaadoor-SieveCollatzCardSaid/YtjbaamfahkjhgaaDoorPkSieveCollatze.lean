/- The law 'katabasislaw04.SieveCollatz' is true for every number k: for Collatz's map a rest modulo 2^(k + 1) is left only if its rest modulo 2^k is left, and 2^k - 1 is always left. Its condition: none but the row's own (the listed tables of the library). -/
import Derived.Test.YtjbaamfahkjhgaaDoorPkSieveCollatzd
set_option linter.unusedVariables false
set_option linter.unusedSimpArgs false
namespace Go.Proofs.YtjbaamfahkjhgaaDoor
open Go Go.Ab Go.Mth
theorem f100_ : callable cx.P 12 = true := by kernel_rfl
theorem f101_ : callable cx.P 13 = true := by kernel_rfl
theorem f102_ : tySc cx.P 28 = true := by kernel_rfl
theorem f103_ : callable cx.P 14 = true := by kernel_rfl
theorem f104_ : tySize cx.P 28 = some 1 := by kernel_rfl
theorem f105_ : tySize cx.P 22 = some 1 := by kernel_rfl
theorem f106_ : tySc cx.P 42 = true := by kernel_rfl
theorem f107_ : callable cx.P 20 = true := by kernel_rfl
theorem f108_ : callable cx.P 11 = true := by kernel_rfl
theorem c_clone (l : List Int) (hl : 0 < l.length) (hb : l.length ≤ 1000) : ECallsM cx 20 [Lv l] (.row 701) 701 3 1 (is .i64 l) := by
 refine ecallsM_of_awp Tryd.func20 (c := _) rfl (Nat.le_of_ble_eq_true rfl) ?_
 show awp cx 8 _ (postM cx Tryd.f20 _ 701 3 1 (is .i64 l)) ⟨[(0, Lv l)], []⟩
 refine awp_seq fun K0 hK0 => awp_region rfl (o_as Zv rfl (aops_end (hK0 _ (awp_seq fun K1 hK1 => awp_seq fun K2 hK2 => awp_region rfl (o_mv (Lv l) rfl ?_)))))
 refine o_eqlNilSl gn f37_ rfl rfl (by simp [is, ns]; omega) ?_
 refine aops_end (hK2 _ ?_)
 refine awp_condB (b := false) rfl (fun hh => absurd (hh.symm.trans rfl) (by decide)) (fun _ => ?_)
 refine awp_skip (hK1 _ (awp_seq fun K3 hK3 => awp_region rfl ?_))
 refine o_buildSlice 2 (is .i64 ([])) [] gn f38_ rfl f47_ rfl rfl rfl rfl rfl rfl rfl ?_
 refine o_mv (Lv l) rfl ?_
 refine i_appendSl 3 ([]) l [] gn f38_ f47_ rfl rfl rfl rfl (by simp only [List.length_append, List.length_cons, List.length_nil]; omega) (by decide) rfl rfl ?_
 refine o_as (.row 3) rfl (aops_end (hK3 _ ?_))
 refine awp_wk (σ' := ⟨[(2, .row 3)], [(3, .row 3 1 (is .i64 l))]⟩) (Wk.sub ⟨rfl, trivial⟩ ⟨rfl, trivial⟩) ?_
 refine awp_wk (σ' := ⟨[(2, .row 701)], [(701, .row 3 1 (is .i64 l))]⟩) (Wk.ren (id := 3) (id' := 701) rfl) ?_
 refine awp_ret ?_
 refine postM_ret ⟨[.row 701], ⟨AV.le_refl _, trivial⟩, rfl, rfl, ?_⟩
 rfl

theorem c_clone0  : ECalls cx 20 [Zv] Zv := by
 refine ecalls_of_awp Tryd.func20 (c := _) rfl (Nat.le_of_ble_eq_true rfl) ?_
 show awp cx 8 _ (postF cx Tryd.f20 _) ⟨[(0, Zv)], []⟩
 refine awp_seq fun K0 hK0 => awp_region rfl (o_as Zv rfl (aops_end (hK0 _ (awp_seq fun K1 hK1 => awp_seq fun K2 hK2 => awp_region rfl (o_mv Zv rfl ?_)))))
 refine o_eqlNN gn f37_ rfl rfl ?_
 refine aops_end (hK2 _ ?_)
 refine awp_condB (b := true) rfl (fun _ => ?_) (fun hh => absurd (hh.symm.trans rfl) (by decide))
 refine awp_seq fun K3 hK3 => awp_region rfl (o_as Zv rfl (aops_end (hK3 _ ?_)))
 refine awp_ret ?_
 refine post_ret ⟨[Zv], ⟨AV.le_refl _, trivial⟩, rfl, ?_⟩
 rfl

theorem c_visit (m : MapM) (k : Nat) (hM : OkM m) (hk : k ≤ 16) (hpk : m.mod ^ k ≤ 65536) : ∀ (d n : Nat) (r : Int) (F : List Fal) (L : List Int), n + d = k → 1 ≤ n → 0 ≤ r → r < m.mod ^ n → F.length + m.mod.toNat ^ d ≤ 1000000 → L.length + m.mod.toNat ^ d ≤ 1000000 →
  RCalls cx 11 [Iv r, Iv (m.mod ^ n), Lv (wordZ m r n), mIv m, .ref 2 0, .ip [Nv k], .ref 3 0, .ref 4 0] [2, 3, 4] [v2v, r0v F, v3v, r1v L, c4v m k] (.tup []) [v2v, r0v (F ++ ((visA m d n r).1)), v3v, r1v (L ++ ((visA m d n r).2)), c4v m k] := by
 intro d
 induction d using Nat.strongRecOn
 rename_i d ih
 intro n r F L hnd hn1 hr0 hr1 hFl hLl
 refine rcalls_of_s (scalls_of_awpB 9009 Tryd.func11 (c := _) rfl (Nat.le_of_ble_eq_true rfl) rfl rfl rfl (fun us => ?_)) rfl
 refine awp_late ?_
 show awp cx 98 _ (lateQ cx 98 (postS cx Tryd.f11 (.tup []) [v2v, r0v (F ++ ((visA m d n r).1)), v3v, r1v (L ++ ((visA m d n r).2)), c4v m k] 9009 [.ref 2 0, .ref 3 0, .ref 4 0] us)) ⟨[(0, Iv r), (1, Iv (m.mod ^ n)), (2, Lv (wordZ m r n)), (3, mIv m), (4, .ref 2 0), (5, .ip [Nv k]), (6, .ref 3 0), (7, .ref 4 0)], [(9009, .pin [.ref 2 0, .ref 3 0, .ref 4 0] us), v2v, r0v F, v3v, r1v L, c4v m k]⟩
 have hM2 := hM
 obtain ⟨o1, o2, o3, o4, o5⟩ := hM2
 have hpp : 0 < m.mod ^ n := Int.pow_pos (by omega)
 have hpn := pow_le_of hM (j := n) (k := k) (by omega)
 have hW := wordZ_is hM r n
 have hWl := wordZ_len m r n
 obtain ⟨L1, L2, L3⟩ := line_len hM _ hW
 have hpd : 0 < m.mod.toNat ^ d := Nat.pow_pos (by omega)
 have hrl := small_len (z := r) (by omega)
 have hil := iter_len hM r n
 have hdv : 0 < (lineZ m (wordZ m r n)).div := by rw [lineZ_div]; exact Int.pow_pos (by omega)
 have hm0 := len_mulZ (lineZ m (wordZ m r n)).mul r
 have ha0 := len_addZ ((lineZ m (wordZ m r n)).mul * r) (lineZ m (wordZ m r n)).add
 refine awp_seq fun K0 hK0 => awp_region rfl ?_
 refine o_loadIA [Iv m.mod, Lv m.mul, Lv m.add] gn f50_ rfl (Nat.le_of_ble_eq_true rfl) rfl ?_
 refine o_mv (Lv (wordZ m r n)) rfl ?_
 refine o_ct (c_oOf m (wordZ m r n) (by first | assumption | exact okM_iff.1 (by assumption)) (by first | assumption | exact (by assumption : OkW _ _).1 | exact isW_take (by assumption : OkW _ _).1 _) (by first | omega | exact (by assumption : OkW _ _).2)) gn f100_ rfl ?_
 refine o_alloc 1001 [Fv, Zv, Fv, Zv, Fv, Zv] gn f55_ rfl rfl rfl ?_
 refine o_store [(1001, .var 47 [Bv ((lineZ m (wordZ m r n)).mul), Dv ((lineZ m (wordZ m r n)).mul), Bv ((lineZ m (wordZ m r n)).add), Dv ((lineZ m (wordZ m r n)).add), Bv ((lineZ m (wordZ m r n)).div), Dv ((lineZ m (wordZ m r n)).div)]), (9009, .pin [.ref 2 0, .ref 3 0, .ref 4 0] us), v2v, r0v F, v3v, r1v L, c4v m k] gn f57_ rfl rfl rfl rfl rfl rfl ?_
 refine aops_end (hK0 _ (awp_seq fun K1 hK1 => ?_))
 refine awp_block ?_
 refine awp_seq fun K2 hK2 => awp_region rfl (o_mv (Lv (wordZ m r n)) rfl ?_)
 refine i_len (wordZ m r n) gn f37_ rfl ?_
 refine n_as (v' := (Nv n)) (congrArg (nm _) (by exact wordZ_len m r n)) ?_
 refine n_gtr n 0 gn rfl rfl ?_
 refine n_as (v' := Tv) (by exact bpy hn1) ?_
 refine o_mv Tv rfl ?_
 refine o_fieldRef 0 (Gd.yes rfl rfl rfl) f59_ rfl rfl ?_
 refine o_loadA [Bv ((lineZ m (wordZ m r n)).mul), Dv ((lineZ m (wordZ m r n)).mul)] (Gd.yes rfl rfl rfl) f10_ rfl rfl rfl rfl rfl ?_
 refine o_fieldRef 4 (Gd.yes rfl rfl rfl) f61_ rfl rfl ?_
 refine o_loadA [Bv ((lineZ m (wordZ m r n)).div), Dv ((lineZ m (wordZ m r n)).div)] (Gd.yes rfl rfl rfl) f10_ rfl rfl rfl rfl rfl ?_
 refine o_ct (c_wCmp ((lineZ m (wordZ m r n)).mul) ((lineZ m (wordZ m r n)).div)) (Gd.yes rfl rfl rfl) f101_ rfl ?_
 refine o_lss (a := (cmpZ ((lineZ m (wordZ m r n)).mul) ((lineZ m (wordZ m r n)).div))) (c := ((0 : Nat) : Int)) (Gd.yes rfl rfl rfl) rfl rfl ?_
 refine o_pickT (bp ((cmpZ ((lineZ m (wordZ m r n)).mul) ((lineZ m (wordZ m r n)).div)) < ((0 : Nat) : Int))) gn rfl rfl rfl ?_
 refine o_as (bp ((cmpZ ((lineZ m (wordZ m r n)).mul) ((lineZ m (wordZ m r n)).div)) < ((0 : Nat) : Int))) rfl (aops_end (hK2 _ ?_))
 refine awp_condQ (q := (cmpZ ((lineZ m (wordZ m r n)).mul) ((lineZ m (wordZ m r n)).div)) < ((0 : Nat) : Int)) rfl (fun h1 => ?_) (fun h1 => ?_)
 ·have hf : fallN m r n := ⟨hn1, lcmp.1 h1⟩
  have hdm : 0 < (lineZ m (wordZ m r n)).div - (lineZ m (wordZ m r n)).mul := by have := hf.2; unfold fallsW at this; omega
  refine awp_seq fun K3 hK3 => awp_regionD rfl ?_
  refine o_loadS (.row 20) gn f102_ rfl rfl rfl ?_
  refine o_mv (Lv (wordZ m r n)) rfl ?_
  refine i_len (wordZ m r n) gn f37_ rfl ?_
  refine n_as (v' := (Nv n)) (congrArg (nm _) (by exact wordZ_len m r n)) ?_
  refine o_mv (Iv r) rfl ?_
  refine o_loadA [Bv ((lineZ m (wordZ m r n)).mul), Dv ((lineZ m (wordZ m r n)).mul), Bv ((lineZ m (wordZ m r n)).add), Dv ((lineZ m (wordZ m r n)).add), Bv ((lineZ m (wordZ m r n)).div), Dv ((lineZ m (wordZ m r n)).div)] gn f62_ rfl rfl rfl rfl rfl ?_
  refine o_ct (c_sfall ((n : Nat) : Int) r (lineZ m (wordZ m r n)) (by first | omega | assumption) (by first | omega | assumption) (by first | omega | assumption) (by omega)) gn f103_ rfl ?_
  refine o_buildSlice 1002 (gcells cL ([(falO ((n : Nat) : Int) r (lineZ m (wordZ m r n)))])) [(0, [(Iv ((falO ((n : Nat) : Int) r (lineZ m (wordZ m r n))).steps)), (Iv ((falO ((n : Nat) : Int) r (lineZ m (wordZ m r n))).rest)), (Sv ((falO ((n : Nat) : Int) r (lineZ m (wordZ m r n))).lmul)), (Sv ((falO ((n : Nat) : Int) r (lineZ m (wordZ m r n))).ladd)), (Sv ((falO ((n : Nat) : Int) r (lineZ m (wordZ m r n))).ldiv)), (Sv ((falO ((n : Nat) : Int) r (lineZ m (wordZ m r n))).bound))])] gn f76_ rfl f70_ rfl rfl rfl rfl rfl rfl rfl ?_
  refine g_append cL 1003 F ([(falO ((n : Nat) : Int) r (lineZ m (wordZ m r n)))]) [(1002, (.row 37 6 (gcells cL ([(falO ((n : Nat) : Int) r (lineZ m (wordZ m r n)))])))), (1001, .var 47 [Bv ((lineZ m (wordZ m r n)).mul), Dv ((lineZ m (wordZ m r n)).mul), Bv ((lineZ m (wordZ m r n)).add), Dv ((lineZ m (wordZ m r n)).add), Bv ((lineZ m (wordZ m r n)).div), Dv ((lineZ m (wordZ m r n)).div)]), (9009, .pin [.ref 2 0, .ref 3 0, .ref 4 0] us), v2v, v3v, r1v L, c4v m k] cL_len rfl gn f76_ f70_ rfl rfl rfl rfl rfl (by simp only [List.length_append, List.length_cons, List.length_nil]; omega) (by simp only [List.length_append, List.length_cons, List.length_nil]; omega) rfl rfl ?_
  refine o_store [(1003, (.row 37 6 (gcells cL (F ++ ([(falO ((n : Nat) : Int) r (lineZ m (wordZ m r n)))]))))), (1002, (.row 37 6 (gcells cL ([(falO ((n : Nat) : Int) r (lineZ m (wordZ m r n)))])))), (1001, .var 47 [Bv ((lineZ m (wordZ m r n)).mul), Dv ((lineZ m (wordZ m r n)).mul), Bv ((lineZ m (wordZ m r n)).add), Dv ((lineZ m (wordZ m r n)).add), Bv ((lineZ m (wordZ m r n)).div), Dv ((lineZ m (wordZ m r n)).div)]), (9009, .pin [.ref 2 0, .ref 3 0, .ref 4 0] us), (2, .var 28 [.row 1003]), v3v, r1v L, c4v m k] gn f104_ rfl rfl rfl rfl rfl rfl ?_
  refine aops_end ⟨by kernel_rfl, ?_⟩
  refine hK3 _ ?_
  refine awp_ret ?_
  exact ⟨⟨[], [(9009, .pin [.ref 2 0, .ref 3 0, .ref 4 0] us), v2v, r0v (F ++ ((visA m d n r).1)), v3v, r1v (L ++ ((visA m d n r).2)), c4v m k]⟩, Wk.trans (Wk.sub (σ' := ⟨[], [(9009, .pin [.ref 2 0, .ref 3 0, .ref 4 0] us), (2, .var 28 [.row 1003]), (1003, (.row 37 6 (gcells cL (F ++ ([(falO ((n : Nat) : Int) r (lineZ m (wordZ m r n)))]))))), v3v, r1v L, c4v m k]⟩) trivial ⟨rfl, rfl, rfl, rfl, rfl, rfl, trivial⟩) (Wk.trans (Wk.ren (id := 1003) (id' := 20) rfl) (Wk.sub trivial ⟨(by first | rfl | (first | exact row_gs' (by rw [vis_fall hf]) | exact row_is (by rw [vis_fall hf]; simp) | exact row_gs' (by rw [vis_left hf hd0]; simp) | exact row_is (by rw [vis_left hf hd0]) | exact row_gs' (List.append_assoc _ _ _) | exact row_is (List.append_assoc _ _ _) | exact row_gs' (List.append_nil _).symm | exact row_is (List.append_nil _).symm | exact row_gs' (by rw [hme, show m.mod.toNat = t by omega]) | exact row_is (by rw [hme, show m.mod.toNat = t by omega]))), (by first | rfl | (first | exact row_gs' (by rw [vis_fall hf]) | exact row_is (by rw [vis_fall hf]; simp) | exact row_gs' (by rw [vis_left hf hd0]; simp) | exact row_is (by rw [vis_left hf hd0]) | exact row_gs' (List.append_assoc _ _ _) | exact row_is (List.append_assoc _ _ _) | exact row_gs' (List.append_nil _).symm | exact row_is (List.append_nil _).symm | exact row_gs' (by rw [hme, show m.mod.toNat = t by omega]) | exact row_is (by rw [hme, show m.mod.toNat = t by omega]))), (by first | rfl | exact row_ns (by simp) | (first | exact row_gs' (by rw [vis_fall hf]) | exact row_is (by rw [vis_fall hf]; simp) | exact row_gs' (by rw [vis_left hf hd0]; simp) | exact row_is (by rw [vis_left hf hd0]) | exact row_gs' (List.append_assoc _ _ _) | exact row_is (List.append_assoc _ _ _) | exact row_gs' (List.append_nil _).symm | exact row_is (List.append_nil _).symm | exact row_gs' (by rw [hme, show m.mod.toNat = t by omega]) | exact row_is (by rw [hme, show m.mod.toNat = t by omega]))), (by first | rfl | (first | exact row_gs' (by rw [vis_fall hf]) | exact row_is (by rw [vis_fall hf]; simp) | exact row_gs' (by rw [vis_left hf hd0]; simp) | exact row_is (by rw [vis_left hf hd0]) | exact row_gs' (List.append_assoc _ _ _) | exact row_is (List.append_assoc _ _ _) | exact row_gs' (List.append_nil _).symm | exact row_is (List.append_nil _).symm | exact row_gs' (by rw [hme, show m.mod.toNat = t by omega]) | exact row_is (by rw [hme, show m.mod.toNat = t by omega]))), (by first | rfl | exact row_ns (by simp) | (first | exact row_gs' (by rw [vis_fall hf]) | exact row_is (by rw [vis_fall hf]; simp) | exact row_gs' (by rw [vis_left hf hd0]; simp) | exact row_is (by rw [vis_left hf hd0]) | exact row_gs' (List.append_assoc _ _ _) | exact row_is (List.append_assoc _ _ _) | exact row_gs' (List.append_nil _).symm | exact row_is (List.append_nil _).symm | exact row_gs' (by rw [hme, show m.mod.toNat = t by omega]) | exact row_is (by rw [hme, show m.mod.toNat = t by omega]))), (by first | rfl | (first | exact row_gs' (by rw [vis_fall hf]) | exact row_is (by rw [vis_fall hf]; simp) | exact row_gs' (by rw [vis_left hf hd0]; simp) | exact row_is (by rw [vis_left hf hd0]) | exact row_gs' (List.append_assoc _ _ _) | exact row_is (List.append_assoc _ _ _) | exact row_gs' (List.append_nil _).symm | exact row_is (List.append_nil _).symm | exact row_gs' (by rw [hme, show m.mod.toNat = t by omega]) | exact row_is (by rw [hme, show m.mod.toNat = t by omega]))), trivial⟩)), ⟨[], trivial, rfl, fun id ob h => keep_pin h rfl, rfl⟩⟩
 ·have hf : ¬ fallN m r n := fun e => h1 (lcmp.2 e.2)
  refine awp_seq fun K4 hK4 => awp_region rfl (o_mv (Lv (wordZ m r n)) rfl ?_)
  refine i_len (wordZ m r n) gn f37_ rfl ?_
  refine n_as (v' := (Nv n)) (congrArg (nm _) (by exact wordZ_len m r n)) ?_
  refine o_loadIS (Nv k) gn f39_ rfl rfl ?_
  refine n_eql n k gn rfl rfl ?_
  refine o_as (bp (n = k)) rfl (aops_end (hK4 _ ?_))
  refine awp_condQ (q := n = k) rfl (fun h2 => ?_) (fun h2 => ?_)
  ·have hd0 : d = 0 := by omega
   refine awp_seq fun K5 hK5 => awp_region rfl ?_
   refine o_loadS (.row 21) gn f42_ rfl rfl rfl ?_
   refine o_mv (Iv r) rfl ?_
   refine o_buildSlice 1002 (is .i64 ([r])) [(0, [Iv r])] gn f38_ rfl f47_ rfl rfl rfl rfl rfl rfl rfl ?_
   refine i_append 1003 L ([r]) [(1002, .row 3 1 (is .i64 ([r]))), (1001, .var 47 [Bv ((lineZ m (wordZ m r n)).mul), Dv ((lineZ m (wordZ m r n)).mul), Bv ((lineZ m (wordZ m r n)).add), Dv ((lineZ m (wordZ m r n)).add), Bv ((lineZ m (wordZ m r n)).div), Dv ((lineZ m (wordZ m r n)).div)]), (9009, .pin [.ref 2 0, .ref 3 0, .ref 4 0] us), v2v, r0v F, v3v, c4v m k] gn f38_ f47_ rfl rfl rfl rfl rfl (by simp only [List.length_append, List.length_cons, List.length_nil]; omega) (by decide) rfl rfl ?_
   refine o_store [(1003, .row 3 1 (is .i64 (L ++ ([r])))), (1002, .row 3 1 (is .i64 ([r]))), (1001, .var 47 [Bv ((lineZ m (wordZ m r n)).mul), Dv ((lineZ m (wordZ m r n)).mul), Bv ((lineZ m (wordZ m r n)).add), Dv ((lineZ m (wordZ m r n)).add), Bv ((lineZ m (wordZ m r n)).div), Dv ((lineZ m (wordZ m r n)).div)]), (9009, .pin [.ref 2 0, .ref 3 0, .ref 4 0] us), v2v, r0v F, (3, .var 22 [.row 1003]), c4v m k] gn f105_ rfl rfl rfl rfl rfl rfl ?_
   refine aops_end (hK5 _ ?_)
   refine awp_ret ?_
   exact ⟨⟨[], [(9009, .pin [.ref 2 0, .ref 3 0, .ref 4 0] us), v2v, r0v (F ++ ((visA m d n r).1)), v3v, r1v (L ++ ((visA m d n r).2)), c4v m k]⟩, Wk.trans (Wk.sub (σ' := ⟨[], [(9009, .pin [.ref 2 0, .ref 3 0, .ref 4 0] us), v2v, r0v F, (3, .var 22 [.row 1003]), (1003, .row 3 1 (is .i64 (L ++ ([r])))), c4v m k]⟩) trivial ⟨rfl, rfl, rfl, rfl, rfl, rfl, trivial⟩) (Wk.trans (Wk.ren (id := 1003) (id' := 21) rfl) (Wk.sub trivial ⟨(by first | rfl | (first | exact row_gs' (by rw [vis_fall hf]) | exact row_is (by rw [vis_fall hf]; simp) | exact row_gs' (by rw [vis_left hf hd0]; simp) | exact row_is (by rw [vis_left hf hd0]) | exact row_gs' (List.append_assoc _ _ _) | exact row_is (List.append_assoc _ _ _) | exact row_gs' (List.append_nil _).symm | exact row_is (List.append_nil _).symm | exact row_gs' (by rw [hme, show m.mod.toNat = t by omega]) | exact row_is (by rw [hme, show m.mod.toNat = t by omega]))), (by first | rfl | (first | exact row_gs' (by rw [vis_fall hf]) | exact row_is (by rw [vis_fall hf]; simp) | exact row_gs' (by rw [vis_left hf hd0]; simp) | exact row_is (by rw [vis_left hf hd0]) | exact row_gs' (List.append_assoc _ _ _) | exact row_is (List.append_assoc _ _ _) | exact row_gs' (List.append_nil _).symm | exact row_is (List.append_nil _).symm | exact row_gs' (by rw [hme, show m.mod.toNat = t by omega]) | exact row_is (by rw [hme, show m.mod.toNat = t by omega]))), (by first | rfl | exact row_ns (by simp) | (first | exact row_gs' (by rw [vis_fall hf]) | exact row_is (by rw [vis_fall hf]; simp) | exact row_gs' (by rw [vis_left hf hd0]; simp) | exact row_is (by rw [vis_left hf hd0]) | exact row_gs' (List.append_assoc _ _ _) | exact row_is (List.append_assoc _ _ _) | exact row_gs' (List.append_nil _).symm | exact row_is (List.append_nil _).symm | exact row_gs' (by rw [hme, show m.mod.toNat = t by omega]) | exact row_is (by rw [hme, show m.mod.toNat = t by omega]))), (by first | rfl | (first | exact row_gs' (by rw [vis_fall hf]) | exact row_is (by rw [vis_fall hf]; simp) | exact row_gs' (by rw [vis_left hf hd0]; simp) | exact row_is (by rw [vis_left hf hd0]) | exact row_gs' (List.append_assoc _ _ _) | exact row_is (List.append_assoc _ _ _) | exact row_gs' (List.append_nil _).symm | exact row_is (List.append_nil _).symm | exact row_gs' (by rw [hme, show m.mod.toNat = t by omega]) | exact row_is (by rw [hme, show m.mod.toNat = t by omega]))), (by first | rfl | exact row_ns (by simp) | (first | exact row_gs' (by rw [vis_fall hf]) | exact row_is (by rw [vis_fall hf]; simp) | exact row_gs' (by rw [vis_left hf hd0]; simp) | exact row_is (by rw [vis_left hf hd0]) | exact row_gs' (List.append_assoc _ _ _) | exact row_is (List.append_assoc _ _ _) | exact row_gs' (List.append_nil _).symm | exact row_is (List.append_nil _).symm | exact row_gs' (by rw [hme, show m.mod.toNat = t by omega]) | exact row_is (by rw [hme, show m.mod.toNat = t by omega]))), (by first | rfl | (first | exact row_gs' (by rw [vis_fall hf]) | exact row_is (by rw [vis_fall hf]; simp) | exact row_gs' (by rw [vis_left hf hd0]; simp) | exact row_is (by rw [vis_left hf hd0]) | exact row_gs' (List.append_assoc _ _ _) | exact row_is (List.append_assoc _ _ _) | exact row_gs' (List.append_nil _).symm | exact row_is (List.append_nil _).symm | exact row_gs' (by rw [hme, show m.mod.toNat = t by omega]) | exact row_is (by rw [hme, show m.mod.toNat = t by omega]))), trivial⟩)), ⟨[], trivial, rfl, fun id ob h => keep_pin h rfl, rfl⟩⟩
  ·obtain ⟨e, hde⟩ : ∃ e, d = e + 1 := ⟨d - 1, by omega⟩
   have hme := vis_more hf hde
   refine awp_skip (hK1 _ (awp_seq fun K6 hK6 => awp_regionD rfl ?_))
   refine o_fieldRef 0 gn f59_ rfl rfl ?_
   refine o_loadA [Bv ((lineZ m (wordZ m r n)).mul), Dv ((lineZ m (wordZ m r n)).mul)] gn f10_ rfl rfl rfl rfl rfl ?_
   refine o_mv (Iv r) rfl ?_
   refine o_ct (c_wOf r (by first | decide | omega) (by first | decide | omega)) gn f25_ rfl ?_
   refine o_ct (c_wMul ((lineZ m (wordZ m r n)).mul) r (by first | omega | assumption | (simp only [Int.natAbs_neg]; omega)) (by first | omega | assumption | (simp only [Int.natAbs_neg]; omega))) gn f45_ rfl ?_
   refine o_fieldRef 2 gn f60_ rfl rfl ?_
   refine o_loadA [Bv ((lineZ m (wordZ m r n)).add), Dv ((lineZ m (wordZ m r n)).add)] gn f10_ rfl rfl rfl rfl rfl ?_
   refine o_ct (c_wAdd (((lineZ m (wordZ m r n)).mul) * r) ((lineZ m (wordZ m r n)).add) (by first | omega | assumption | (simp only [Int.natAbs_neg]; omega)) (by first | omega | assumption | (simp only [Int.natAbs_neg]; omega))) gn f21_ rfl ?_
   refine o_fieldRef 4 gn f61_ rfl rfl ?_
   refine o_loadA [Bv ((lineZ m (wordZ m r n)).div), Dv ((lineZ m (wordZ m r n)).div)] gn f10_ rfl rfl rfl rfl rfl ?_
   refine o_ct (c_wDivide ((((lineZ m (wordZ m r n)).mul) * r) + ((lineZ m (wordZ m r n)).add)) ((lineZ m (wordZ m r n)).div) (by omega) (by omega) (by omega)) gn f71_ rfl ?_
   refine o_mv (.tup [intW (((((lineZ m (wordZ m r n)).mul) * r) + ((lineZ m (wordZ m r n)).add)) / ((lineZ m (wordZ m r n)).div)), intW (((((lineZ m (wordZ m r n)).mul) * r) + ((lineZ m (wordZ m r n)).add)) % ((lineZ m (wordZ m r n)).div))]) rfl (o_extract (intW (((((lineZ m (wordZ m r n)).mul) * r) + ((lineZ m (wordZ m r n)).add)) / ((lineZ m (wordZ m r n)).div))) gn rfl rfl ?_)
   refine n_as (v' := (intW (iterZ m n r))) (by exact congrArg intW (vis_a hM r n)) ?_
   refine o_extract (intW (((((lineZ m (wordZ m r n)).mul) * r) + ((lineZ m (wordZ m r n)).add)) % ((lineZ m (wordZ m r n)).div))) gn rfl rfl ?_
   refine o_alloc 1002 [Fv, Zv] gn f5_ rfl rfl rfl ?_
   refine o_alloc 1003 [Fv, Zv] gn f5_ rfl rfl rfl ?_
   refine o_store [(1003, .var 45 [Fv, Zv]), (1002, oZ 45 .u32 (iterZ m n r)), (1001, .var 47 [Bv ((lineZ m (wordZ m r n)).mul), Dv ((lineZ m (wordZ m r n)).mul), Bv ((lineZ m (wordZ m r n)).add), Dv ((lineZ m (wordZ m r n)).add), Bv ((lineZ m (wordZ m r n)).div), Dv ((lineZ m (wordZ m r n)).div)]), (9009, .pin [.ref 2 0, .ref 3 0, .ref 4 0] us), v2v, r0v F, v3v, r1v L, c4v m k] gn f9_ rfl rfl rfl rfl rfl rfl ?_
   refine o_store [(1003, oZ 45 .u32 (((((lineZ m (wordZ m r n)).mul) * r) + ((lineZ m (wordZ m r n)).add)) % ((lineZ m (wordZ m r n)).div))), (1002, oZ 45 .u32 (iterZ m n r)), (1001, .var 47 [Bv ((lineZ m (wordZ m r n)).mul), Dv ((lineZ m (wordZ m r n)).mul), Bv ((lineZ m (wordZ m r n)).add), Dv ((lineZ m (wordZ m r n)).add), Bv ((lineZ m (wordZ m r n)).div), Dv ((lineZ m (wordZ m r n)).div)]), (9009, .pin [.ref 2 0, .ref 3 0, .ref 4 0] us), v2v, r0v F, v3v, r1v L, c4v m k] gn f9_ rfl rfl rfl rfl rfl rfl ?_
   refine aops_end ⟨by kernel_rfl, ?_⟩
   refine hK6 _ (awp_seq fun K7 hK7 => ?_)
   refine awp_wk (σ' := ⟨[(0, Iv r), (1, Iv (m.mod ^ n)), (2, Lv (wordZ m r n)), (3, mIv m), (4, .ref 2 0), (5, .ip [Nv k]), (6, .ref 3 0), (7, .ref 4 0), (11, .ref 1001 0), (12, .ref 1002 0)], [(1002, oZ 45 .u32 (iterZ m n r)), (1001, .var 47 [Bv ((lineZ m (wordZ m r n)).mul), Dv ((lineZ m (wordZ m r n)).mul), Bv ((lineZ m (wordZ m r n)).add), Dv ((lineZ m (wordZ m r n)).add), Bv ((lineZ m (wordZ m r n)).div), Dv ((lineZ m (wordZ m r n)).div)]), (9009, .pin [.ref 2 0, .ref 3 0, .ref 4 0] us), v2v, r0v F, v3v, r1v L, c4v m k]⟩) (Wk.sub ⟨rfl, rfl, rfl, rfl, rfl, rfl, rfl, rfl, rfl, rfl, trivial⟩ ⟨rfl, rfl, rfl, rfl, rfl, rfl, rfl, rfl, trivial⟩) ?_
   refine awp_wk (σ' := ⟨[(0, Iv r), (1, Iv (m.mod ^ n)), (2, Lv (wordZ m r n)), (3, mIv m), (4, .ref 2 0), (5, .ip [Nv k]), (6, .ref 3 0), (7, .ref 4 0), (11, .ip [Bv ((lineZ m (wordZ m r n)).mul), Dv ((lineZ m (wordZ m r n)).mul), Bv ((lineZ m (wordZ m r n)).add), Dv ((lineZ m (wordZ m r n)).add), Bv ((lineZ m (wordZ m r n)).div), Dv ((lineZ m (wordZ m r n)).div)]), (12, .ref 1002 0)], [(1002, oZ 45 .u32 (iterZ m n r)), (9009, .pin [.ref 2 0, .ref 3 0, .ref 4 0] us), v2v, r0v F, v3v, r1v L, c4v m k]⟩) (Wk.see (id := 1001) (t := 47) (cs := [Bv ((lineZ m (wordZ m r n)).mul), Dv ((lineZ m (wordZ m r n)).mul), Bv ((lineZ m (wordZ m r n)).add), Dv ((lineZ m (wordZ m r n)).add), Bv ((lineZ m (wordZ m r n)).div), Dv ((lineZ m (wordZ m r n)).div)]) rfl rfl) ?_
   refine awp_wk (σ' := ⟨[(0, Iv r), (1, Iv (m.mod ^ n)), (2, Lv (wordZ m r n)), (3, mIv m), (4, .ref 2 0), (5, .ip [Nv k]), (6, .ref 3 0), (7, .ref 4 0), (11, .ip [Bv ((lineZ m (wordZ m r n)).mul), Dv ((lineZ m (wordZ m r n)).mul), Bv ((lineZ m (wordZ m r n)).add), Dv ((lineZ m (wordZ m r n)).add), Bv ((lineZ m (wordZ m r n)).div), Dv ((lineZ m (wordZ m r n)).div)]), (12, .ip [bp ((iterZ m n r) < 0), .sl 1 (ns .u32 (digs (iterZ m n r).natAbs))])], [(9009, .pin [.ref 2 0, .ref 3 0, .ref 4 0] us), v2v, r0v F, v3v, r1v L, c4v m k]⟩) (Wk.see (id := 1002) (t := 45) (cs := [bp ((iterZ m n r) < 0), .sl 1 (ns .u32 (digs (iterZ m n r).natAbs))]) rfl rfl) ?_
   refine awp_region rfl ?_
   refine o_fieldIp gn f40_ rfl (by exact Nat.le_of_ble_eq_true rfl) ?_
   refine o_loadIS (Iv m.mod) gn f39_ rfl rfl ?_
   refine o_mv (Nv 0) rfl (aops_end (hK7 _ ?_))
   refine awp_block ?_
   refine awp_loopR (fun κ σ => ∃ (t : Nat), (t ≤ m.mod.toNat) ∧ (m.mod.toNat - t) = κ ∧ σ = ⟨[(0, Iv r), (1, Iv (m.mod ^ n)), (2, Lv (wordZ m r n)), (3, mIv m), (4, .ref 2 0), (5, .ip [Nv k]), (6, .ref 3 0), (7, .ref 4 0), (11, .ip [Bv ((lineZ m (wordZ m r n)).mul), Dv ((lineZ m (wordZ m r n)).mul), Bv ((lineZ m (wordZ m r n)).add), Dv ((lineZ m (wordZ m r n)).add), Bv ((lineZ m (wordZ m r n)).div), Dv ((lineZ m (wordZ m r n)).div)]), (12, .ip [bp ((iterZ m n r) < 0), .sl 1 (ns .u32 (digs (iterZ m n r).natAbs))]), (64, Iv m.mod), (65, Nv t)], [(9009, .pin [.ref 2 0, .ref 3 0, .ref 4 0] us), v2v, r0v (F ++ ((visU m e n r t).1)), v3v, r1v (L ++ ((visU m e n r t).2)), c4v m k]⟩) ⟨_, _, ⟨0, (by omega), rfl, rfl⟩, ?wk0⟩ ?rd0
   case wk0 =>
    exact Wk.sub ⟨rfl, rfl, rfl, rfl, rfl, rfl, rfl, rfl, rfl, rfl, rfl, (by first | rfl | exact nm_int (by omega)), trivial⟩ ⟨rfl, rfl, (by first | rfl | exact row_ns (by simp) | (first | exact row_gs' (by rw [vis_fall hf]) | exact row_is (by rw [vis_fall hf]; simp) | exact row_gs' (by rw [vis_left hf hd0]; simp) | exact row_is (by rw [vis_left hf hd0]) | exact row_gs' (List.append_assoc _ _ _) | exact row_is (List.append_assoc _ _ _) | exact row_gs' (List.append_nil _).symm | exact row_is (List.append_nil _).symm | exact row_gs' (by rw [hme, show m.mod.toNat = t by omega]) | exact row_is (by rw [hme, show m.mod.toNat = t by omega]))), rfl, (by first | rfl | exact row_ns (by simp) | (first | exact row_gs' (by rw [vis_fall hf]) | exact row_is (by rw [vis_fall hf]; simp) | exact row_gs' (by rw [vis_left hf hd0]; simp) | exact row_is (by rw [vis_left hf hd0]) | exact row_gs' (List.append_assoc _ _ _) | exact row_is (List.append_assoc _ _ _) | exact row_gs' (List.append_nil _).symm | exact row_is (List.append_nil _).symm | exact row_gs' (by rw [hme, show m.mod.toNat = t by omega]) | exact row_is (by rw [hme, show m.mod.toNat = t by omega]))), rfl, trivial⟩
   rintro κ _ ⟨t, ht, rfl, rfl⟩
   refine awp_seq fun K8 hK8 => awp_region rfl ?_
   refine o_lss (a := ((t : Nat) : Int)) (c := m.mod) gn rfl rfl ?_
   refine aops_end (hK8 _ (awp_seq fun K9 hK9 => ?_))
   refine awp_condQ (q := ((t : Nat) : Int) < m.mod) rfl (fun h3 => ?_) (fun h3 => ?_)
   ·have htm : t < m.mod.toNat := by omega
    obtain ⟨hq0, hq1⟩ := vis_rest hM hr0 hr1 htm
    have hpe := pow_le_of hM (j := n + 1) (k := k) (by omega)
    have hUl := visU_len hM e n r t
    have hB1 := visU_bd hde htm hUl.1 hFl
    have hB2 := visU_bd hde htm hUl.2 hLl
    have htl := small_len (z := ((t : Nat) : Int)) (by omega)
    have hml := len_mulZ (lineZ m (wordZ m r n)).mul ((t : Nat) : Int)
    have hmm : ((m.mod.toNat : Nat) : Int) = m.mod := Int.toNat_of_nonneg (by omega)
    have hpq : 0 < m.mod ^ (n + 1) := Int.pow_pos (by omega)
    have hps : m.mod ^ (n + 1) = m.mod ^ n * m.mod := Int.pow_succ _ _
    have hil2 := iter_len hM (r + ((t : Nat) : Int) * m.mod ^ n) n
    have htp := Int.mul_nonneg (show (0 : Int) ≤ ((t : Nat) : Int) by omega) (Int.le_of_lt hpp)
    have hil3 := small_len (z := r + ((t : Nat) : Int) * m.mod ^ n) (by omega)
    refine awp_skip (hK9 _ (awp_seq fun K10 hK10 => ?_))
    refine awp_block ?_
    refine awp_seq fun K11 hK11 => awp_region rfl (o_mv (Nv t) rfl (o_as (Nv t) rfl (aops_end (hK11 _ (awp_seq fun K12 hK12 => awp_regionD rfl ?_)))))
    refine o_loadIA [bp ((iterZ m n r) < 0), .sl 1 (ns .u32 (digs (iterZ m n r).natAbs))] gn f10_ rfl (Nat.le_of_ble_eq_true rfl) rfl ?_
    refine o_fieldIp gn f59_ rfl (by exact Nat.le_of_ble_eq_true rfl) ?_
    refine o_loadIA [Bv ((lineZ m (wordZ m r n)).mul), Dv ((lineZ m (wordZ m r n)).mul)] gn f10_ rfl (Nat.le_of_ble_eq_true rfl) rfl ?_
    refine o_mv (Nv t) rfl ?_
    refine o_ct (c_wOf ((t : Nat) : Int) (by first | decide | omega) (by first | decide | omega)) gn f25_ rfl ?_
    refine o_ct (c_wMul ((lineZ m (wordZ m r n)).mul) ((t : Nat) : Int) (by first | omega | assumption | (simp only [Int.natAbs_neg]; omega)) (by first | omega | assumption | (simp only [Int.natAbs_neg]; omega))) gn f45_ rfl ?_
    refine o_ct (c_wAdd (iterZ m n r) (((lineZ m (wordZ m r n)).mul) * ((t : Nat) : Int)) (by first | omega | assumption | (simp only [Int.natAbs_neg]; omega)) (by first | omega | assumption | (simp only [Int.natAbs_neg]; omega))) gn f21_ rfl ?_
    refine n_as (v' := (intW (iterZ m n (r + ((t : Nat) : Int) * m.mod ^ n)))) (by exact congrArg intW (vis_iter hM r _ n)) ?_
    refine o_fieldIp gn f40_ rfl (by exact Nat.le_of_ble_eq_true rfl) ?_
    refine o_loadIS (Iv m.mod) gn f39_ rfl rfl ?_
    refine n_as (v' := (Nv m.mod.toNat)) (nm_int (by omega)) ?_
    refine o_ct (c_wQR (iterZ m n (r + ((t : Nat) : Int) * m.mod ^ n)) m.mod.toNat (by omega) (by omega) (by first | omega | assumption | (simp only [Int.natAbs_neg]; omega))) gn f44_ rfl ?_
    refine o_mv (.tup [(intW ((iterZ m n (r + ((t : Nat) : Int) * m.mod ^ n)) / ((m.mod.toNat : Nat) : Int))), (Iv ((iterZ m n (r + ((t : Nat) : Int) * m.mod ^ n)) % ((m.mod.toNat : Nat) : Int)))]) rfl (o_extract (intW ((iterZ m n (r + ((t : Nat) : Int) * m.mod ^ n)) / ((m.mod.toNat : Nat) : Int))) gn rfl rfl (o_extract (Iv ((iterZ m n (r + ((t : Nat) : Int) * m.mod ^ n)) % ((m.mod.toNat : Nat) : Int))) gn rfl rfl ?_))
    refine n_as (v' := (Iv ((iterZ m n (r + ((t : Nat) : Int) * m.mod ^ n)) % m.mod))) (by exact congrArg (fun z => AV.lit (.int .i64 z)) (by rw [hmm])) ?_
    refine o_alloc 1004 [Fv, Zv] gn f5_ rfl rfl rfl ?_
    refine o_store [(1004, (oZ 45 .u32 ((iterZ m n (r + ((t : Nat) : Int) * m.mod ^ n)) / ((m.mod.toNat : Nat) : Int)))), (9009, .pin [.ref 2 0, .ref 3 0, .ref 4 0] us), v2v, r0v (F ++ ((visU m e n r t).1)), v3v, r1v (L ++ ((visU m e n r t).2)), c4v m k] gn f9_ rfl rfl rfl rfl rfl rfl ?_
    refine o_as (Iv ((iterZ m n (r + ((t : Nat) : Int) * m.mod ^ n)) % m.mod)) rfl ?_
    refine aops_end ⟨by kernel_rfl, ?_⟩
    refine hK12 _ ?_
    refine awp_regionSL 15 96 _ 11 [mIv m, .ref 2 0, .ip [Nv k], .ref 3 0, .ref 4 0] _ _ _ _ _ [(Iv (r + ((t : Nat) : Int) * m.mod ^ n)), Iv (m.mod ^ (n + 1)), (Lv (wordZ m (r + ((t : Nat) : Int) * m.mod ^ n) (n + 1))), mIv m, .ref 2 0, .ip [Nv k], .ref 3 0, .ref 4 0] (.tup []) [v2v, (20, (.row 37 6 (gcells cL ((F ++ ((visU m e n r t).1)) ++ ((visA m e (n + 1) (r + ((t : Nat) : Int) * m.mod ^ n)).1))))), v3v, (21, (.row 3 1 (is .i64 ((L ++ ((visU m e n r t).2)) ++ ((visA m e (n + 1) (r + ((t : Nat) : Int) * m.mod ^ n)).2))))), c4v m k, (9009, .pin [.ref 2 0, .ref 3 0, .ref 4 0] us)] rfl rfl rfl f108_ (by kernel_rfl) (by kernel_rfl) ?_
    refine o_loadS (.clo 11 [mIv m, .ref 2 0, .ip [Nv k], .ref 3 0, .ref 4 0]) gn f106_ rfl rfl rfl ?_
    refine o_mv (Iv r) rfl (o_mv (Nv t) rfl (o_mv (Iv (m.mod ^ n)) rfl ?_))
    refine o_mul (a := ((t : Nat) : Int)) (c := (m.mod ^ n)) gn rfl rfl (by exact wrap64 (by omega) (by omega)) ?_
    refine o_add (a := r) (c := (((t : Nat) : Int) * (m.mod ^ n))) gn rfl rfl (by exact wrap64 (by omega) (by omega)) ?_
    refine n_as (v' := (Iv (r + ((t : Nat) : Int) * m.mod ^ n))) (by exact rfl) ?_
    refine o_mv (Iv (m.mod ^ n)) rfl ?_
    refine o_fieldIp gn f40_ rfl (by exact Nat.le_of_ble_eq_true rfl) ?_
    refine o_loadIS (Iv m.mod) gn f39_ rfl rfl ?_
    refine o_mul (a := (m.mod ^ n)) (c := m.mod) gn rfl rfl (by exact wrap64 (by omega) (by omega)) ?_
    refine n_as (v' := (Iv (m.mod ^ (n + 1)))) (by exact congrArg (fun z => AV.lit (.int .i64 z)) (Int.pow_succ _ _).symm) ?_
    refine o_mv (Lv (wordZ m r n)) rfl ?_
    refine o_callM 701 [Lv (wordZ m r n)] gn f107_ rfl (c_clone (wordZ m r n) (by omega) (by omega)) rfl ?_
    refine o_mv (Iv ((iterZ m n (r + ((t : Nat) : Int) * m.mod ^ n)) % m.mod)) rfl ?_
    refine o_buildSlice 1005 (is .i64 ([(iterZ m n (r + ((t : Nat) : Int) * m.mod ^ n)) % m.mod])) [(0, [(Iv ((iterZ m n (r + ((t : Nat) : Int) * m.mod ^ n)) % m.mod))])] gn f38_ rfl f47_ rfl rfl rfl rfl rfl rfl rfl ?_
    refine i_append 1006 (wordZ m r n) ([(iterZ m n (r + ((t : Nat) : Int) * m.mod ^ n)) % m.mod]) [(1005, (.row 3 1 (is .i64 ([(iterZ m n (r + ((t : Nat) : Int) * m.mod ^ n)) % m.mod])))), (1004, (oZ 45 .u32 ((iterZ m n (r + ((t : Nat) : Int) * m.mod ^ n)) / ((m.mod.toNat : Nat) : Int)))), (9009, .pin [.ref 2 0, .ref 3 0, .ref 4 0] us), v2v, r0v (F ++ ((visU m e n r t).1)), v3v, r1v (L ++ ((visU m e n r t).2)), c4v m k] gn f38_ f47_ rfl rfl rfl rfl rfl (by simp only [List.length_append, List.length_cons, List.length_nil]; omega) (by decide) rfl rfl ?_
    refine aops_end ⟨by kernel_rfl, _, Wk.trans (Wk.freeze (id := 1006) (e := 3) (sz := 1) (cs := (is .i64 ((wordZ m r n) ++ ([(iterZ m n (r + ((t : Nat) : Int) * m.mod ^ n)) % m.mod])))) rfl) (Wk.trans (Wk.slot (i := 95) (y := (Lv (wordZ m (r + ((t : Nat) : Int) * m.mod ^ n) (n + 1)))) (AV.le_eq (by exact congrArg (fun l => AV.sl 1 (is .i64 l)) (vis_word hM r _ n)))) (Wk.sub (σ' := ⟨[(0, Iv r), (1, Iv (m.mod ^ n)), (2, Lv (wordZ m r n)), (3, mIv m), (4, .ref 2 0), (5, .ip [Nv k]), (6, .ref 3 0), (7, .ref 4 0), (11, .ip [Bv ((lineZ m (wordZ m r n)).mul), Dv ((lineZ m (wordZ m r n)).mul), Bv ((lineZ m (wordZ m r n)).add), Dv ((lineZ m (wordZ m r n)).add), Bv ((lineZ m (wordZ m r n)).div), Dv ((lineZ m (wordZ m r n)).div)]), (12, .ip [bp ((iterZ m n r) < 0), .sl 1 (ns .u32 (digs (iterZ m n r).natAbs))]), (64, Iv m.mod), (65, Nv t), (66, (bp (((t : Nat) : Int) < m.mod))), (67, Nv t), (14, Nv t), (69, intW (iterZ m n r)), (70, .ip [Bv ((lineZ m (wordZ m r n)).mul), Dv ((lineZ m (wordZ m r n)).mul), Bv ((lineZ m (wordZ m r n)).add), Dv ((lineZ m (wordZ m r n)).add), Bv ((lineZ m (wordZ m r n)).div), Dv ((lineZ m (wordZ m r n)).div)]), (71, .agg [Bv ((lineZ m (wordZ m r n)).mul), Dv ((lineZ m (wordZ m r n)).mul)]), (72, Nv t), (73, (intW ((t : Nat) : Int))), (74, (intW (((lineZ m (wordZ m r n)).mul) * ((t : Nat) : Int)))), (75, (intW (iterZ m n (r + ((t : Nat) : Int) * m.mod ^ n)))), (76, mIv m), (77, Nv m.mod.toNat), (78, (.tup [(intW ((iterZ m n (r + ((t : Nat) : Int) * m.mod ^ n)) / ((m.mod.toNat : Nat) : Int))), (Iv ((iterZ m n (r + ((t : Nat) : Int) * m.mod ^ n)) % ((m.mod.toNat : Nat) : Int)))])), (68, (.tup [(intW ((iterZ m n (r + ((t : Nat) : Int) * m.mod ^ n)) / ((m.mod.toNat : Nat) : Int))), (Iv ((iterZ m n (r + ((t : Nat) : Int) * m.mod ^ n)) % ((m.mod.toNat : Nat) : Int)))])), (79, (intW ((iterZ m n (r + ((t : Nat) : Int) * m.mod ^ n)) / ((m.mod.toNat : Nat) : Int)))), (80, (Iv ((iterZ m n (r + ((t : Nat) : Int) * m.mod ^ n)) % m.mod))), (16, (Iv ((iterZ m n (r + ((t : Nat) : Int) * m.mod ^ n)) % m.mod))), (81, .clo 11 [mIv m, .ref 2 0, .ip [Nv k], .ref 3 0, .ref 4 0]), (86, (Iv (r + ((t : Nat) : Int) * m.mod ^ n))), (90, Iv (m.mod ^ (n + 1))), (95, (Lv (wordZ m (r + ((t : Nat) : Int) * m.mod ^ n) (n + 1))))], [v2v, r0v (F ++ ((visU m e n r t).1)), v3v, r1v (L ++ ((visU m e n r t).2)), c4v m k, (9009, .pin [.ref 2 0, .ref 3 0, .ref 4 0] us)]⟩) ⟨rfl, rfl, rfl, rfl, rfl, rfl, rfl, rfl, rfl, rfl, rfl, rfl, rfl, rfl, rfl, rfl, rfl, rfl, rfl, rfl, rfl, rfl, rfl, rfl, rfl, rfl, rfl, rfl, rfl, rfl, rfl, rfl, rfl, trivial⟩ ⟨rfl, rfl, rfl, rfl, rfl, rfl, trivial⟩)), rfl, rfl, scalls_of_r (K := [2, 3, 4]) (m := [v2v, r0v (F ++ ((visU m e n r t).1)), v3v, r1v (L ++ ((visU m e n r t).2)), c4v m k]) (m' := [v2v, (20, (.row 37 6 (gcells cL ((F ++ ((visU m e n r t).1)) ++ ((visA m e (n + 1) (r + ((t : Nat) : Int) * m.mod ^ n)).1))))), v3v, (21, (.row 3 1 (is .i64 ((L ++ ((visU m e n r t).2)) ++ ((visA m e (n + 1) (r + ((t : Nat) : Int) * m.mod ^ n)).2))))), c4v m k]) (e := [(9009, .pin [.ref 2 0, .ref 3 0, .ref 4 0] us)]) (ih e (by omega) (n + 1) (r + ((t : Nat) : Int) * m.mod ^ n) (F ++ ((visU m e n r t).1)) (L ++ ((visU m e n r t).2)) (by omega) (by omega) hq0 hq1 (by simp only [List.length_append]; omega) (by simp only [List.length_append]; omega)) rfl rfl, ?_⟩
    refine hK10 _ (awp_region rfl ?_)
    refine n_add t 1 gn rfl rfl (by simp only [topOf]; omega) ?_
    refine o_mv (Nv (t + 1)) rfl (aops_end ?_)
    refine ⟨_, _, ?lt, ⟨t + 1, (by omega), rfl, rfl⟩, ?wk⟩
    case lt => omega
    case wk => exact Wk.sub ⟨rfl, rfl, rfl, rfl, rfl, rfl, rfl, rfl, rfl, rfl, rfl, (by first | rfl | exact nm_int (by omega)), trivial⟩ ⟨rfl, rfl, (by first | rfl | exact row_ns (by simp) | (first | exact row_gs' (by rw [vis_fall hf]) | exact row_is (by rw [vis_fall hf]; simp) | exact row_gs' (by rw [vis_left hf hd0]; simp) | exact row_is (by rw [vis_left hf hd0]) | exact row_gs' (List.append_assoc _ _ _) | exact row_is (List.append_assoc _ _ _) | exact row_gs' (List.append_nil _).symm | exact row_is (List.append_nil _).symm | exact row_gs' (by rw [hme, show m.mod.toNat = t by omega]) | exact row_is (by rw [hme, show m.mod.toNat = t by omega]))), rfl, (by first | rfl | exact row_ns (by simp) | (first | exact row_gs' (by rw [vis_fall hf]) | exact row_is (by rw [vis_fall hf]; simp) | exact row_gs' (by rw [vis_left hf hd0]; simp) | exact row_is (by rw [vis_left hf hd0]) | exact row_gs' (List.append_assoc _ _ _) | exact row_is (List.append_assoc _ _ _) | exact row_gs' (List.append_nil _).symm | exact row_is (List.append_nil _).symm | exact row_gs' (by rw [hme, show m.mod.toNat = t by omega]) | exact row_is (by rw [hme, show m.mod.toNat = t by omega]))), rfl, trivial⟩
   ·refine awp_exit ?_
    exact ⟨⟨[], [(9009, .pin [.ref 2 0, .ref 3 0, .ref 4 0] us), v2v, r0v (F ++ ((visA m d n r).1)), v3v, r1v (L ++ ((visA m d n r).2)), c4v m k]⟩, Wk.sub trivial ⟨rfl, rfl, (by first | rfl | exact row_ns (by simp) | (first | exact row_gs' (by rw [vis_fall hf]) | exact row_is (by rw [vis_fall hf]; simp) | exact row_gs' (by rw [vis_left hf hd0]; simp) | exact row_is (by rw [vis_left hf hd0]) | exact row_gs' (List.append_assoc _ _ _) | exact row_is (List.append_assoc _ _ _) | exact row_gs' (List.append_nil _).symm | exact row_is (List.append_nil _).symm | exact row_gs' (by rw [hme, show m.mod.toNat = t by omega]) | exact row_is (by rw [hme, show m.mod.toNat = t by omega]))), rfl, (by first | rfl | exact row_ns (by simp) | (first | exact row_gs' (by rw [vis_fall hf]) | exact row_is (by rw [vis_fall hf]; simp) | exact row_gs' (by rw [vis_left hf hd0]; simp) | exact row_is (by rw [vis_left hf hd0]) | exact row_gs' (List.append_assoc _ _ _) | exact row_is (List.append_assoc _ _ _) | exact row_gs' (List.append_nil _).symm | exact row_is (List.append_nil _).symm | exact row_gs' (by rw [hme, show m.mod.toNat = t by omega]) | exact row_is (by rw [hme, show m.mod.toNat = t by omega]))), rfl, trivial⟩, ⟨[], trivial, rfl, fun id ob h => keep_pin h rfl, rfl⟩⟩

theorem c_visit0 (m : MapM) (k : Nat) (hM : OkM m) (hk : k ≤ 16) (hpk : m.mod ^ k ≤ 65536) (d : Nat) (F : List Fal) (L : List Int) (hnd : d = k) (hd1 : 1 ≤ d) (hFl : F.length + m.mod.toNat ^ d ≤ 1000000) (hLl : L.length + m.mod.toNat ^ d ≤ 1000000) :
  RCalls cx 11 [Iv 0, Iv (m.mod ^ 0), Zv, mIv m, .ref 2 0, .ip [Nv k], .ref 3 0, .ref 4 0] [2, 3, 4] [v2v, r0v F, v3v, r1v L, c4v m k] (.tup []) [v2v, r0v (F ++ ((visA m d 0 0).1)), v3v, r1v (L ++ ((visA m d 0 0).2)), c4v m k] := by
 refine rcalls_of_s (scalls_of_awpB 9009 Tryd.func11 (c := _) rfl (Nat.le_of_ble_eq_true rfl) rfl rfl rfl (fun us => ?_)) rfl
 refine awp_late ?_
 show awp cx 98 _ (lateQ cx 98 (postS cx Tryd.f11 (.tup []) [v2v, r0v (F ++ ((visA m d 0 0).1)), v3v, r1v (L ++ ((visA m d 0 0).2)), c4v m k] 9009 [.ref 2 0, .ref 3 0, .ref 4 0] us)) ⟨[(0, Iv 0), (1, Iv (m.mod ^ 0)), (2, Zv), (3, mIv m), (4, .ref 2 0), (5, .ip [Nv k]), (6, .ref 3 0), (7, .ref 4 0)], [(9009, .pin [.ref 2 0, .ref 3 0, .ref 4 0] us), v2v, r0v F, v3v, r1v L, c4v m k]⟩
 have hr0 : (0 : Int) ≤ 0 := Int.le_refl _
 have hr1 : (0 : Int) < m.mod ^ 0 := by rw [Int.pow_zero]; decide
 have hf : ¬ fallN m 0 0 := fun e => absurd e.1 (by decide)
 obtain ⟨e, hde⟩ : ∃ e, d = e + 1 := ⟨d - 1, by omega⟩
 have hme := vis_more hf hde
 have hM2 := hM
 obtain ⟨o1, o2, o3, o4, o5⟩ := hM2
 have hpp : 0 < m.mod ^ 0 := Int.pow_pos (by omega)
 have hpn := pow_le_of hM (j := 0) (k := k) (by omega)
 have hW := wordZ_is hM 0 0
 have hWl := wordZ_len m 0 0
 obtain ⟨L1, L2, L3⟩ := line_len hM _ hW
 have hpd : 0 < m.mod.toNat ^ d := Nat.pow_pos (by omega)
 have hrl := small_len (z := 0) (by omega)
 have hil := iter_len hM 0 0
 have hdv : 0 < (lineZ m (wordZ m 0 0)).div := by rw [lineZ_div]; exact Int.pow_pos (by omega)
 have hm0 := len_mulZ (lineZ m (wordZ m 0 0)).mul 0
 have ha0 := len_addZ ((lineZ m (wordZ m 0 0)).mul * 0) (lineZ m (wordZ m 0 0)).add
 refine awp_seq fun K0 hK0 => awp_region rfl ?_
 refine o_loadIA [Iv m.mod, Lv m.mul, Lv m.add] gn f50_ rfl (Nat.le_of_ble_eq_true rfl) rfl ?_
 refine o_mv Zv rfl ?_
 refine o_callG [] [mapV m, Zv] _ (linW (lineZ m (wordZ m 0 0))) [(9009, .pin [.ref 2 0, .ref 3 0, .ref 4 0] us), v2v, r0v F, v3v, r1v L, c4v m k] gn f100_ rfl trivial rfl rfl (LeL.cons (AV.le_refl _) (LeL.cons (AV.le_nil' (by decide) rfl) LeL.nil)) (c_oOf m [] hM (fun _ h => by simp at h) (by decide)) rfl ?_
 refine o_alloc 1001 [Fv, Zv, Fv, Zv, Fv, Zv] gn f55_ rfl rfl rfl ?_
 refine o_store [(1001, .var 47 [Bv ((lineZ m (wordZ m 0 0)).mul), Dv ((lineZ m (wordZ m 0 0)).mul), Bv ((lineZ m (wordZ m 0 0)).add), Dv ((lineZ m (wordZ m 0 0)).add), Bv ((lineZ m (wordZ m 0 0)).div), Dv ((lineZ m (wordZ m 0 0)).div)]), (9009, .pin [.ref 2 0, .ref 3 0, .ref 4 0] us), v2v, r0v F, v3v, r1v L, c4v m k] gn f57_ rfl rfl rfl rfl rfl rfl ?_
 refine aops_end (hK0 _ (awp_seq fun K1 hK1 => ?_))
 refine awp_block ?_
 refine awp_seq fun K2 hK2 => awp_region rfl (o_mv Zv rfl ?_)
 refine o_lenNil gn f37_ rfl ?_
 refine n_gtr 0 0 gn rfl rfl ?_
 refine n_as (v' := Fv) (by exact bpn (by decide)) ?_
 refine o_mv Fv rfl (o_skip rfl rfl rfl (o_skip rfl rfl rfl (o_skip rfl rfl rfl (o_skip rfl rfl rfl (o_skip rfl rfl rfl (o_skip rfl rfl rfl ?_))))))
 refine o_pickF Fv gn rfl rfl rfl ?_
 refine o_as Fv rfl (aops_end (hK2 _ ?_))
 refine awp_condB (b := false) rfl (fun hh => absurd (hh.symm.trans rfl) (by decide)) (fun _ => ?_)
 refine awp_seq fun K3 hK3 => awp_region rfl (o_mv Zv rfl ?_)
 refine o_lenNil gn f37_ rfl ?_
 refine o_loadIS (Nv k) gn f39_ rfl rfl ?_
 refine n_eql 0 k gn rfl rfl ?_
 refine n_as (v' := Fv) (by exact bpn (by omega)) ?_
 refine o_as Fv rfl (aops_end (hK3 _ ?_))
 refine awp_condB (b := false) rfl (fun hh => absurd (hh.symm.trans rfl) (by decide)) (fun _ => ?_)
 refine awp_skip (hK1 _ (awp_seq fun K4 hK4 => awp_regionD rfl ?_))
 refine o_fieldRef 0 gn f59_ rfl rfl ?_
 refine o_loadA [Bv ((lineZ m (wordZ m 0 0)).mul), Dv ((lineZ m (wordZ m 0 0)).mul)] gn f10_ rfl rfl rfl rfl rfl ?_
 refine o_mv (Iv 0) rfl ?_
 refine o_ct (c_wOf 0 (by first | decide | omega) (by first | decide | omega)) gn f25_ rfl ?_
 refine o_ct (c_wMul ((lineZ m (wordZ m 0 0)).mul) 0 (by first | omega | assumption | (simp only [Int.natAbs_neg]; omega)) (by first | omega | assumption | (simp only [Int.natAbs_neg]; omega))) gn f45_ rfl ?_
 refine o_fieldRef 2 gn f60_ rfl rfl ?_
 refine o_loadA [Bv ((lineZ m (wordZ m 0 0)).add), Dv ((lineZ m (wordZ m 0 0)).add)] gn f10_ rfl rfl rfl rfl rfl ?_
 refine o_ct (c_wAdd (((lineZ m (wordZ m 0 0)).mul) * 0) ((lineZ m (wordZ m 0 0)).add) (by first | omega | assumption | (simp only [Int.natAbs_neg]; omega)) (by first | omega | assumption | (simp only [Int.natAbs_neg]; omega))) gn f21_ rfl ?_
 refine o_fieldRef 4 gn f61_ rfl rfl ?_
 refine o_loadA [Bv ((lineZ m (wordZ m 0 0)).div), Dv ((lineZ m (wordZ m 0 0)).div)] gn f10_ rfl rfl rfl rfl rfl ?_
 refine o_ct (c_wDivide ((((lineZ m (wordZ m 0 0)).mul) * 0) + ((lineZ m (wordZ m 0 0)).add)) ((lineZ m (wordZ m 0 0)).div) (by omega) (by omega) (by omega)) gn f71_ rfl ?_
 refine o_mv (.tup [intW (((((lineZ m (wordZ m 0 0)).mul) * 0) + ((lineZ m (wordZ m 0 0)).add)) / ((lineZ m (wordZ m 0 0)).div)), intW (((((lineZ m (wordZ m 0 0)).mul) * 0) + ((lineZ m (wordZ m 0 0)).add)) % ((lineZ m (wordZ m 0 0)).div))]) rfl (o_extract (intW (((((lineZ m (wordZ m 0 0)).mul) * 0) + ((lineZ m (wordZ m 0 0)).add)) / ((lineZ m (wordZ m 0 0)).div))) gn rfl rfl ?_)
 refine n_as (v' := (intW (iterZ m 0 0))) (by exact congrArg intW (vis_a hM 0 0)) ?_
 refine o_extract (intW (((((lineZ m (wordZ m 0 0)).mul) * 0) + ((lineZ m (wordZ m 0 0)).add)) % ((lineZ m (wordZ m 0 0)).div))) gn rfl rfl ?_
 refine o_alloc 1002 [Fv, Zv] gn f5_ rfl rfl rfl ?_
 refine o_alloc 1003 [Fv, Zv] gn f5_ rfl rfl rfl ?_
 refine o_store [(1003, .var 45 [Fv, Zv]), (1002, oZ 45 .u32 (iterZ m 0 0)), (1001, .var 47 [Bv ((lineZ m (wordZ m 0 0)).mul), Dv ((lineZ m (wordZ m 0 0)).mul), Bv ((lineZ m (wordZ m 0 0)).add), Dv ((lineZ m (wordZ m 0 0)).add), Bv ((lineZ m (wordZ m 0 0)).div), Dv ((lineZ m (wordZ m 0 0)).div)]), (9009, .pin [.ref 2 0, .ref 3 0, .ref 4 0] us), v2v, r0v F, v3v, r1v L, c4v m k] gn f9_ rfl rfl rfl rfl rfl rfl ?_
 refine o_store [(1003, oZ 45 .u32 (((((lineZ m (wordZ m 0 0)).mul) * 0) + ((lineZ m (wordZ m 0 0)).add)) % ((lineZ m (wordZ m 0 0)).div))), (1002, oZ 45 .u32 (iterZ m 0 0)), (1001, .var 47 [Bv ((lineZ m (wordZ m 0 0)).mul), Dv ((lineZ m (wordZ m 0 0)).mul), Bv ((lineZ m (wordZ m 0 0)).add), Dv ((lineZ m (wordZ m 0 0)).add), Bv ((lineZ m (wordZ m 0 0)).div), Dv ((lineZ m (wordZ m 0 0)).div)]), (9009, .pin [.ref 2 0, .ref 3 0, .ref 4 0] us), v2v, r0v F, v3v, r1v L, c4v m k] gn f9_ rfl rfl rfl rfl rfl rfl ?_
 refine aops_end ⟨by kernel_rfl, ?_⟩
 refine hK4 _ (awp_seq fun K5 hK5 => ?_)
 refine awp_wk (σ' := ⟨[(0, Iv 0), (1, Iv (m.mod ^ 0)), (2, Zv), (3, mIv m), (4, .ref 2 0), (5, .ip [Nv k]), (6, .ref 3 0), (7, .ref 4 0), (11, .ref 1001 0), (12, .ref 1002 0)], [(1002, oZ 45 .u32 (iterZ m 0 0)), (1001, .var 47 [Bv ((lineZ m (wordZ m 0 0)).mul), Dv ((lineZ m (wordZ m 0 0)).mul), Bv ((lineZ m (wordZ m 0 0)).add), Dv ((lineZ m (wordZ m 0 0)).add), Bv ((lineZ m (wordZ m 0 0)).div), Dv ((lineZ m (wordZ m 0 0)).div)]), (9009, .pin [.ref 2 0, .ref 3 0, .ref 4 0] us), v2v, r0v F, v3v, r1v L, c4v m k]⟩) (Wk.sub ⟨rfl, rfl, rfl, rfl, rfl, rfl, rfl, rfl, rfl, rfl, trivial⟩ ⟨rfl, rfl, rfl, rfl, rfl, rfl, rfl, rfl, trivial⟩) ?_
 refine awp_wk (σ' := ⟨[(0, Iv 0), (1, Iv (m.mod ^ 0)), (2, Zv), (3, mIv m), (4, .ref 2 0), (5, .ip [Nv k]), (6, .ref 3 0), (7, .ref 4 0), (11, .ip [Bv ((lineZ m (wordZ m 0 0)).mul), Dv ((lineZ m (wordZ m 0 0)).mul), Bv ((lineZ m (wordZ m 0 0)).add), Dv ((lineZ m (wordZ m 0 0)).add), Bv ((lineZ m (wordZ m 0 0)).div), Dv ((lineZ m (wordZ m 0 0)).div)]), (12, .ref 1002 0)], [(1002, oZ 45 .u32 (iterZ m 0 0)), (9009, .pin [.ref 2 0, .ref 3 0, .ref 4 0] us), v2v, r0v F, v3v, r1v L, c4v m k]⟩) (Wk.see (id := 1001) (t := 47) (cs := [Bv ((lineZ m (wordZ m 0 0)).mul), Dv ((lineZ m (wordZ m 0 0)).mul), Bv ((lineZ m (wordZ m 0 0)).add), Dv ((lineZ m (wordZ m 0 0)).add), Bv ((lineZ m (wordZ m 0 0)).div), Dv ((lineZ m (wordZ m 0 0)).div)]) rfl rfl) ?_
 refine awp_wk (σ' := ⟨[(0, Iv 0), (1, Iv (m.mod ^ 0)), (2, Zv), (3, mIv m), (4, .ref 2 0), (5, .ip [Nv k]), (6, .ref 3 0), (7, .ref 4 0), (11, .ip [Bv ((lineZ m (wordZ m 0 0)).mul), Dv ((lineZ m (wordZ m 0 0)).mul), Bv ((lineZ m (wordZ m 0 0)).add), Dv ((lineZ m (wordZ m 0 0)).add), Bv ((lineZ m (wordZ m 0 0)).div), Dv ((lineZ m (wordZ m 0 0)).div)]), (12, .ip [bp ((iterZ m 0 0) < 0), .sl 1 (ns .u32 (digs (iterZ m 0 0).natAbs))])], [(9009, .pin [.ref 2 0, .ref 3 0, .ref 4 0] us), v2v, r0v F, v3v, r1v L, c4v m k]⟩) (Wk.see (id := 1002) (t := 45) (cs := [bp ((iterZ m 0 0) < 0), .sl 1 (ns .u32 (digs (iterZ m 0 0).natAbs))]) rfl rfl) ?_
 refine awp_region rfl ?_
 refine o_fieldIp gn f40_ rfl (by exact Nat.le_of_ble_eq_true rfl) ?_
 refine o_loadIS (Iv m.mod) gn f39_ rfl rfl ?_
 refine o_mv (Nv 0) rfl (aops_end (hK5 _ ?_))
 refine awp_block ?_
 refine awp_loopR (fun κ σ => ∃ (t : Nat), (t ≤ m.mod.toNat) ∧ (m.mod.toNat - t) = κ ∧ σ = ⟨[(0, Iv 0), (1, Iv (m.mod ^ 0)), (2, Zv), (3, mIv m), (4, .ref 2 0), (5, .ip [Nv k]), (6, .ref 3 0), (7, .ref 4 0), (11, .ip [Bv ((lineZ m (wordZ m 0 0)).mul), Dv ((lineZ m (wordZ m 0 0)).mul), Bv ((lineZ m (wordZ m 0 0)).add), Dv ((lineZ m (wordZ m 0 0)).add), Bv ((lineZ m (wordZ m 0 0)).div), Dv ((lineZ m (wordZ m 0 0)).div)]), (12, .ip [bp ((iterZ m 0 0) < 0), .sl 1 (ns .u32 (digs (iterZ m 0 0).natAbs))]), (64, Iv m.mod), (65, Nv t)], [(9009, .pin [.ref 2 0, .ref 3 0, .ref 4 0] us), v2v, r0v (F ++ ((visU m e 0 0 t).1)), v3v, r1v (L ++ ((visU m e 0 0 t).2)), c4v m k]⟩) ⟨_, _, ⟨0, (by omega), rfl, rfl⟩, ?wk0⟩ ?rd0
 case wk0 =>
  exact Wk.sub ⟨rfl, rfl, rfl, rfl, rfl, rfl, rfl, rfl, rfl, rfl, rfl, (by first | rfl | exact nm_int (by omega)), trivial⟩ ⟨rfl, rfl, (by first | rfl | exact row_ns (by simp) | (first | exact row_gs' (by rw [vis_fall hf]) | exact row_is (by rw [vis_fall hf]; simp) | exact row_gs' (by rw [vis_left hf hd0]; simp) | exact row_is (by rw [vis_left hf hd0]) | exact row_gs' (List.append_assoc _ _ _) | exact row_is (List.append_assoc _ _ _) | exact row_gs' (List.append_nil _).symm | exact row_is (List.append_nil _).symm | exact row_gs' (by rw [hme, show m.mod.toNat = t by omega]) | exact row_is (by rw [hme, show m.mod.toNat = t by omega]))), rfl, (by first | rfl | exact row_ns (by simp) | (first | exact row_gs' (by rw [vis_fall hf]) | exact row_is (by rw [vis_fall hf]; simp) | exact row_gs' (by rw [vis_left hf hd0]; simp) | exact row_is (by rw [vis_left hf hd0]) | exact row_gs' (List.append_assoc _ _ _) | exact row_is (List.append_assoc _ _ _) | exact row_gs' (List.append_nil _).symm | exact row_is (List.append_nil _).symm | exact row_gs' (by rw [hme, show m.mod.toNat = t by omega]) | exact row_is (by rw [hme, show m.mod.toNat = t by omega]))), rfl, trivial⟩
 rintro κ _ ⟨t, ht, rfl, rfl⟩
 refine awp_seq fun K6 hK6 => awp_region rfl ?_
 refine o_lss (a := ((t : Nat) : Int)) (c := m.mod) gn rfl rfl ?_
 refine aops_end (hK6 _ (awp_seq fun K7 hK7 => ?_))
 refine awp_condQ (q := ((t : Nat) : Int) < m.mod) rfl (fun h1 => ?_) (fun h1 => ?_)
 ·have htm : t < m.mod.toNat := by omega
  obtain ⟨hq0, hq1⟩ := vis_rest hM hr0 hr1 htm
  have hpe := pow_le_of hM (j := 0 + 1) (k := k) (by omega)
  have hUl := visU_len hM e 0 0 t
  have hB1 := visU_bd hde htm hUl.1 hFl
  have hB2 := visU_bd hde htm hUl.2 hLl
  have htl := small_len (z := ((t : Nat) : Int)) (by omega)
  have hml := len_mulZ (lineZ m (wordZ m 0 0)).mul ((t : Nat) : Int)
  have hmm : ((m.mod.toNat : Nat) : Int) = m.mod := Int.toNat_of_nonneg (by omega)
  have hpq : 0 < m.mod ^ (0 + 1) := Int.pow_pos (by omega)
  have hps : m.mod ^ (0 + 1) = m.mod ^ 0 * m.mod := Int.pow_succ _ _
  have hil2 := iter_len hM (0 + ((t : Nat) : Int) * m.mod ^ 0) 0
  have htp := Int.mul_nonneg (show (0 : Int) ≤ ((t : Nat) : Int) by omega) (Int.le_of_lt hpp)
  have hil3 := small_len (z := 0 + ((t : Nat) : Int) * m.mod ^ 0) (by omega)
  refine awp_skip (hK7 _ (awp_seq fun K8 hK8 => ?_))
  refine awp_block ?_
  refine awp_seq fun K9 hK9 => awp_region rfl (o_mv (Nv t) rfl (o_as (Nv t) rfl (aops_end (hK9 _ (awp_seq fun K10 hK10 => awp_regionD rfl ?_)))))
  refine o_loadIA [bp ((iterZ m 0 0) < 0), .sl 1 (ns .u32 (digs (iterZ m 0 0).natAbs))] gn f10_ rfl (Nat.le_of_ble_eq_true rfl) rfl ?_
  refine o_fieldIp gn f59_ rfl (by exact Nat.le_of_ble_eq_true rfl) ?_
  refine o_loadIA [Bv ((lineZ m (wordZ m 0 0)).mul), Dv ((lineZ m (wordZ m 0 0)).mul)] gn f10_ rfl (Nat.le_of_ble_eq_true rfl) rfl ?_
  refine o_mv (Nv t) rfl ?_
  refine o_ct (c_wOf ((t : Nat) : Int) (by first | decide | omega) (by first | decide | omega)) gn f25_ rfl ?_
  refine o_ct (c_wMul ((lineZ m (wordZ m 0 0)).mul) ((t : Nat) : Int) (by first | omega | assumption | (simp only [Int.natAbs_neg]; omega)) (by first | omega | assumption | (simp only [Int.natAbs_neg]; omega))) gn f45_ rfl ?_
  refine o_ct (c_wAdd (iterZ m 0 0) (((lineZ m (wordZ m 0 0)).mul) * ((t : Nat) : Int)) (by first | omega | assumption | (simp only [Int.natAbs_neg]; omega)) (by first | omega | assumption | (simp only [Int.natAbs_neg]; omega))) gn f21_ rfl ?_
  refine n_as (v' := (intW (iterZ m 0 (0 + ((t : Nat) : Int) * m.mod ^ 0)))) (by exact congrArg intW (vis_iter hM 0 _ 0)) ?_
  refine o_fieldIp gn f40_ rfl (by exact Nat.le_of_ble_eq_true rfl) ?_
  refine o_loadIS (Iv m.mod) gn f39_ rfl rfl ?_
  refine n_as (v' := (Nv m.mod.toNat)) (nm_int (by omega)) ?_
  refine o_ct (c_wQR (iterZ m 0 (0 + ((t : Nat) : Int) * m.mod ^ 0)) m.mod.toNat (by omega) (by omega) (by first | omega | assumption | (simp only [Int.natAbs_neg]; omega))) gn f44_ rfl ?_
  refine o_mv (.tup [(intW ((iterZ m 0 (0 + ((t : Nat) : Int) * m.mod ^ 0)) / ((m.mod.toNat : Nat) : Int))), (Iv ((iterZ m 0 (0 + ((t : Nat) : Int) * m.mod ^ 0)) % ((m.mod.toNat : Nat) : Int)))]) rfl (o_extract (intW ((iterZ m 0 (0 + ((t : Nat) : Int) * m.mod ^ 0)) / ((m.mod.toNat : Nat) : Int))) gn rfl rfl (o_extract (Iv ((iterZ m 0 (0 + ((t : Nat) : Int) * m.mod ^ 0)) % ((m.mod.toNat : Nat) : Int))) gn rfl rfl ?_))
  refine n_as (v' := (Iv ((iterZ m 0 (0 + ((t : Nat) : Int) * m.mod ^ 0)) % m.mod))) (by exact congrArg (fun z => AV.lit (.int .i64 z)) (by rw [hmm])) ?_
  refine o_alloc 1004 [Fv, Zv] gn f5_ rfl rfl rfl ?_
  refine o_store [(1004, (oZ 45 .u32 ((iterZ m 0 (0 + ((t : Nat) : Int) * m.mod ^ 0)) / ((m.mod.toNat : Nat) : Int)))), (9009, .pin [.ref 2 0, .ref 3 0, .ref 4 0] us), v2v, r0v (F ++ ((visU m e 0 0 t).1)), v3v, r1v (L ++ ((visU m e 0 0 t).2)), c4v m k] gn f9_ rfl rfl rfl rfl rfl rfl ?_
  refine o_as (Iv ((iterZ m 0 (0 + ((t : Nat) : Int) * m.mod ^ 0)) % m.mod)) rfl ?_
  refine aops_end ⟨by kernel_rfl, ?_⟩
  refine hK10 _ ?_
  refine awp_regionSL 15 96 _ 11 [mIv m, .ref 2 0, .ip [Nv k], .ref 3 0, .ref 4 0] _ _ _ _ _ [(Iv (0 + ((t : Nat) : Int) * m.mod ^ 0)), Iv (m.mod ^ (0 + 1)), (Lv (wordZ m (0 + ((t : Nat) : Int) * m.mod ^ 0) (0 + 1))), mIv m, .ref 2 0, .ip [Nv k], .ref 3 0, .ref 4 0] (.tup []) [v2v, (20, (.row 37 6 (gcells cL ((F ++ ((visU m e 0 0 t).1)) ++ ((visA m e (0 + 1) (0 + ((t : Nat) : Int) * m.mod ^ 0)).1))))), v3v, (21, (.row 3 1 (is .i64 ((L ++ ((visU m e 0 0 t).2)) ++ ((visA m e (0 + 1) (0 + ((t : Nat) : Int) * m.mod ^ 0)).2))))), c4v m k, (9009, .pin [.ref 2 0, .ref 3 0, .ref 4 0] us)] rfl rfl rfl f108_ (by kernel_rfl) (by kernel_rfl) ?_
  refine o_loadS (.clo 11 [mIv m, .ref 2 0, .ip [Nv k], .ref 3 0, .ref 4 0]) gn f106_ rfl rfl rfl ?_
  refine o_mv (Iv 0) rfl (o_mv (Nv t) rfl (o_mv (Iv (m.mod ^ 0)) rfl ?_))
  refine o_mul (a := ((t : Nat) : Int)) (c := (m.mod ^ 0)) gn rfl rfl (by exact wrap64 (by omega) (by omega)) ?_
  refine o_add (a := 0) (c := (((t : Nat) : Int) * (m.mod ^ 0))) gn rfl rfl (by exact wrap64 (by omega) (by omega)) ?_
  refine n_as (v' := (Iv (0 + ((t : Nat) : Int) * m.mod ^ 0))) (by exact rfl) ?_
  refine o_mv (Iv (m.mod ^ 0)) rfl ?_
  refine o_fieldIp gn f40_ rfl (by exact Nat.le_of_ble_eq_true rfl) ?_
  refine o_loadIS (Iv m.mod) gn f39_ rfl rfl ?_
  refine o_mul (a := (m.mod ^ 0)) (c := m.mod) gn rfl rfl (by exact wrap64 (by omega) (by omega)) ?_
  refine n_as (v' := (Iv (m.mod ^ (0 + 1)))) (by exact congrArg (fun z => AV.lit (.int .i64 z)) (Int.pow_succ _ _).symm) ?_
  refine o_mv Zv rfl ?_
  refine o_callG [] [Zv] _ Zv [(1004, (oZ 45 .u32 ((iterZ m 0 (0 + ((t : Nat) : Int) * m.mod ^ 0)) / ((m.mod.toNat : Nat) : Int)))), (9009, .pin [.ref 2 0, .ref 3 0, .ref 4 0] us), v2v, r0v (F ++ ((visU m e 0 0 t).1)), v3v, r1v (L ++ ((visU m e 0 0 t).2)), c4v m k] gn f107_ rfl trivial rfl rfl (LeL.cons (AV.le_refl _) LeL.nil) c_clone0 rfl ?_
  refine o_mv (Iv ((iterZ m 0 (0 + ((t : Nat) : Int) * m.mod ^ 0)) % m.mod)) rfl ?_
  refine o_buildSlice 1005 (is .i64 ([(iterZ m 0 (0 + ((t : Nat) : Int) * m.mod ^ 0)) % m.mod])) [(0, [(Iv ((iterZ m 0 (0 + ((t : Nat) : Int) * m.mod ^ 0)) % m.mod))])] gn f38_ rfl f47_ rfl rfl rfl rfl rfl rfl rfl ?_
  refine o_appendNil 1006 (is .i64 ([(iterZ m 0 (0 + ((t : Nat) : Int) * m.mod ^ 0)) % m.mod])) [1005] gn f38_ rfl f47_ rfl rfl (.inr ⟨1005, _, rfl, rfl, rfl⟩) (by simp [is]) (by simp [is]) rfl ?_
  refine aops_end ⟨by kernel_rfl, _, Wk.trans (Wk.freeze (id := 1006) (e := 3) (sz := 1) (cs := (is .i64 ([(iterZ m 0 (0 + ((t : Nat) : Int) * m.mod ^ 0)) % m.mod]))) rfl) (Wk.trans (Wk.slot (i := 95) (y := (Lv (wordZ m (0 + ((t : Nat) : Int) * m.mod ^ 0) (0 + 1)))) (AV.le_eq (by exact congrArg (fun l => AV.sl 1 (is .i64 l)) (vis_word hM 0 _ 0)))) (Wk.sub (σ' := ⟨[(0, Iv 0), (1, Iv (m.mod ^ 0)), (2, Zv), (3, mIv m), (4, .ref 2 0), (5, .ip [Nv k]), (6, .ref 3 0), (7, .ref 4 0), (11, .ip [Bv ((lineZ m (wordZ m 0 0)).mul), Dv ((lineZ m (wordZ m 0 0)).mul), Bv ((lineZ m (wordZ m 0 0)).add), Dv ((lineZ m (wordZ m 0 0)).add), Bv ((lineZ m (wordZ m 0 0)).div), Dv ((lineZ m (wordZ m 0 0)).div)]), (12, .ip [bp ((iterZ m 0 0) < 0), .sl 1 (ns .u32 (digs (iterZ m 0 0).natAbs))]), (64, Iv m.mod), (65, Nv t), (66, (bp (((t : Nat) : Int) < m.mod))), (67, Nv t), (14, Nv t), (69, intW (iterZ m 0 0)), (70, .ip [Bv ((lineZ m (wordZ m 0 0)).mul), Dv ((lineZ m (wordZ m 0 0)).mul), Bv ((lineZ m (wordZ m 0 0)).add), Dv ((lineZ m (wordZ m 0 0)).add), Bv ((lineZ m (wordZ m 0 0)).div), Dv ((lineZ m (wordZ m 0 0)).div)]), (71, .agg [Bv ((lineZ m (wordZ m 0 0)).mul), Dv ((lineZ m (wordZ m 0 0)).mul)]), (72, Nv t), (73, (intW ((t : Nat) : Int))), (74, (intW (((lineZ m (wordZ m 0 0)).mul) * ((t : Nat) : Int)))), (75, (intW (iterZ m 0 (0 + ((t : Nat) : Int) * m.mod ^ 0)))), (76, mIv m), (77, Nv m.mod.toNat), (78, (.tup [(intW ((iterZ m 0 (0 + ((t : Nat) : Int) * m.mod ^ 0)) / ((m.mod.toNat : Nat) : Int))), (Iv ((iterZ m 0 (0 + ((t : Nat) : Int) * m.mod ^ 0)) % ((m.mod.toNat : Nat) : Int)))])), (68, (.tup [(intW ((iterZ m 0 (0 + ((t : Nat) : Int) * m.mod ^ 0)) / ((m.mod.toNat : Nat) : Int))), (Iv ((iterZ m 0 (0 + ((t : Nat) : Int) * m.mod ^ 0)) % ((m.mod.toNat : Nat) : Int)))])), (79, (intW ((iterZ m 0 (0 + ((t : Nat) : Int) * m.mod ^ 0)) / ((m.mod.toNat : Nat) : Int)))), (80, (Iv ((iterZ m 0 (0 + ((t : Nat) : Int) * m.mod ^ 0)) % m.mod))), (16, (Iv ((iterZ m 0 (0 + ((t : Nat) : Int) * m.mod ^ 0)) % m.mod))), (81, .clo 11 [mIv m, .ref 2 0, .ip [Nv k], .ref 3 0, .ref 4 0]), (86, (Iv (0 + ((t : Nat) : Int) * m.mod ^ 0))), (90, Iv (m.mod ^ (0 + 1))), (95, (Lv (wordZ m (0 + ((t : Nat) : Int) * m.mod ^ 0) (0 + 1))))], [v2v, r0v (F ++ ((visU m e 0 0 t).1)), v3v, r1v (L ++ ((visU m e 0 0 t).2)), c4v m k, (9009, .pin [.ref 2 0, .ref 3 0, .ref 4 0] us)]⟩) ⟨rfl, rfl, rfl, rfl, rfl, rfl, rfl, rfl, rfl, rfl, rfl, rfl, rfl, rfl, rfl, rfl, rfl, rfl, rfl, rfl, rfl, rfl, rfl, rfl, rfl, rfl, rfl, rfl, rfl, rfl, rfl, rfl, rfl, trivial⟩ ⟨rfl, rfl, rfl, rfl, rfl, rfl, trivial⟩)), rfl, rfl, scalls_of_r (K := [2, 3, 4]) (m := [v2v, r0v (F ++ ((visU m e 0 0 t).1)), v3v, r1v (L ++ ((visU m e 0 0 t).2)), c4v m k]) (m' := [v2v, (20, (.row 37 6 (gcells cL ((F ++ ((visU m e 0 0 t).1)) ++ ((visA m e (0 + 1) (0 + ((t : Nat) : Int) * m.mod ^ 0)).1))))), v3v, (21, (.row 3 1 (is .i64 ((L ++ ((visU m e 0 0 t).2)) ++ ((visA m e (0 + 1) (0 + ((t : Nat) : Int) * m.mod ^ 0)).2))))), c4v m k]) (e := [(9009, .pin [.ref 2 0, .ref 3 0, .ref 4 0] us)]) (c_visit m k hM hk hpk e (0 + 1) (0 + ((t : Nat) : Int) * m.mod ^ 0) (F ++ ((visU m e 0 0 t).1)) (L ++ ((visU m e 0 0 t).2)) (by omega) (by omega) hq0 hq1 (by simp only [List.length_append]; omega) (by simp only [List.length_append]; omega)) rfl rfl, ?_⟩
  refine hK8 _ (awp_region rfl ?_)
  refine n_add t 1 gn rfl rfl (by simp only [topOf]; omega) ?_
  refine o_mv (Nv (t + 1)) rfl (aops_end ?_)
  refine ⟨_, _, ?lt, ⟨t + 1, (by omega), rfl, rfl⟩, ?wk⟩
  case lt => omega
  case wk => exact Wk.sub ⟨rfl, rfl, rfl, rfl, rfl, rfl, rfl, rfl, rfl, rfl, rfl, (by first | rfl | exact nm_int (by omega)), trivial⟩ ⟨rfl, rfl, (by first | rfl | exact row_ns (by simp) | (first | exact row_gs' (by rw [vis_fall hf]) | exact row_is (by rw [vis_fall hf]; simp) | exact row_gs' (by rw [vis_left hf hd0]; simp) | exact row_is (by rw [vis_left hf hd0]) | exact row_gs' (List.append_assoc _ _ _) | exact row_is (List.append_assoc _ _ _) | exact row_gs' (List.append_nil _).symm | exact row_is (List.append_nil _).symm | exact row_gs' (by rw [hme, show m.mod.toNat = t by omega]) | exact row_is (by rw [hme, show m.mod.toNat = t by omega]))), rfl, (by first | rfl | exact row_ns (by simp) | (first | exact row_gs' (by rw [vis_fall hf]) | exact row_is (by rw [vis_fall hf]; simp) | exact row_gs' (by rw [vis_left hf hd0]; simp) | exact row_is (by rw [vis_left hf hd0]) | exact row_gs' (List.append_assoc _ _ _) | exact row_is (List.append_assoc _ _ _) | exact row_gs' (List.append_nil _).symm | exact row_is (List.append_nil _).symm | exact row_gs' (by rw [hme, show m.mod.toNat = t by omega]) | exact row_is (by rw [hme, show m.mod.toNat = t by omega]))), rfl, trivial⟩
 ·refine awp_exit ?_
  exact ⟨⟨[], [(9009, .pin [.ref 2 0, .ref 3 0, .ref 4 0] us), v2v, r0v (F ++ ((visA m d 0 0).1)), v3v, r1v (L ++ ((visA m d 0 0).2)), c4v m k]⟩, Wk.sub trivial ⟨rfl, rfl, (by first | rfl | exact row_ns (by simp) | (first | exact row_gs' (by rw [vis_fall hf]) | exact row_is (by rw [vis_fall hf]; simp) | exact row_gs' (by rw [vis_left hf hd0]; simp) | exact row_is (by rw [vis_left hf hd0]) | exact row_gs' (List.append_assoc _ _ _) | exact row_is (List.append_assoc _ _ _) | exact row_gs' (List.append_nil _).symm | exact row_is (List.append_nil _).symm | exact row_gs' (by rw [hme, show m.mod.toNat = t by omega]) | exact row_is (by rw [hme, show m.mod.toNat = t by omega]))), rfl, (by first | rfl | exact row_ns (by simp) | (first | exact row_gs' (by rw [vis_fall hf]) | exact row_is (by rw [vis_fall hf]; simp) | exact row_gs' (by rw [vis_left hf hd0]; simp) | exact row_is (by rw [vis_left hf hd0]) | exact row_gs' (List.append_assoc _ _ _) | exact row_is (List.append_assoc _ _ _) | exact row_gs' (List.append_nil _).symm | exact row_is (List.append_nil _).symm | exact row_gs' (by rw [hme, show m.mod.toNat = t by omega]) | exact row_is (by rw [hme, show m.mod.toNat = t by omega]))), rfl, trivial⟩, ⟨[], trivial, rfl, fun id ob h => keep_pin h rfl, rfl⟩⟩

end Go.Proofs.YtjbaamfahkjhgaaDoor

namespace Go.Mth
open Go Go.Ab
def sieF (m : MapM) (k : Nat) : List Fal := srt (fun x : Fal => x.steps) (srt (fun x : Fal => x.rest) (visA m k 0 0).1)
def sieL (m : MapM) (k : Nat) : List Int := srt (fun x : Int => x) (visA m k 0 0).2
theorem toNat_pow {m : MapM} (hM : OkM m) {k : Nat} (h : m.mod ^ k ≤ 65536) : m.mod.toNat ^ k ≤ 65536 := by
 have h0 := hM.1
 have e : ((m.mod.toNat : Nat) : Int) = m.mod := Int.toNat_of_nonneg (by omega)
 have h1 : ((m.mod.toNat ^ k : Nat) : Int) = m.mod ^ k := by rw [Int.natCast_pow, e]
 omega
theorem chk_nat {m : MapM} (hM : OkM m) {k : Int} (hk : mayS m k) : chkE m k = 0 := chk_0 (okM_iff.2 hM) hk
theorem okM_col : OkM (kinM 3 1) := okM_iff.1 okM_ex
theorem free_col : freeM (kinM 3 1) := fun i hi => by
 have hi : i < 2 := hi
 have : i = 0 ∨ i = 1 := by omega
 rcases this with rfl | rfl <;> decide
theorem may_col3 : mayS (kinM 3 1) ((3 : Nat) : Int) := ⟨free_col, by decide, by decide⟩
theorem may_col4 : mayS (kinM 3 1) 4 := ⟨free_col, by decide, by decide⟩
theorem t0 : txt 0 = ⟨#[48]⟩ := by simp [txt, txtL, decs, strN]; rfl
theorem t1 : txt 1 = ⟨#[49]⟩ := by simp [txt, txtL, decs, strN]; rfl
theorem t2 : txt 2 = ⟨#[50]⟩ := by simp [txt, txtL, decs, strN]; rfl
theorem t3 : txt 3 = ⟨#[51]⟩ := by simp [txt, txtL, decs, strN]; rfl
theorem t4 : txt 4 = ⟨#[52]⟩ := by simp [txt, txtL, decs, strN]; rfl
theorem t5 : txt 5 = ⟨#[53]⟩ := by simp [txt, txtL, decs, strN]; rfl
theorem t9 : txt 9 = ⟨#[57]⟩ := by simp [txt, txtL, decs, strN]; rfl
theorem t16 : txt 16 = ⟨#[49, 54]⟩ := by simp [txt, txtL, decs, strN]; rfl
def ex1 : Fal := ⟨1, 0, ⟨#[49]⟩, ⟨#[48]⟩, ⟨#[50]⟩, ⟨#[48]⟩⟩
def ex2 : Fal := ⟨2, 1, ⟨#[51]⟩, ⟨#[49]⟩, ⟨#[52]⟩, ⟨#[49]⟩⟩
def ex3 : Fal := ⟨4, 3, ⟨#[57]⟩, ⟨#[53]⟩, ⟨#[49, 54]⟩, ⟨#[48]⟩⟩
theorem ex_vis : visA (kinM 3 1) 3 0 0 = ([falO 1 0 ⟨1, 0, 2⟩, falO 2 1 ⟨3, 1, 4⟩], [3, 7]) := rfl
theorem ex_f1 : falO 1 0 ⟨1, 0, 2⟩ = ex1 := by
 show (⟨1, 0, txt 1, txt 0, txt 2, txt 0⟩ : Fal) = _
 rw [t1, t0, t2]; rfl
theorem ex_f2 : falO 2 1 ⟨3, 1, 4⟩ = ex2 := by
 show (⟨2, 1, txt 3, txt 1, txt 4, txt 1⟩ : Fal) = _
 rw [t3, t1, t4]; rfl
theorem ex_F : sieF (kinM 3 1) 3 = [ex1, ex2] := by unfold sieF; rw [ex_vis, ex_f1, ex_f2]; rfl
theorem ex_L : sieL (kinM 3 1) 3 = [3, 7] := by unfold sieL; rw [ex_vis]; rfl
def exN : ByteArray := ⟨#[49,48,48,48,48,48,48,48,48,48,48,48,48,48,48,48,48,48,48,48,48,48,48,48,51]⟩
theorem ex_num : okS exN = true ∧ numS exN = 1000000000000000000000003 := by
 refine ⟨?_, ?_⟩
 ·have h : ∀ i, i < 25 → 48 ≤ byt exN i ∧ byt exN i ≤ 57 := by decide
  exact okS_yes ⟨by decide, by decide, by decide, fun i _ h2 => h i h2⟩
 ·unfold numS; rfl
theorem ex_fnd : fndF (kinM 3 1) 1000000000000000000000003 4 = falO 4 3 ⟨9, 5, 16⟩ ∧ fndB (kinM 3 1) 1000000000000000000000003 4 := by
 have h : ffal (kinM 3 1) 1000000000000000000000003 4 = 4 := by decide
 refine ⟨?_, by unfold fndB; rw [h]; decide⟩
 unfold fndF; rw [if_neg (by rw [h]; decide), h]; rfl
theorem ex_f3 : falO 4 3 ⟨9, 5, 16⟩ = ex3 := by
 show (⟨4, 3, txt 9, txt 5, txt 16, txt 0⟩ : Fal) = _
 rw [t9, t5, t16, t0]; rfl
theorem ex_fd : fdE (kinM 3 1) exN 4 = 0 ∧ fdF (kinM 3 1) exN 4 = ex3 ∧ fdB (kinM 3 1) exN 4 := by
 have h := fd_0 (a := exN) (m := kinM 3 1) ⟨okM_ex, ex_num.1⟩ may_col4
 rw [ex_num.2, show (4 : Int).toNat = 4 from rfl, ex_fnd.1, ex_f3] at h
 exact ⟨h.1, h.2.1, h.2.2.2 ex_fnd.2⟩
end Go.Mth

namespace Go.Ab
open Go.RowKit
end Go.Ab

namespace Go.Proofs.YtjbaamfahkjhgaaDoor
open Go Go.Ab Go.Mth
theorem f109_ : callable cx.P 10 = true := by kernel_rfl
theorem f110_ : tyZero cx.P 28 = some [Go.Value.slice none 0 0] := by kernel_rfl
theorem f111_ : tyZero cx.P 22 = some [Go.Value.slice none 0 0] := by kernel_rfl
theorem f112_ : tyZero cx.P 42 = some [Go.Value.nilFunc] := by kernel_rfl
theorem f113_ : tySize cx.P 42 = some 1 := by kernel_rfl
theorem f114_ : callable cx.P 22 = true := by kernel_rfl
theorem f115_ : callable cx.P 21 = true := by kernel_rfl
theorem f116_ : callable cx.P 23 = true := by kernel_rfl
theorem f117_ : callable cx.P 25 = true := by kernel_rfl
theorem f118_ : callable cx.P 24 = true := by kernel_rfl
theorem c_sSieveL (m : MapM) (k : Nat) (hM : OkM m) (hk : mayS m (k : Int)) : ECalls cx 7 [mapV m, Nv k] (.tup [.sl 6 (gcells cL (sieF m k)), .sl 1 (is .i64 (sieL m k)), nm .i64 0]) := by
 refine ecalls_of_awp Tryd.func7 (c := _) rfl (Nat.le_of_ble_eq_true rfl) ?_
 show awp cx 28 _ (postF cx Tryd.f7 _) ⟨[(0, mapV m), (1, Nv k)], []⟩
 have hM2 := hM
 obtain ⟨o1, o2, o3, o4, o5⟩ := hM2
 have hk1 : 1 ≤ k := by have := hk.2.1; omega
 have hpk : m.mod ^ k ≤ 65536 := hk.2.2
 have hk16 : k ≤ 16 := by have := may_16 hM (k := k) (by assumption); omega
 have hVl := vis_len hM k 0 0
 have hpd : m.mod.toNat ^ k ≤ 65536 := toNat_pow hM hpk
 have hF : (visA m k 0 0).1.length ≤ 1000000 := by omega
 have hL : (visA m k 0 0).2.length ≤ 1000000 := by omega
 refine awp_seq fun K0 hK0 => awp_region rfl ?_
 refine o_box 2 [Iv m.mod, Lv m.mul, Lv m.add] gn rfl rfl ?_
 refine o_box 3 [Nv k] gn rfl rfl ?_
 refine o_as Zv rfl (o_as Zv rfl (o_as (Nv 0) rfl (aops_end (hK0 _ (awp_seq fun K1 hK1 => awp_seq fun K2 hK2 => ?_)))))
 refine awp_wk (σ' := ⟨[(0, mapV m), (1, Nv k), (2, .ref 2 0), (3, .ref 3 0), (4, Zv), (5, Zv), (6, Nv 0)], [(2, oM 24 m), (3, .var 3 [Nv k])]⟩) (Wk.sub ⟨rfl, rfl, rfl, rfl, rfl, rfl, rfl, trivial⟩ ⟨rfl, rfl, trivial⟩) ?_
 refine awp_wk (σ' := ⟨[(0, mapV m), (1, Nv k), (2, mIv m), (3, .ref 3 0), (4, Zv), (5, Zv), (6, Nv 0)], [(3, .var 3 [Nv k])]⟩) (Wk.see (id := 2) (t := 24) (cs := [Iv m.mod, Lv m.mul, Lv m.add]) rfl rfl) ?_
 refine awp_wk (σ' := ⟨[(0, mapV m), (1, Nv k), (2, mIv m), (3, .ip [Nv k]), (4, Zv), (5, Zv), (6, Nv 0)], []⟩) (Wk.see (id := 3) (t := 3) (cs := [Nv k]) rfl rfl) ?_
 refine awp_region rfl ?_
 refine o_loadIA [Iv m.mod, Lv m.mul, Lv m.add] gn f50_ rfl (Nat.le_of_ble_eq_true rfl) rfl ?_
 refine o_loadIS (Nv k) gn f39_ rfl rfl ?_
 refine o_ct (c_scheck m ((k : Nat) : Int) (by first | assumption | omega)) gn f109_ rfl ?_
 refine n_as (v' := (Nv 0)) (by exact congrArg (nm _) (chk_nat hM hk)) ?_
 refine o_as (Nv 0) rfl (aops_end (hK2 _ (awp_seq fun K3 hK3 => awp_region rfl (o_mv (Nv 0) rfl ?_))))
 refine n_neq 0 0 gn rfl rfl ?_
 refine n_as (v' := Fv) (by exact bpn (fun h => h rfl)) ?_
 refine aops_end (hK3 _ ?_)
 refine awp_condB (b := false) rfl (fun hh => absurd (hh.symm.trans rfl) (by decide)) (fun _ => ?_)
 refine awp_skip (hK1 _ (awp_seq fun K4 hK4 => awp_region rfl ?_))
 refine o_alloc 2 [Zv] gn f110_ rfl rfl rfl ?_
 refine aops_end (hK4 _ (awp_seq fun K5 hK5 => awp_region rfl ?_))
 refine o_alloc 3 [Zv] gn f111_ rfl rfl rfl ?_
 refine aops_end (hK5 _ (awp_seq fun K6 hK6 => awp_region rfl ?_))
 refine o_alloc 4 [.lit .nilFunc] gn f112_ rfl rfl rfl ?_
 refine aops_end (hK6 _ (awp_seq fun K7 hK7 => awp_region rfl ?_))
 refine o_makeFunc [mIv m, .ref 2 0, .ip [Nv k], .ref 3 0, .ref 4 0] gn rfl ?_
 refine o_store [c4v m k, (3, .var 22 [Zv]), (2, .var 28 [Zv])] gn f113_ rfl rfl rfl rfl rfl rfl ?_
 refine aops_end (hK7 _ (awp_seq fun K8 hK8 => ?_))
 refine awp_wk (Wk.nilIn (i := 2) (id := 20) (ty := 28) (e := 37) (sz := 6) rfl rfl (by decide)) ?_
 refine awp_wk (Wk.nilIn (i := 3) (id := 21) (ty := 22) (e := 3) (sz := 1) rfl rfl (by decide)) ?_
 refine awp_wk (σ' := ⟨[(8, .ref 2 0), (9, .ref 3 0), (10, .ref 4 0)], [v2v, r0v ([]), v3v, r1v ([]), c4v m k]⟩) (Wk.sub ⟨rfl, rfl, rfl, trivial⟩ ⟨rfl, rfl, rfl, rfl, rfl, trivial⟩) ?_
 refine awp_regionSW 1 19 _ 11 [mIv m, .ref 2 0, .ip [Nv k], .ref 3 0, .ref 4 0] _ _ _ _ _ [Nv 0, Nv 1, Zv, mIv m, .ref 2 0, .ip [Nv k], .ref 3 0, .ref 4 0] (.tup []) [v2v, r0v (([]) ++ ((visA m k 0 0).1)), v3v, r1v (([]) ++ ((visA m k 0 0).2)), c4v m k] rfl rfl rfl f108_ ?_
 refine o_loadS (.clo 11 [mIv m, .ref 2 0, .ip [Nv k], .ref 3 0, .ref 4 0]) gn f106_ rfl rfl rfl ?_
 refine aops_end ⟨_, Wk.sub (σ' := ⟨[(8, .ref 2 0), (9, .ref 3 0), (10, .ref 4 0), (18, .clo 11 [mIv m, .ref 2 0, .ip [Nv k], .ref 3 0, .ref 4 0])], [v2v, r0v ([]), v3v, r1v ([]), c4v m k]⟩) ⟨rfl, rfl, rfl, rfl, trivial⟩ ⟨rfl, rfl, rfl, rfl, rfl, trivial⟩, rfl, rfl, scalls_of_r (K := [2, 3, 4]) (m := [v2v, r0v ([]), v3v, r1v ([]), c4v m k]) (m' := [v2v, r0v (([]) ++ ((visA m k 0 0).1)), v3v, r1v (([]) ++ ((visA m k 0 0).2)), c4v m k]) (e := []) (by have h := c_visit0 m k hM hk16 hpk k [] [] rfl hk1 (by simp; omega) (by simp; omega); rw [Int.pow_zero] at h; exact h) rfl rfl, ?_⟩
 refine hK8 _ (awp_seq fun K9 hK9 => ?_)
 refine awp_regionSW 1 21 _ 21 [] _ _ _ _ _ [.row 20, .clo 22 []] (.tup []) [v2v, (20, (.row 37 6 (gcells cL (srt (fun x : Fal => x.rest) (([]) ++ ((visA m k 0 0).1)))))), v3v, r1v (([]) ++ ((visA m k 0 0).2))] rfl rfl rfl f115_ ?_
 refine o_loadS (.row 20) gn f102_ rfl rfl rfl ?_
 refine aops_end ⟨_, Wk.sub (σ' := ⟨[(19, .tup []), (8, .ref 2 0), (9, .ref 3 0), (20, .row 20)], [v2v, r0v (([]) ++ ((visA m k 0 0).1)), v3v, r1v (([]) ++ ((visA m k 0 0).2))]⟩) ⟨rfl, rfl, rfl, rfl, trivial⟩ ⟨rfl, rfl, rfl, rfl, trivial⟩, rfl, rfl, scalls_of_r (K := [2, 3, 20]) (m := [v2v, r0v (([]) ++ ((visA m k 0 0).1)), v3v, r1v (([]) ++ ((visA m k 0 0).2))]) (m' := [v2v, (20, (.row 37 6 (gcells cL (srt (fun x : Fal => x.rest) (([]) ++ ((visA m k 0 0).1)))))), v3v, r1v (([]) ++ ((visA m k 0 0).2))]) (e := []) (c_orlf 22 (fun x : Fal => x.rest) f114_ c_key2 (([]) ++ ((visA m k 0 0).1)) (([]) ++ ((visA m k 0 0).2)) (by rw [List.nil_append]; exact hF)) rfl rfl, ?_⟩
 refine hK9 _ (awp_seq fun K10 hK10 => ?_)
 refine awp_regionSW 1 23 _ 21 [] _ _ _ _ _ [.row 20, .clo 23 []] (.tup []) [v2v, (20, (.row 37 6 (gcells cL (srt (fun x : Fal => x.steps) (srt (fun x : Fal => x.rest) (([]) ++ ((visA m k 0 0).1))))))), v3v, r1v (([]) ++ ((visA m k 0 0).2))] rfl rfl rfl f115_ ?_
 refine o_loadS (.row 20) gn f102_ rfl rfl rfl ?_
 refine aops_end ⟨_, Wk.sub (σ' := ⟨[(21, .tup []), (19, .tup []), (8, .ref 2 0), (9, .ref 3 0), (20, .row 20), (22, .row 20)], [v2v, (20, (.row 37 6 (gcells cL (srt (fun x : Fal => x.rest) (([]) ++ ((visA m k 0 0).1)))))), v3v, r1v (([]) ++ ((visA m k 0 0).2))]⟩) ⟨rfl, rfl, rfl, rfl, rfl, rfl, trivial⟩ ⟨rfl, rfl, rfl, rfl, trivial⟩, rfl, rfl, scalls_of_r (K := [2, 3, 20]) (m := [v2v, (20, (.row 37 6 (gcells cL (srt (fun x : Fal => x.rest) (([]) ++ ((visA m k 0 0).1)))))), v3v, r1v (([]) ++ ((visA m k 0 0).2))]) (m' := [v2v, (20, (.row 37 6 (gcells cL (srt (fun x : Fal => x.steps) (srt (fun x : Fal => x.rest) (([]) ++ ((visA m k 0 0).1))))))), v3v, r1v (([]) ++ ((visA m k 0 0).2))]) (e := []) (c_orlf 23 (fun x : Fal => x.steps) f116_ c_key3 (srt (fun x : Fal => x.rest) (([]) ++ ((visA m k 0 0).1))) (([]) ++ ((visA m k 0 0).2)) (by rw [srt_len, List.nil_append]; exact hF)) rfl rfl, ?_⟩
 refine hK10 _ (awp_seq fun K11 hK11 => ?_)
 refine awp_regionSW 1 25 _ 24 [] _ _ _ _ _ [.row 21, .clo 25 []] (.tup []) [v2v, (20, (.row 37 6 (gcells cL (srt (fun x : Fal => x.steps) (srt (fun x : Fal => x.rest) (([]) ++ ((visA m k 0 0).1))))))), v3v, (21, (.row 3 1 (is .i64 (srt (fun x : Int => x) (([]) ++ ((visA m k 0 0).2))))))] rfl rfl rfl f118_ ?_
 refine o_loadS (.row 21) gn f42_ rfl rfl rfl ?_
 refine aops_end ⟨_, Wk.sub (σ' := ⟨[(23, .tup []), (21, .tup []), (19, .tup []), (8, .ref 2 0), (9, .ref 3 0), (24, .row 21)], [v2v, (20, (.row 37 6 (gcells cL (srt (fun x : Fal => x.steps) (srt (fun x : Fal => x.rest) (([]) ++ ((visA m k 0 0).1))))))), v3v, r1v (([]) ++ ((visA m k 0 0).2))]⟩) ⟨rfl, rfl, rfl, rfl, rfl, rfl, trivial⟩ ⟨rfl, rfl, rfl, rfl, trivial⟩, rfl, rfl, scalls_of_r (K := [2, 3, 21]) (m := [v2v, (20, (.row 37 6 (gcells cL (srt (fun x : Fal => x.steps) (srt (fun x : Fal => x.rest) (([]) ++ ((visA m k 0 0).1))))))), v3v, r1v (([]) ++ ((visA m k 0 0).2))]) (m' := [v2v, (20, (.row 37 6 (gcells cL (srt (fun x : Fal => x.steps) (srt (fun x : Fal => x.rest) (([]) ++ ((visA m k 0 0).1))))))), v3v, (21, (.row 3 1 (is .i64 (srt (fun x : Int => x) (([]) ++ ((visA m k 0 0).2))))))]) (e := []) (c_orli 25 (fun x : Int => x) f117_ c_key4 (([]) ++ ((visA m k 0 0).2)) (srt (fun x : Fal => x.steps) (srt (fun x : Fal => x.rest) (([]) ++ ((visA m k 0 0).1)))) (by rw [List.nil_append]; exact hL)) rfl rfl, ?_⟩
 refine hK11 _ (awp_seq fun K12 hK12 => awp_regionD rfl ?_)
 refine o_loadS (.row 20) gn f102_ rfl rfl rfl ?_
 refine o_loadS (.row 21) gn f42_ rfl rfl rfl ?_
 refine o_as (.row 20) rfl (o_as (.row 21) rfl (o_as (Nv 0) rfl ?_))
 refine aops_end ⟨by kernel_rfl, ?_⟩
 refine hK12 _ ?_
 refine awp_wk (σ' := ⟨[(4, .row 20), (5, .row 21), (6, Nv 0)], [(20, (.row 37 6 (gcells cL (srt (fun x : Fal => x.steps) (srt (fun x : Fal => x.rest) (([]) ++ ((visA m k 0 0).1))))))), (21, (.row 3 1 (is .i64 (srt (fun x : Int => x) (([]) ++ ((visA m k 0 0).2))))))]⟩) (Wk.sub ⟨rfl, rfl, rfl, trivial⟩ ⟨rfl, rfl, trivial⟩) ?_
 refine awp_wk (σ' := ⟨[(4, (.sl 6 (gcells cL (srt (fun x : Fal => x.steps) (srt (fun x : Fal => x.rest) (([]) ++ ((visA m k 0 0).1))))))), (5, .row 21), (6, Nv 0)], [(21, (.row 3 1 (is .i64 (srt (fun x : Int => x) (([]) ++ ((visA m k 0 0).2))))))]⟩) (Wk.freeze (id := 20) (e := 37) (sz := 6) (cs := (gcells cL (srt (fun x : Fal => x.steps) (srt (fun x : Fal => x.rest) (([]) ++ ((visA m k 0 0).1)))))) rfl) ?_
 refine awp_wk (σ' := ⟨[(4, (.sl 6 (gcells cL (srt (fun x : Fal => x.steps) (srt (fun x : Fal => x.rest) (([]) ++ ((visA m k 0 0).1))))))), (5, (Lv (srt (fun x : Int => x) (([]) ++ ((visA m k 0 0).2))))), (6, Nv 0)], []⟩) (Wk.freeze (id := 21) (e := 3) (sz := 1) (cs := (is .i64 (srt (fun x : Int => x) (([]) ++ ((visA m k 0 0).2))))) rfl) ?_
 refine awp_ret ?_
 refine post_ret ⟨[(.sl 6 (gcells cL (srt (fun x : Fal => x.steps) (srt (fun x : Fal => x.rest) (([]) ++ ((visA m k 0 0).1)))))), (Lv (srt (fun x : Int => x) (([]) ++ ((visA m k 0 0).2)))), Nv 0], ⟨AV.le_refl _, AV.le_refl _, AV.le_refl _, trivial⟩, rfl, ?_⟩
 first | rfl | simp [sieF, sieL]

end Go.Proofs.YtjbaamfahkjhgaaDoor

namespace Go.Proofs.YtjbaamfahkjhgaaDoor
open Go Go.Ab Go.Mth
theorem f119_ : callable cx.P 27 = true := by kernel_rfl
theorem f120_ : callable cx.P 28 = true := by kernel_rfl
theorem f121_ : callable cx.P 29 = true := by kernel_rfl
set_option maxRecDepth 100000 in
theorem c_sFind (m : MapM) (a : ByteArray) (k : Int) (ha : a.size ≤ 9223372036854775807) (hkb : k ≤ 9223372036854775807) : ECalls cx 8 [mapV m, Sv a, Iv k] (.tup [falV (fdF m a k), bp (fdB m a k), nm .i64 (fdE m a k)]) := by
 refine ecalls_of_awp Tryd.func8 (c := _) rfl (Nat.le_of_ble_eq_true rfl) ?_
 show awp cx 87 _ (postF cx Tryd.f8 _) ⟨[(0, mapV m), (1, Sv a), (2, Iv k)], []⟩
 refine awp_seq fun K0 hK0 => awp_region rfl ?_
 refine o_box 2 [Iv m.mod, Lv m.mul, Lv m.add] gn rfl rfl ?_
 refine o_alloc 3 [Nv 0, Nv 0, Sv Ev, Sv Ev, Sv Ev, Sv Ev] gn f70_ rfl rfl rfl ?_
 refine o_as Fv rfl (o_as (Nv 0) rfl (aops_end (hK0 _ (awp_seq fun K1 hK1 => awp_seq fun K2 hK2 => awp_region rfl ?_))))
 refine o_loadA [Iv m.mod, Lv m.mul, Lv m.add] gn f50_ rfl rfl rfl rfl rfl ?_
 refine o_ct (c_sValid m) gn f68_ rfl ?_
 refine o_not (b := okM m) gn rfl ?_
 refine o_mv (.lit (.bool (!(okM m)))) rfl ?_
 refine o_split (b := !(okM m)) 21 rfl (fun h1 => ?_) (fun h1 => ?_)
 ·have hm' : ¬ okM m = true := by simpa using h1
  refine o_skip rfl rfl h1 (o_skip rfl rfl h1 (o_skip rfl rfl h1 ?_))
  refine o_pickT Tv gn rfl h1 rfl ?_
  refine aops_end (hK2 _ ?_)
  refine awp_condB (b := true) rfl (fun _ => ?_) (fun hh => absurd (hh.symm.trans rfl) (by decide))
  refine awp_seq fun K3 hK3 => awp_region rfl ?_
  refine o_build [Nv 0, Nv 0, Sv Ev, Sv Ev, Sv Ev, Sv Ev] [] gn f73_ f70_ rfl rfl rfl ?_
  refine n_as (v' := (falV zFal)) (by exact rfl) ?_
  refine o_store [(3, .var 37 [Iv (zFal.steps), Iv (zFal.rest), Sv (zFal.lmul), Sv (zFal.ladd), Sv (zFal.ldiv), Sv (zFal.bound)]), (2, oM 24 m)] gn f74_ rfl rfl rfl rfl rfl rfl ?_
  refine o_as Fv rfl (o_as (Nv 1) rfl (aops_end (hK3 _ ?_)))
  refine awp_ret ?_
  refine post_ret ⟨[.agg [Iv (zFal.steps), Iv (zFal.rest), Sv (zFal.lmul), Sv (zFal.ladd), Sv (zFal.ldiv), Sv (zFal.bound)], Fv, Nv 1], ⟨⟨3, .var 37 [Iv (zFal.steps), Iv (zFal.rest), Sv (zFal.lmul), Sv (zFal.ladd), Sv (zFal.ldiv), Sv (zFal.bound)], rfl, rfl, rfl, Or.inl ⟨f75_, AV.le_refl _⟩⟩, AV.le_refl _, AV.le_refl _, trivial⟩, rfl, ?_⟩
  first | (have e := fd_1 (m := m) (a := a) (k := k) (fun q => hm' q.1); rw [e.1, e.2.1, bpn e.2.2]; rfl) | (have e := fd_1 (m := m) (a := a) (k := k) (fun q => ha' q.2); rw [e.1, e.2.1, bpn e.2.2]; rfl) | (have e := fd_2 (m := m) (a := a) (k := k) ⟨hm', ha'⟩ h3; rw [e.1, e.2.1, bpn e.2.2]; rfl) | (have e := fd_0 (m := m) (a := a) (k := k) ⟨hm', ha'⟩ hy; rw [e.1, e.2.1, ← hfm.1, hfy.1, bpy (e.2.2.2 (hfm.2.1 hfy.2))]; rfl) | (have e := fd_0 (m := m) (a := a) (k := k) ⟨hm', ha'⟩ hy; have e2 := fnd_no (m := m) (z := Z) (k := k.toNat) (by rw [show k.toNat = i by omega]; exact h0); rw [e.1, e.2.1, ← hfm.1, e2.1, bpn (fun q => e2.2 (hfm.2.2 (e.2.2.1 q)))]; rfl)
 ·have hm' : okM m = true := by simpa using h1
  have hM := okM_iff.1 hm'
  have hM2 := hM
  obtain ⟨o1, o2, o3, o4, o5⟩ := hM2
  refine o_move (Sv a) (Gd.yes rfl rfl h1) rfl ?_
  refine o_ct (c_nValid a (by first | assumption | decide | omega)) (Gd.yes rfl rfl h1) f119_ rfl ?_
  refine o_not (b := okS a) (Gd.yes rfl rfl h1) rfl ?_
  refine o_pickF (.lit (.bool (!(okS a)))) gn rfl h1 rfl ?_
  refine aops_end (hK2 _ ?_)
  refine awp_condB (b := !(okS a)) rfl (fun h2 => ?_) (fun h2 => ?_)
  ·have ha' : ¬ okS a = true := by simpa using h2
   refine awp_seq fun K4 hK4 => awp_region rfl ?_
   refine o_build [Nv 0, Nv 0, Sv Ev, Sv Ev, Sv Ev, Sv Ev] [] gn f73_ f70_ rfl rfl rfl ?_
   refine n_as (v' := (falV zFal)) (by exact rfl) ?_
   refine o_store [(3, .var 37 [Iv (zFal.steps), Iv (zFal.rest), Sv (zFal.lmul), Sv (zFal.ladd), Sv (zFal.ldiv), Sv (zFal.bound)]), (2, oM 24 m)] gn f74_ rfl rfl rfl rfl rfl rfl ?_
   refine o_as Fv rfl (o_as (Nv 1) rfl (aops_end (hK4 _ ?_)))
   refine awp_ret ?_
   refine post_ret ⟨[.agg [Iv (zFal.steps), Iv (zFal.rest), Sv (zFal.lmul), Sv (zFal.ladd), Sv (zFal.ldiv), Sv (zFal.bound)], Fv, Nv 1], ⟨⟨3, .var 37 [Iv (zFal.steps), Iv (zFal.rest), Sv (zFal.lmul), Sv (zFal.ladd), Sv (zFal.ldiv), Sv (zFal.bound)], rfl, rfl, rfl, Or.inl ⟨f75_, AV.le_refl _⟩⟩, AV.le_refl _, AV.le_refl _, trivial⟩, rfl, ?_⟩
   first | (have e := fd_1 (m := m) (a := a) (k := k) (fun q => hm' q.1); rw [e.1, e.2.1, bpn e.2.2]; rfl) | (have e := fd_1 (m := m) (a := a) (k := k) (fun q => ha' q.2); rw [e.1, e.2.1, bpn e.2.2]; rfl) | (have e := fd_2 (m := m) (a := a) (k := k) ⟨hm', ha'⟩ h3; rw [e.1, e.2.1, bpn e.2.2]; rfl) | (have e := fd_0 (m := m) (a := a) (k := k) ⟨hm', ha'⟩ hy; rw [e.1, e.2.1, ← hfm.1, hfy.1, bpy (e.2.2.2 (hfm.2.1 hfy.2))]; rfl) | (have e := fd_0 (m := m) (a := a) (k := k) ⟨hm', ha'⟩ hy; have e2 := fnd_no (m := m) (z := Z) (k := k.toNat) (by rw [show k.toNat = i by omega]; exact h0); rw [e.1, e.2.1, ← hfm.1, e2.1, bpn (fun q => e2.2 (hfm.2.2 (e.2.2.1 q)))]; rfl)
  ·have ha' : okS a = true := by simpa using h2
   have la := len_numS (okS_iff.1 ha')
   refine awp_skip (hK1 _ (awp_seq fun K5 hK5 => awp_seq fun K6 hK6 => awp_region rfl ?_))
   refine o_loadA [Iv m.mod, Lv m.mul, Lv m.add] gn f50_ rfl rfl rfl rfl rfl ?_
   refine o_mv (Iv k) rfl ?_
   refine o_ct (c_scheck m k (by first | assumption | omega)) gn f109_ rfl ?_
   refine o_as (Nv (chkE m k)) rfl (aops_end (hK6 _ (awp_seq fun K7 hK7 => awp_region rfl (o_mv (Nv (chkE m k)) rfl ?_))))
   refine n_neq (chkE m k) 0 gn rfl rfl ?_
   refine aops_end (hK7 _ ?_)
   refine awp_condQ (q := (chkE m k) ≠ 0) rfl (fun h3 => ?_) (fun h3 => ?_)
   ·refine awp_seq fun K8 hK8 => awp_region rfl ?_
    refine o_build [Nv 0, Nv 0, Sv Ev, Sv Ev, Sv Ev, Sv Ev] [] gn f73_ f70_ rfl rfl rfl ?_
    refine n_as (v' := (falV zFal)) (by exact rfl) ?_
    refine o_mv (Nv (chkE m k)) rfl ?_
    refine o_store [(3, .var 37 [Iv (zFal.steps), Iv (zFal.rest), Sv (zFal.lmul), Sv (zFal.ladd), Sv (zFal.ldiv), Sv (zFal.bound)]), (2, oM 24 m)] gn f74_ rfl rfl rfl rfl rfl rfl ?_
    refine o_as Fv rfl (o_as (Nv (chkE m k)) rfl (aops_end (hK8 _ ?_)))
    refine awp_ret ?_
    refine post_ret ⟨[.agg [Iv (zFal.steps), Iv (zFal.rest), Sv (zFal.lmul), Sv (zFal.ladd), Sv (zFal.ldiv), Sv (zFal.bound)], Fv, Nv (chkE m k)], ⟨⟨3, .var 37 [Iv (zFal.steps), Iv (zFal.rest), Sv (zFal.lmul), Sv (zFal.ladd), Sv (zFal.ldiv), Sv (zFal.bound)], rfl, rfl, rfl, Or.inl ⟨f75_, AV.le_refl _⟩⟩, AV.le_refl _, AV.le_refl _, trivial⟩, rfl, ?_⟩
    first | (have e := fd_1 (m := m) (a := a) (k := k) (fun q => hm' q.1); rw [e.1, e.2.1, bpn e.2.2]; rfl) | (have e := fd_1 (m := m) (a := a) (k := k) (fun q => ha' q.2); rw [e.1, e.2.1, bpn e.2.2]; rfl) | (have e := fd_2 (m := m) (a := a) (k := k) ⟨hm', ha'⟩ h3; rw [e.1, e.2.1, bpn e.2.2]; rfl) | (have e := fd_0 (m := m) (a := a) (k := k) ⟨hm', ha'⟩ hy; rw [e.1, e.2.1, ← hfm.1, hfy.1, bpy (e.2.2.2 (hfm.2.1 hfy.2))]; rfl) | (have e := fd_0 (m := m) (a := a) (k := k) ⟨hm', ha'⟩ hy; have e2 := fnd_no (m := m) (z := Z) (k := k.toNat) (by rw [show k.toNat = i by omega]; exact h0); rw [e.1, e.2.1, ← hfm.1, e2.1, bpn (fun q => e2.2 (hfm.2.2 (e.2.2.1 q)))]; rfl)
   ·have hy : mayS m k := Decidable.byContradiction fun e => absurd (chk_2 hm' e) (by rw [Decidable.not_not.1 h3]; decide)
    have hk2 := hy.2.2
    have hk1 := hy.2.1
    have hk16 := may_16 hM hk2
    have hkp : 0 < m.mod ^ k.toNat := Int.pow_pos (by omega)
    obtain ⟨P, hP⟩ : ∃ P : Nat, ((P : Nat) : Int) = m.mod ^ k.toNat := ⟨_, Int.toNat_of_nonneg (Int.le_of_lt hkp)⟩
    obtain ⟨Z, hZ⟩ : ∃ Z : Int, Z = numS a % m.mod ^ k.toNat := ⟨_, rfl⟩
    have hZ0 : 0 ≤ Z := by rw [hZ]; exact Int.emod_nonneg _ (by omega)
    have hZ1 : Z < m.mod ^ k.toNat := by rw [hZ]; exact Int.emod_lt_of_pos _ hkp
    have hfm := fndF_mod hM (numS a) k.toNat
    rw [← hZ] at hfm
    have hzl := small_len (z := Z) (by omega)
    refine awp_skip (hK5 _ (awp_seq fun K9 hK9 => awp_region rfl (o_as (Nv 1) rfl ?_)))
    refine n_as (v' := (Iv (m.mod ^ 0))) (by exact congrArg (fun z => AV.lit (.int .i64 z)) (Int.pow_zero _).symm) ?_
    refine aops_end (hK9 _ (awp_seq fun K10 hK10 => awp_seq fun K11 hK11 => awp_region rfl (o_mv (Iv k) rfl (o_mv (Nv 0) rfl (aops_end (hK11 _ ?_))))))
    refine awp_block ?_
    refine awp_loopR (fun κ σ => ∃ (u : Nat), (u ≤ k.toNat) ∧ (k.toNat - u) = κ ∧ σ = ⟨[(1, Sv a), (2, Iv k), (3, .ref 2 0), (6, .ref 3 0), (10, Iv (m.mod ^ u)), (34, Iv k), (35, Nv u)], [(2, oM 24 m), (3, .var 37 [Nv 0, Nv 0, Sv Ev, Sv Ev, Sv Ev, Sv Ev])]⟩) ⟨_, _, ⟨0, (by omega), rfl, rfl⟩, ?wk0⟩ ?rd0
    case wk0 =>
     exact Wk.sub ⟨rfl, rfl, rfl, rfl, (by first | rfl | exact int_eq (by omega) | exact int_nm (by omega)), rfl, (by first | rfl | exact nm_int (by omega)), trivial⟩ ⟨rfl, rfl, trivial⟩
    rintro κ _ ⟨u, hu, rfl, rfl⟩
    have hpp : 0 < m.mod ^ u := Int.pow_pos (by omega)
    have hb := pow_le_of hM (j := u) (k := k.toNat) (by omega)
    have hmb := Int.mul_le_mul (show m.mod ^ u ≤ 65536 by omega) o2 (show (0 : Int) ≤ m.mod by omega) (by decide)
    have hml := Int.mul_pos hpp (show 0 < m.mod by omega)
    refine awp_seq fun K12 hK12 => awp_region rfl ?_
    refine o_lss (a := ((u : Nat) : Int)) (c := k) gn rfl rfl ?_
    refine aops_end (hK12 _ (awp_seq fun K13 hK13 => ?_))
    refine awp_condQ (q := ((u : Nat) : Int) < k) rfl (fun h4 => ?_) (fun h4 => ?_)
    ·refine awp_skip (hK13 _ (awp_seq fun K14 hK14 => ?_))
     refine awp_block ?_
     refine awp_region rfl (o_mv (Iv (m.mod ^ u)) rfl ?_)
     refine o_fieldRef 0 gn f40_ rfl rfl ?_
     refine o_loadS (Iv m.mod) gn f39_ rfl rfl rfl ?_
     refine o_mul (a := (m.mod ^ u)) (c := m.mod) gn rfl rfl (by exact wrap64 (by omega) (by omega)) ?_
     refine n_as (v' := (Iv (m.mod ^ (u + 1)))) (by exact congrArg (fun z => AV.lit (.int .i64 z)) (Int.pow_succ _ _).symm) ?_
     refine o_as (Iv (m.mod ^ (u + 1))) rfl (aops_end (hK14 _ (awp_region rfl ?_)))
     refine n_add u 1 gn rfl rfl (by simp only [topOf]; omega) ?_
     refine o_mv (Nv (u + 1)) rfl (aops_end ?_)
     refine ⟨_, _, ?lt, ⟨u + 1, (by omega), rfl, rfl⟩, ?wk⟩
     case lt => omega
     case wk => exact Wk.sub ⟨rfl, rfl, rfl, rfl, (by first | rfl | exact int_eq (by omega) | exact int_nm (by omega)), rfl, (by first | rfl | exact nm_int (by omega)), trivial⟩ ⟨rfl, rfl, trivial⟩
    ·refine awp_exit ?_
     refine hK10 _ (awp_seq fun K15 hK15 => awp_region rfl (o_mv (Sv a) rfl ?_))
     refine o_ct (c_wParse a (by first | assumption | exact okS_iff.1 (by assumption))) gn f120_ rfl ?_
     refine o_mv (Iv (m.mod ^ u)) rfl ?_
     refine n_as (v' := (Nv P)) (nm_int (by rw [hP, show k.toNat = u by omega])) ?_
     refine o_ct (c_wQR (numS a) P (by omega) (by omega) (by first | omega | assumption | (simp only [Int.natAbs_neg]; omega))) gn f44_ rfl ?_
     refine o_mv (.tup [(intW ((numS a) / ((P : Nat) : Int))), (Iv ((numS a) % ((P : Nat) : Int)))]) rfl (o_extract (intW ((numS a) / ((P : Nat) : Int))) gn rfl rfl (o_extract (Iv ((numS a) % ((P : Nat) : Int))) gn rfl rfl ?_))
     refine n_as (v' := (Iv Z)) (by exact congrArg (fun z => AV.lit (.int .i64 z)) (by rw [hZ, hP])) ?_
     refine o_alloc 101 [Fv, Zv] gn f5_ rfl rfl rfl ?_
     refine o_store [(101, (oZ 45 .u32 ((numS a) / ((P : Nat) : Int)))), (2, oM 24 m), (3, .var 37 [Nv 0, Nv 0, Sv Ev, Sv Ev, Sv Ev, Sv Ev])] gn f9_ rfl rfl rfl rfl rfl rfl ?_
     refine o_as (Iv Z) rfl (aops_end (hK15 _ (awp_seq fun K16 hK16 => awp_region rfl (o_mv (Iv Z) rfl ?_))))
     refine o_ct (c_wOf Z (by first | decide | omega) (by first | decide | omega)) gn f25_ rfl ?_
     refine o_alloc 102 [Fv, Zv] gn f5_ rfl rfl rfl ?_
     refine o_store [(102, oZ 45 .u32 Z), (101, (oZ 45 .u32 ((numS a) / ((P : Nat) : Int)))), (2, oM 24 m), (3, .var 37 [Nv 0, Nv 0, Sv Ev, Sv Ev, Sv Ev, Sv Ev])] gn f9_ rfl rfl rfl rfl rfl rfl ?_
     refine aops_end (hK16 _ (awp_seq fun K17 hK17 => awp_region rfl (o_as Zv rfl (aops_end (hK17 _ (awp_seq fun K18 hK18 => awp_region rfl (o_as (Nv 1) rfl ?_)))))))
     refine n_as (v' := (Iv (m.mod ^ 0))) (by exact congrArg (fun z => AV.lit (.int .i64 z)) (Int.pow_zero _).symm) ?_
     refine aops_end (hK18 _ (awp_seq fun K19 hK19 => awp_seq fun K20 hK20 => awp_region rfl (o_mv (Iv k) rfl (o_mv (Nv 0) rfl (aops_end (hK20 _ ?_))))))
     refine awp_block ?_
     refine awp_loopR (fun κ σ => ∃ (i : Nat), (i ≤ k.toNat) ∧ (ffal m Z i = 0) ∧ ((digs (iterZ m i Z).natAbs).length ≤ 1 + 4 * i) ∧ (k.toNat - i) = κ ∧ σ = ⟨[(2, Iv k), (3, .ref 2 0), (6, .ref 3 0), (10, Iv (m.mod ^ i)), (12, Iv Z), (13, .ref 4 0), (14, .row 50), (51, Iv k), (52, Nv i)], [(2, oM 24 m), (3, .var 37 [Nv 0, Nv 0, Sv Ev, Sv Ev, Sv Ev, Sv Ev]), (4, oZ 45 .u32 (iterZ m i Z)), (50, .row 3 1 (is .i64 (wordZ m Z i)))]⟩) ⟨_, _, ⟨0, (by omega), rfl, (show (digs Z.natAbs).length ≤ 1 + 4 * 0 by omega), rfl, rfl⟩, ?wk1⟩ ?rd1
     case wk1 =>
      exact Wk.trans (Wk.newNil (i := 14) (id := 603) (e := 3) (sz := 1) rfl rfl (by decide)) (Wk.trans (Wk.sub (σ' := ⟨[(2, Iv k), (3, .ref 2 0), (6, .ref 3 0), (10, Iv (m.mod ^ 0)), (12, Iv Z), (13, .ref 102 0), (14, .row 603), (51, Iv k), (52, Nv 0)], [(2, oM 24 m), (3, .var 37 [Nv 0, Nv 0, Sv Ev, Sv Ev, Sv Ev, Sv Ev]), (102, oZ 45 .u32 Z), (603, .row 3 1 (is .i64 ([])))]⟩) ⟨rfl, rfl, rfl, rfl, rfl, rfl, rfl, rfl, rfl, trivial⟩ ⟨rfl, rfl, rfl, rfl, trivial⟩) (Wk.trans (Wk.ren (id := 102) (id' := 4) rfl) (Wk.trans (Wk.ren (id := 603) (id' := 50) rfl) (Wk.sub ⟨rfl, rfl, rfl, (by first | rfl | exact int_eq (by omega) | exact int_nm (by omega)), rfl, (by first | rfl | simp), (by first | rfl | simp), rfl, (by first | rfl | exact nm_int (by omega)), trivial⟩ ⟨rfl, rfl, rfl, (by first | rfl | exact row_ns (by simp)), trivial⟩))))
     rintro κ _ ⟨i, hi, h0, hlz, rfl, rfl⟩
     have hpp : 0 < m.mod ^ i := Int.pow_pos (by omega)
     have hb := pow_le_of hM (j := i) (k := k.toNat) (by omega)
     have hmb := Int.mul_le_mul (show m.mod ^ i ≤ 65536 by omega) o2 (show (0 : Int) ≤ m.mod by omega) (by decide)
     have hml := Int.mul_pos hpp (show 0 < m.mod by omega)
     have hln := step_len' hM (iterZ m i Z)
     have hW1 := wordZ_is hM Z (i + 1)
     have hL1 := wordZ_len m Z (i + 1)
     have hL2 : ((wordZ m Z i) ++ ([iterZ m i Z % m.mod])).length = i + 1 := hL1
     obtain ⟨M1, M2, M3⟩ := line_len hM (wordZ m Z (i + 1)) hW1
     have hpq : 0 < m.mod ^ (i + 1) := Int.pow_pos (by omega)
     refine awp_seq fun K21 hK21 => awp_region rfl ?_
     refine o_lss (a := ((i : Nat) : Int)) (c := k) gn rfl rfl ?_
     refine aops_end (hK21 _ (awp_seq fun K22 hK22 => ?_))
     refine awp_condQ (q := ((i : Nat) : Int) < k) rfl (fun h5 => ?_) (fun h5 => ?_)
     ·refine awp_skip (hK22 _ (awp_seq fun K23 hK23 => ?_))
      refine awp_block ?_
      refine awp_seq fun K24 hK24 => awp_region rfl ?_
      refine o_loadA [Iv m.mod, Lv m.mul, Lv m.add] gn f50_ rfl rfl rfl rfl rfl ?_
      refine o_loadA [bp ((iterZ m i Z) < 0), .sl 1 (ns .u32 (digs (iterZ m i Z).natAbs))] gn f10_ rfl rfl rfl rfl rfl ?_
      refine o_ct (c_sNext m (iterZ m i Z) (by first | assumption | exact okM_iff.1 (by assumption)) (by first | omega | assumption | (simp only [Int.natAbs_neg]; omega))) gn f121_ rfl ?_
      refine o_mv (.tup [intW (stepZ m (iterZ m i Z)), Iv ((iterZ m i Z) % m.mod)]) rfl (o_extract (intW (stepZ m (iterZ m i Z))) gn rfl rfl (o_extract (Iv ((iterZ m i Z) % m.mod)) gn rfl rfl ?_))
      refine o_alloc 201 [Fv, Zv] gn f5_ rfl rfl rfl ?_
      refine o_store [(201, oZ 45 .u32 (stepZ m (iterZ m i Z))), (2, oM 24 m), (3, .var 37 [Nv 0, Nv 0, Sv Ev, Sv Ev, Sv Ev, Sv Ev]), (4, oZ 45 .u32 (iterZ m i Z)), (50, .row 3 1 (is .i64 (wordZ m Z i)))] gn f9_ rfl rfl rfl rfl rfl rfl ?_
      refine o_as (Iv ((iterZ m i Z) % m.mod)) rfl (aops_end (hK24 _ (awp_seq fun K25 hK25 => awp_region rfl ?_)))
      refine o_loadA [bp ((stepZ m (iterZ m i Z)) < 0), .sl 1 (ns .u32 (digs (stepZ m (iterZ m i Z)).natAbs))] gn f10_ rfl rfl rfl rfl rfl ?_
      refine o_store [(201, oZ 45 .u32 (stepZ m (iterZ m i Z))), (2, oM 24 m), (3, .var 37 [Nv 0, Nv 0, Sv Ev, Sv Ev, Sv Ev, Sv Ev]), (4, oZ 45 .u32 (stepZ m (iterZ m i Z))), (50, .row 3 1 (is .i64 (wordZ m Z i)))] gn f9_ rfl rfl rfl rfl rfl rfl ?_
      refine aops_end (hK25 _ (awp_seq fun K26 hK26 => awp_region rfl (o_mv (.row 50) rfl (o_mv (Iv ((iterZ m i Z) % m.mod)) rfl ?_))))
      refine o_buildSlice 202 (is .i64 ([(iterZ m i Z) % m.mod])) [(0, [Iv ((iterZ m i Z) % m.mod)])] gn f38_ rfl f47_ rfl rfl rfl rfl rfl rfl rfl ?_
      refine i_append 203 (wordZ m Z i) ([(iterZ m i Z) % m.mod]) [(202, .row 3 1 (is .i64 ([(iterZ m i Z) % m.mod]))), (201, oZ 45 .u32 (stepZ m (iterZ m i Z))), (2, oM 24 m), (3, .var 37 [Nv 0, Nv 0, Sv Ev, Sv Ev, Sv Ev, Sv Ev]), (4, oZ 45 .u32 (stepZ m (iterZ m i Z)))] gn f38_ f47_ rfl rfl rfl rfl rfl (by simp only [wordZ_len, List.length_cons, List.length_nil]; omega) (by decide) rfl rfl ?_
      refine o_as (.row 203) rfl (aops_end (hK26 _ (awp_seq fun K27 hK27 => awp_region rfl (o_mv (Iv (m.mod ^ i)) rfl ?_))))
      refine o_fieldRef 0 gn f40_ rfl rfl ?_
      refine o_loadS (Iv m.mod) gn f39_ rfl rfl rfl ?_
      refine o_mul (a := (m.mod ^ i)) (c := m.mod) gn rfl rfl (by exact wrap64 (by omega) (by omega)) ?_
      refine n_as (v' := (Iv (m.mod ^ (i + 1)))) (by exact congrArg (fun z => AV.lit (.int .i64 z)) (Int.pow_succ _ _).symm) ?_
      refine o_as (Iv (m.mod ^ (i + 1))) rfl (aops_end (hK27 _ (awp_seq fun K28 hK28 => ?_)))
      refine awp_wk (σ' := ⟨[(2, Iv k), (3, .ref 2 0), (6, .ref 3 0), (10, Iv (m.mod ^ (i + 1))), (12, Iv Z), (13, .ref 4 0), (14, .row 203), (51, Iv k), (52, Nv i), (53, (bp (((i : Nat) : Int) < k))), (55, mapV m), (56, intW (iterZ m i Z)), (57, .tup [intW (stepZ m (iterZ m i Z)), Iv ((iterZ m i Z) % m.mod)]), (54, .tup [intW (stepZ m (iterZ m i Z)), Iv ((iterZ m i Z) % m.mod)]), (58, intW (stepZ m (iterZ m i Z))), (59, Iv ((iterZ m i Z) % m.mod)), (15, .ref 201 0), (16, Iv ((iterZ m i Z) % m.mod)), (60, intW (stepZ m (iterZ m i Z))), (61, .row 50), (62, Iv ((iterZ m i Z) % m.mod)), (63, .row 202), (64, .row 203), (65, Iv (m.mod ^ i)), (66, .ref 2 0), (67, Iv m.mod), (68, Iv (m.mod ^ (i + 1)))], [(203, .row 3 1 (is .i64 ((wordZ m Z i) ++ ([(iterZ m i Z) % m.mod])))), (202, .row 3 1 (is .i64 ([(iterZ m i Z) % m.mod]))), (201, oZ 45 .u32 (stepZ m (iterZ m i Z))), (2, oM 24 m), (3, .var 37 [Nv 0, Nv 0, Sv Ev, Sv Ev, Sv Ev, Sv Ev]), (4, oZ 45 .u32 (stepZ m (iterZ m i Z)))]⟩) (Wk.sub ⟨rfl, rfl, rfl, rfl, rfl, rfl, rfl, rfl, rfl, rfl, rfl, rfl, rfl, rfl, rfl, rfl, rfl, rfl, rfl, rfl, rfl, rfl, rfl, rfl, rfl, rfl, rfl, trivial⟩ ⟨rfl, rfl, rfl, rfl, rfl, rfl, trivial⟩) ?_
      refine awp_regionSK 2 71 _ 12 [] _ _ _ _ _ [mapV m, .row 203] (linW (lineZ m (wordZ m Z (i + 1)))) [(203, .row 3 1 (is .i64 ((wordZ m Z i) ++ ([(iterZ m i Z) % m.mod])))), (202, .row 3 1 (is .i64 ([(iterZ m i Z) % m.mod]))), (201, oZ 45 .u32 (stepZ m (iterZ m i Z))), (2, oM 24 m), (3, .var 37 [Nv 0, Nv 0, Sv Ev, Sv Ev, Sv Ev, Sv Ev]), (4, oZ 45 .u32 (stepZ m (iterZ m i Z)))] rfl rfl f100_ ?_
      refine o_loadA [Iv m.mod, Lv m.mul, Lv m.add] gn f50_ rfl rfl rfl rfl rfl ?_
      refine o_mv (.row 203) rfl ?_
      refine aops_end ⟨rfl, rfl, ?sc2, ?_⟩
      case sc2 =>
       refine scalls_of_awpB 9011 Tryd.func12 (c := _) rfl (Nat.le_of_ble_eq_true rfl) rfl rfl rfl (fun us2 => ?_)
       show awp cx 25 _ (postS cx Tryd.f12 (linW (lineZ m (wordZ m Z (i + 1)))) [(203, .row 3 1 (is .i64 ((wordZ m Z i) ++ ([(iterZ m i Z) % m.mod])))), (202, .row 3 1 (is .i64 ([(iterZ m i Z) % m.mod]))), (201, oZ 45 .u32 (stepZ m (iterZ m i Z))), (2, oM 24 m), (3, .var 37 [Nv 0, Nv 0, Sv Ev, Sv Ev, Sv Ev, Sv Ev]), (4, oZ 45 .u32 (stepZ m (iterZ m i Z)))] 9011 [.row 203, mapV m, Iv k, .ref 2 0, .ref 3 0, Iv (m.mod ^ (i + 1)), Iv Z, .ref 4 0, .row 203, Iv k, Nv i, (bp (((i : Nat) : Int) < k)), mapV m, intW (iterZ m i Z), .tup [intW (stepZ m (iterZ m i Z)), Iv ((iterZ m i Z) % m.mod)], .tup [intW (stepZ m (iterZ m i Z)), Iv ((iterZ m i Z) % m.mod)], intW (stepZ m (iterZ m i Z)), Iv ((iterZ m i Z) % m.mod), .ref 201 0, Iv ((iterZ m i Z) % m.mod), intW (stepZ m (iterZ m i Z)), .row 50, Iv ((iterZ m i Z) % m.mod), .row 202, .row 203, Iv (m.mod ^ i), .ref 2 0, Iv m.mod, Iv (m.mod ^ (i + 1))] us2) ⟨[(0, mapV m), (1, .row 203)], [(9011, (.pin [.row 203, mapV m, Iv k, .ref 2 0, .ref 3 0, Iv (m.mod ^ (i + 1)), Iv Z, .ref 4 0, .row 203, Iv k, Nv i, (bp (((i : Nat) : Int) < k)), mapV m, intW (iterZ m i Z), .tup [intW (stepZ m (iterZ m i Z)), Iv ((iterZ m i Z) % m.mod)], .tup [intW (stepZ m (iterZ m i Z)), Iv ((iterZ m i Z) % m.mod)], intW (stepZ m (iterZ m i Z)), Iv ((iterZ m i Z) % m.mod), .ref 201 0, Iv ((iterZ m i Z) % m.mod), intW (stepZ m (iterZ m i Z)), .row 50, Iv ((iterZ m i Z) % m.mod), .row 202, .row 203, Iv (m.mod ^ i), .ref 2 0, Iv m.mod, Iv (m.mod ^ (i + 1))] us2)), (203, .row 3 1 (is .i64 ((wordZ m Z i) ++ ([(iterZ m i Z) % m.mod])))), (202, .row 3 1 (is .i64 ([(iterZ m i Z) % m.mod]))), (201, oZ 45 .u32 (stepZ m (iterZ m i Z))), (2, oM 24 m), (3, .var 37 [Nv 0, Nv 0, Sv Ev, Sv Ev, Sv Ev, Sv Ev]), (4, oZ 45 .u32 (stepZ m (iterZ m i Z)))]⟩
       refine awp_seq fun K29 hK29 => awp_region rfl ?_
       refine o_box 204 [Iv m.mod, Lv m.mul, Lv m.add] gn rfl rfl ?_
       refine o_alloc 205 [Fv, Zv, Fv, Zv, Fv, Zv] gn f55_ rfl rfl rfl ?_
       refine aops_end (hK29 _ (awp_seq fun K30 hK30 => awp_region rfl ?_))
       refine o_ct (c_wOf (1 : Int) (by first | decide | omega) (by first | decide | omega)) gn f25_ rfl ?_
       refine o_ct (c_wOf (0 : Int) (by first | decide | omega) (by first | decide | omega)) gn f25_ rfl ?_
       refine o_ct (c_wOf (1 : Int) (by first | decide | omega) (by first | decide | omega)) gn f25_ rfl ?_
       refine o_build [(bp ((1 : Int) < 0)), (.sl 1 (ns .u32 (digs (1 : Int).natAbs))), (bp ((0 : Int) < 0)), (.sl 1 (ns .u32 (digs (0 : Int).natAbs))), (bp ((1 : Int) < 0)), (.sl 1 (ns .u32 (digs (1 : Int).natAbs)))] [(0, [(bp ((1 : Int) < 0)), (.sl 1 (ns .u32 (digs (1 : Int).natAbs)))]), (1, [(bp ((0 : Int) < 0)), (.sl 1 (ns .u32 (digs (0 : Int).natAbs)))]), (2, [(bp ((1 : Int) < 0)), (.sl 1 (ns .u32 (digs (1 : Int).natAbs)))])] gn f56_ f55_ rfl rfl rfl ?_
       refine o_alloc 206 [Fv, Zv, Fv, Zv, Fv, Zv] gn f55_ rfl rfl rfl ?_
       refine o_store [(206, (.var 47 [(bp ((1 : Int) < 0)), (.sl 1 (ns .u32 (digs (1 : Int).natAbs))), (bp ((0 : Int) < 0)), (.sl 1 (ns .u32 (digs (0 : Int).natAbs))), (bp ((1 : Int) < 0)), (.sl 1 (ns .u32 (digs (1 : Int).natAbs)))])), (205, .var 47 [Fv, Zv, Fv, Zv, Fv, Zv]), (204, oM 24 m), (9011, (.pin [.row 203, mapV m, Iv k, .ref 2 0, .ref 3 0, Iv (m.mod ^ (i + 1)), Iv Z, .ref 4 0, .row 203, Iv k, Nv i, (bp (((i : Nat) : Int) < k)), mapV m, intW (iterZ m i Z), .tup [intW (stepZ m (iterZ m i Z)), Iv ((iterZ m i Z) % m.mod)], .tup [intW (stepZ m (iterZ m i Z)), Iv ((iterZ m i Z) % m.mod)], intW (stepZ m (iterZ m i Z)), Iv ((iterZ m i Z) % m.mod), .ref 201 0, Iv ((iterZ m i Z) % m.mod), intW (stepZ m (iterZ m i Z)), .row 50, Iv ((iterZ m i Z) % m.mod), .row 202, .row 203, Iv (m.mod ^ i), .ref 2 0, Iv m.mod, Iv (m.mod ^ (i + 1))] us2)), (203, .row 3 1 (is .i64 ((wordZ m Z i) ++ ([(iterZ m i Z) % m.mod])))), (202, .row 3 1 (is .i64 ([(iterZ m i Z) % m.mod]))), (201, oZ 45 .u32 (stepZ m (iterZ m i Z))), (2, oM 24 m), (3, .var 37 [Nv 0, Nv 0, Sv Ev, Sv Ev, Sv Ev, Sv Ev]), (4, oZ 45 .u32 (stepZ m (iterZ m i Z)))] gn f57_ rfl rfl rfl rfl rfl rfl ?_
       refine aops_end (hK30 _ (awp_seq fun K31 hK31 => awp_region rfl ?_))
       refine o_makeFunc [.ref 204 0, .ref 206 0] gn rfl ?_
       refine o_as (.clo 31 [.ref 204 0, .ref 206 0]) rfl (aops_end (hK31 _ (awp_seq fun K32 hK32 => awp_seq fun K33 hK33 => awp_region rfl (o_mv (.row 203) rfl ?_))))
       refine o_lenRow (((wordZ m Z i) ++ ([(iterZ m i Z) % m.mod])).length) gn f37_ rfl rfl (by simp [is]) ?_
       refine o_mv (Nv 0) rfl (aops_end (hK33 _ ?_))
       refine awp_block ?_
       refine awp_loopR (fun κ σ => ∃ (j : Nat), ∃ (l : LinZ), (j ≤ ((wordZ m Z i) ++ ([(iterZ m i Z) % m.mod])).length) ∧ (l = lineZ m (((wordZ m Z i) ++ ([(iterZ m i Z) % m.mod])).take j)) ∧ (((wordZ m Z i) ++ ([(iterZ m i Z) % m.mod])).length - j) = κ ∧ σ = ⟨[(2, .ref 204 0), (4, .ref 205 0), (5, .ref 206 0), (6, .clo 31 [.ref 204 0, .ref 206 0]), (14, .row 203), (15, Nv (((wordZ m Z i) ++ ([(iterZ m i Z) % m.mod])).length)), (16, Nv j)], [(9011, (.pin [.row 203, mapV m, Iv k, .ref 2 0, .ref 3 0, Iv (m.mod ^ (i + 1)), Iv Z, .ref 4 0, .row 203, Iv k, Nv i, (bp (((i : Nat) : Int) < k)), mapV m, intW (iterZ m i Z), .tup [intW (stepZ m (iterZ m i Z)), Iv ((iterZ m i Z) % m.mod)], .tup [intW (stepZ m (iterZ m i Z)), Iv ((iterZ m i Z) % m.mod)], intW (stepZ m (iterZ m i Z)), Iv ((iterZ m i Z) % m.mod), .ref 201 0, Iv ((iterZ m i Z) % m.mod), intW (stepZ m (iterZ m i Z)), .row 50, Iv ((iterZ m i Z) % m.mod), .row 202, .row 203, Iv (m.mod ^ i), .ref 2 0, Iv m.mod, Iv (m.mod ^ (i + 1))] us2)), (203, .row 3 1 (is .i64 ((wordZ m Z i) ++ ([(iterZ m i Z) % m.mod])))), (202, .row 3 1 (is .i64 ([(iterZ m i Z) % m.mod]))), (201, oZ 45 .u32 (stepZ m (iterZ m i Z))), (2, oM 24 m), (3, .var 37 [Nv 0, Nv 0, Sv Ev, Sv Ev, Sv Ev, Sv Ev]), (4, oZ 45 .u32 (stepZ m (iterZ m i Z))), (204, oM 24 m), (205, .var 47 [Fv, Zv, Fv, Zv, Fv, Zv]), (206, .var 47 [Bv (l.mul), Dv (l.mul), Bv (l.add), Dv (l.add), Bv (l.div), Dv (l.div)])]⟩) ⟨_, _, ⟨0, oneZ, (by omega), rfl, rfl, rfl⟩, ?wk3⟩ ?rd3
       case wk3 =>
        exact Wk.sub ⟨rfl, rfl, rfl, rfl, rfl, rfl, (by first | rfl | exact nm_int (by omega)), trivial⟩ ⟨rfl, rfl, rfl, rfl, rfl, rfl, rfl, rfl, rfl, rfl, trivial⟩
       rintro κ _ ⟨j, l, hj, hl2, rfl, rfl⟩
       refine awp_seq fun K34 hK34 => awp_region rfl ?_
       refine n_lss j (((wordZ m Z i) ++ ([(iterZ m i Z) % m.mod])).length) gn rfl rfl ?_
       refine aops_end (hK34 _ (awp_seq fun K35 hK35 => ?_))
       refine awp_condQ (q := j < (((wordZ m Z i) ++ ([(iterZ m i Z) % m.mod])).length)) rfl (fun h6 => ?_) (fun h6 => ?_)
       ·refine awp_skip (hK35 _ (awp_seq fun K36 hK36 => ?_))
        refine awp_block ?_
        refine awp_seq fun K37 hK37 => awp_region rfl ?_
        refine i_indexRow ((wordZ m Z i) ++ ([(iterZ m i Z) % m.mod])) j gn f38_ rfl rfl rfl (by omega) ?_
        refine i_loadRow ((wordZ m Z i) ++ ([(iterZ m i Z) % m.mod])) j gn f39_ rfl rfl (by omega) ?_
        refine n_as (v' := (Nv ((((wordZ m Z i) ++ ([iterZ m i Z % m.mod])).getD j 0).toNat))) (nm_int (by have hwj := isW_get (show IsW m ((wordZ m Z i) ++ ([iterZ m i Z % m.mod])) from hW1) (show j < ((wordZ m Z i) ++ ([iterZ m i Z % m.mod])).length by assumption); omega)) ?_
        refine o_as (Nv ((((wordZ m Z i) ++ ([iterZ m i Z % m.mod])).getD j 0).toNat)) rfl (aops_end (hK37 _ ?_))
        refine awp_wk (σ' := ⟨[(2, .ref 204 0), (4, .ref 205 0), (5, .ref 206 0), (6, .clo 31 [.ref 204 0, .ref 206 0]), (14, .row 203), (15, Nv (((wordZ m Z i) ++ ([(iterZ m i Z) % m.mod])).length)), (16, Nv j), (17, bp (j < (((wordZ m Z i) ++ ([(iterZ m i Z) % m.mod])).length))), (18, .ref 203 j), (19, Nv ((((wordZ m Z i) ++ ([iterZ m i Z % m.mod])).getD j 0).toNat)), (8, Nv ((((wordZ m Z i) ++ ([iterZ m i Z % m.mod])).getD j 0).toNat))], [(9011, (.pin [.row 203, mapV m, Iv k, .ref 2 0, .ref 3 0, Iv (m.mod ^ (i + 1)), Iv Z, .ref 4 0, .row 203, Iv k, Nv i, (bp (((i : Nat) : Int) < k)), mapV m, intW (iterZ m i Z), .tup [intW (stepZ m (iterZ m i Z)), Iv ((iterZ m i Z) % m.mod)], .tup [intW (stepZ m (iterZ m i Z)), Iv ((iterZ m i Z) % m.mod)], intW (stepZ m (iterZ m i Z)), Iv ((iterZ m i Z) % m.mod), .ref 201 0, Iv ((iterZ m i Z) % m.mod), intW (stepZ m (iterZ m i Z)), .row 50, Iv ((iterZ m i Z) % m.mod), .row 202, .row 203, Iv (m.mod ^ i), .ref 2 0, Iv m.mod, Iv (m.mod ^ (i + 1))] us2)), (203, .row 3 1 (is .i64 ((wordZ m Z i) ++ ([(iterZ m i Z) % m.mod])))), (202, .row 3 1 (is .i64 ([(iterZ m i Z) % m.mod]))), (201, oZ 45 .u32 (stepZ m (iterZ m i Z))), (2, oM 24 m), (3, .var 37 [Nv 0, Nv 0, Sv Ev, Sv Ev, Sv Ev, Sv Ev]), (4, oZ 45 .u32 (stepZ m (iterZ m i Z))), (204, oM 24 m), (205, .var 47 [Fv, Zv, Fv, Zv, Fv, Zv]), (206, .var 47 [Bv (l.mul), Dv (l.mul), Bv (l.add), Dv (l.add), Bv (l.div), Dv (l.div)])]⟩) (Wk.sub ⟨rfl, rfl, rfl, rfl, rfl, rfl, rfl, rfl, rfl, rfl, rfl, trivial⟩ ⟨rfl, rfl, rfl, rfl, rfl, rfl, rfl, rfl, rfl, rfl, trivial⟩) ?_
        refine awp_regionSK 2 22 _ 31 [.ref 204 0, .ref 206 0] _ _ _ _ _ [Nv ((((wordZ m Z i) ++ ([iterZ m i Z % m.mod])).getD j 0).toNat), .ref 204 0, .ref 206 0] (linW (thenZ m l (((wordZ m Z i) ++ ([iterZ m i Z % m.mod])).getD j 0))) [(9011, (.pin [.row 203, mapV m, Iv k, .ref 2 0, .ref 3 0, Iv (m.mod ^ (i + 1)), Iv Z, .ref 4 0, .row 203, Iv k, Nv i, (bp (((i : Nat) : Int) < k)), mapV m, intW (iterZ m i Z), .tup [intW (stepZ m (iterZ m i Z)), Iv ((iterZ m i Z) % m.mod)], .tup [intW (stepZ m (iterZ m i Z)), Iv ((iterZ m i Z) % m.mod)], intW (stepZ m (iterZ m i Z)), Iv ((iterZ m i Z) % m.mod), .ref 201 0, Iv ((iterZ m i Z) % m.mod), intW (stepZ m (iterZ m i Z)), .row 50, Iv ((iterZ m i Z) % m.mod), .row 202, .row 203, Iv (m.mod ^ i), .ref 2 0, Iv m.mod, Iv (m.mod ^ (i + 1))] us2)), (203, .row 3 1 (is .i64 ((wordZ m Z i) ++ ([(iterZ m i Z) % m.mod])))), (202, .row 3 1 (is .i64 ([(iterZ m i Z) % m.mod]))), (201, oZ 45 .u32 (stepZ m (iterZ m i Z))), (2, oM 24 m), (3, .var 37 [Nv 0, Nv 0, Sv Ev, Sv Ev, Sv Ev, Sv Ev]), (4, oZ 45 .u32 (stepZ m (iterZ m i Z))), (204, oM 24 m), (205, .var 47 [Fv, Zv, Fv, Zv, Fv, Zv]), (206, .var 47 [Bv (l.mul), Dv (l.mul), Bv (l.add), Dv (l.add), Bv (l.div), Dv (l.div)])] rfl rfl f58_ ?_
        refine o_mv (.clo 31 [.ref 204 0, .ref 206 0]) rfl (o_mv (Nv ((((wordZ m Z i) ++ ([iterZ m i Z % m.mod])).getD j 0).toNat)) rfl ?_)
        refine aops_end ⟨rfl, rfl, ?sc4, ?_⟩
        case sc4 =>
         refine scalls_of_awpB 9013 Tryd.func31 (c := _) rfl (Nat.le_of_ble_eq_true rfl) rfl rfl rfl (fun us4 => ?_)
         show awp cx 37 _ (postS cx Tryd.f31 (linW (thenZ m l (((wordZ m Z i) ++ ([iterZ m i Z % m.mod])).getD j 0))) [(9011, (.pin [.row 203, mapV m, Iv k, .ref 2 0, .ref 3 0, Iv (m.mod ^ (i + 1)), Iv Z, .ref 4 0, .row 203, Iv k, Nv i, (bp (((i : Nat) : Int) < k)), mapV m, intW (iterZ m i Z), .tup [intW (stepZ m (iterZ m i Z)), Iv ((iterZ m i Z) % m.mod)], .tup [intW (stepZ m (iterZ m i Z)), Iv ((iterZ m i Z) % m.mod)], intW (stepZ m (iterZ m i Z)), Iv ((iterZ m i Z) % m.mod), .ref 201 0, Iv ((iterZ m i Z) % m.mod), intW (stepZ m (iterZ m i Z)), .row 50, Iv ((iterZ m i Z) % m.mod), .row 202, .row 203, Iv (m.mod ^ i), .ref 2 0, Iv m.mod, Iv (m.mod ^ (i + 1))] us2)), (203, .row 3 1 (is .i64 ((wordZ m Z i) ++ ([(iterZ m i Z) % m.mod])))), (202, .row 3 1 (is .i64 ([(iterZ m i Z) % m.mod]))), (201, oZ 45 .u32 (stepZ m (iterZ m i Z))), (2, oM 24 m), (3, .var 37 [Nv 0, Nv 0, Sv Ev, Sv Ev, Sv Ev, Sv Ev]), (4, oZ 45 .u32 (stepZ m (iterZ m i Z))), (204, oM 24 m), (205, .var 47 [Fv, Zv, Fv, Zv, Fv, Zv]), (206, .var 47 [Bv (l.mul), Dv (l.mul), Bv (l.add), Dv (l.add), Bv (l.div), Dv (l.div)])] 9013 [Nv ((((wordZ m Z i) ++ ([iterZ m i Z % m.mod])).getD j 0).toNat), .clo 31 [.ref 204 0, .ref 206 0], .ref 204 0, .ref 205 0, .ref 206 0, .clo 31 [.ref 204 0, .ref 206 0], .row 203, Nv (((wordZ m Z i) ++ ([(iterZ m i Z) % m.mod])).length), Nv j, bp (j < (((wordZ m Z i) ++ ([(iterZ m i Z) % m.mod])).length)), .ref 203 j, Nv ((((wordZ m Z i) ++ ([iterZ m i Z % m.mod])).getD j 0).toNat), Nv ((((wordZ m Z i) ++ ([iterZ m i Z % m.mod])).getD j 0).toNat)] us4) ⟨[(0, Nv ((((wordZ m Z i) ++ ([iterZ m i Z % m.mod])).getD j 0).toNat)), (1, .ref 204 0), (2, .ref 206 0)], [(9013, .pin [Nv ((((wordZ m Z i) ++ ([iterZ m i Z % m.mod])).getD j 0).toNat), .clo 31 [.ref 204 0, .ref 206 0], .ref 204 0, .ref 205 0, .ref 206 0, .clo 31 [.ref 204 0, .ref 206 0], .row 203, Nv (((wordZ m Z i) ++ ([(iterZ m i Z) % m.mod])).length), Nv j, bp (j < (((wordZ m Z i) ++ ([(iterZ m i Z) % m.mod])).length)), .ref 203 j, Nv ((((wordZ m Z i) ++ ([iterZ m i Z % m.mod])).getD j 0).toNat), Nv ((((wordZ m Z i) ++ ([iterZ m i Z % m.mod])).getD j 0).toNat)] us4), (9011, (.pin [.row 203, mapV m, Iv k, .ref 2 0, .ref 3 0, Iv (m.mod ^ (i + 1)), Iv Z, .ref 4 0, .row 203, Iv k, Nv i, (bp (((i : Nat) : Int) < k)), mapV m, intW (iterZ m i Z), .tup [intW (stepZ m (iterZ m i Z)), Iv ((iterZ m i Z) % m.mod)], .tup [intW (stepZ m (iterZ m i Z)), Iv ((iterZ m i Z) % m.mod)], intW (stepZ m (iterZ m i Z)), Iv ((iterZ m i Z) % m.mod), .ref 201 0, Iv ((iterZ m i Z) % m.mod), intW (stepZ m (iterZ m i Z)), .row 50, Iv ((iterZ m i Z) % m.mod), .row 202, .row 203, Iv (m.mod ^ i), .ref 2 0, Iv m.mod, Iv (m.mod ^ (i + 1))] us2)), (203, .row 3 1 (is .i64 ((wordZ m Z i) ++ ([(iterZ m i Z) % m.mod])))), (202, .row 3 1 (is .i64 ([(iterZ m i Z) % m.mod]))), (201, oZ 45 .u32 (stepZ m (iterZ m i Z))), (2, oM 24 m), (3, .var 37 [Nv 0, Nv 0, Sv Ev, Sv Ev, Sv Ev, Sv Ev]), (4, oZ 45 .u32 (stepZ m (iterZ m i Z))), (204, oM 24 m), (205, .var 47 [Fv, Zv, Fv, Zv, Fv, Zv]), (206, .var 47 [Bv (l.mul), Dv (l.mul), Bv (l.add), Dv (l.add), Bv (l.div), Dv (l.div)])]⟩
         have hwj := isW_get (show IsW m ((wordZ m Z i) ++ ([iterZ m i Z % m.mod])) from hW1) (show j < ((wordZ m Z i) ++ ([iterZ m i Z % m.mod])).length by assumption)
         have hor := o5 ((((wordZ m Z i) ++ ([iterZ m i Z % m.mod])).getD j 0).toNat) (by omega)
         obtain ⟨J1, J2, J3⟩ := line_len hM (((wordZ m Z i) ++ ([iterZ m i Z % m.mod])).take j) (isW_take (show IsW m ((wordZ m Z i) ++ ([iterZ m i Z % m.mod])) from hW1) j)
         have J4 : (((wordZ m Z i) ++ ([iterZ m i Z % m.mod])).take j).length ≤ 200 := by rw [List.length_take]; omega
         rw [← hl2] at J1 J2 J3
         have hq1 := small_len (z := ((m.mul).getD ((((wordZ m Z i) ++ ([iterZ m i Z % m.mod])).getD j 0).toNat) 0)) (by omega)
         have ha1 := small_len (z := ((m.add).getD ((((wordZ m Z i) ++ ([iterZ m i Z % m.mod])).getD j 0).toNat) 0)) (by omega)
         have hd1 := small_len (z := m.mod) (by omega)
         have hm1 := len_mulZ l.mul ((m.mul).getD ((((wordZ m Z i) ++ ([iterZ m i Z % m.mod])).getD j 0).toNat) 0)
         have hm2 := len_mulZ l.add ((m.mul).getD ((((wordZ m Z i) ++ ([iterZ m i Z % m.mod])).getD j 0).toNat) 0)
         have hm3 := len_mulZ l.div ((m.add).getD ((((wordZ m Z i) ++ ([iterZ m i Z % m.mod])).getD j 0).toNat) 0)
         refine awp_seq fun K38 hK38 => awp_region rfl ?_
         refine o_alloc 401 [Fv, Zv, Fv, Zv, Fv, Zv] gn f55_ rfl rfl rfl ?_
         refine aops_end (hK38 _ (awp_seq fun K39 hK39 => awp_region rfl ?_))
         refine o_fieldRef 1 gn f41_ rfl rfl ?_
         refine o_loadS (Lv m.mul) gn f42_ rfl rfl rfl ?_
         refine o_mv (Nv ((((wordZ m Z i) ++ ([iterZ m i Z % m.mod])).getD j 0).toNat)) rfl ?_
         refine i_index m.mul ((((wordZ m Z i) ++ ([iterZ m i Z % m.mod])).getD j 0).toNat) gn f38_ rfl rfl (by omega) ?_
         refine i_loadI m.mul ((((wordZ m Z i) ++ ([iterZ m i Z % m.mod])).getD j 0).toNat) gn f39_ rfl (by omega) ?_
         refine o_ct (c_wOf ((m.mul).getD ((((wordZ m Z i) ++ ([iterZ m i Z % m.mod])).getD j 0).toNat) 0) (by first | decide | omega) (by first | decide | omega)) gn f25_ rfl ?_
         refine o_alloc 402 [Fv, Zv] gn f5_ rfl rfl rfl ?_
         refine o_store [(402, oZ 45 .u32 ((m.mul).getD ((((wordZ m Z i) ++ ([iterZ m i Z % m.mod])).getD j 0).toNat) 0)), (401, .var 47 [Fv, Zv, Fv, Zv, Fv, Zv]), (9013, .pin [Nv ((((wordZ m Z i) ++ ([iterZ m i Z % m.mod])).getD j 0).toNat), .clo 31 [.ref 204 0, .ref 206 0], .ref 204 0, .ref 205 0, .ref 206 0, .clo 31 [.ref 204 0, .ref 206 0], .row 203, Nv (((wordZ m Z i) ++ ([(iterZ m i Z) % m.mod])).length), Nv j, bp (j < (((wordZ m Z i) ++ ([(iterZ m i Z) % m.mod])).length)), .ref 203 j, Nv ((((wordZ m Z i) ++ ([iterZ m i Z % m.mod])).getD j 0).toNat), Nv ((((wordZ m Z i) ++ ([iterZ m i Z % m.mod])).getD j 0).toNat)] us4), (9011, (.pin [.row 203, mapV m, Iv k, .ref 2 0, .ref 3 0, Iv (m.mod ^ (i + 1)), Iv Z, .ref 4 0, .row 203, Iv k, Nv i, (bp (((i : Nat) : Int) < k)), mapV m, intW (iterZ m i Z), .tup [intW (stepZ m (iterZ m i Z)), Iv ((iterZ m i Z) % m.mod)], .tup [intW (stepZ m (iterZ m i Z)), Iv ((iterZ m i Z) % m.mod)], intW (stepZ m (iterZ m i Z)), Iv ((iterZ m i Z) % m.mod), .ref 201 0, Iv ((iterZ m i Z) % m.mod), intW (stepZ m (iterZ m i Z)), .row 50, Iv ((iterZ m i Z) % m.mod), .row 202, .row 203, Iv (m.mod ^ i), .ref 2 0, Iv m.mod, Iv (m.mod ^ (i + 1))] us2)), (203, .row 3 1 (is .i64 ((wordZ m Z i) ++ ([(iterZ m i Z) % m.mod])))), (202, .row 3 1 (is .i64 ([(iterZ m i Z) % m.mod]))), (201, oZ 45 .u32 (stepZ m (iterZ m i Z))), (2, oM 24 m), (3, .var 37 [Nv 0, Nv 0, Sv Ev, Sv Ev, Sv Ev, Sv Ev]), (4, oZ 45 .u32 (stepZ m (iterZ m i Z))), (204, oM 24 m), (205, .var 47 [Fv, Zv, Fv, Zv, Fv, Zv]), (206, .var 47 [Bv (l.mul), Dv (l.mul), Bv (l.add), Dv (l.add), Bv (l.div), Dv (l.div)])] gn f9_ rfl rfl rfl rfl rfl rfl ?_
         refine aops_end (hK39 _ (awp_seq fun K40 hK40 => awp_regionD rfl ?_))
         refine o_fieldRef 0 gn f59_ rfl rfl ?_
         refine o_loadA [Bv (l.mul), Dv (l.mul)] gn f10_ rfl rfl rfl rfl rfl ?_
         refine o_loadA [bp ((m.mul).getD ((((wordZ m Z i) ++ ([iterZ m i Z % m.mod])).getD j 0).toNat) 0 < 0), .sl 1 (ns .u32 (digs ((m.mul).getD ((((wordZ m Z i) ++ ([iterZ m i Z % m.mod])).getD j 0).toNat) 0).natAbs))] gn f10_ rfl rfl rfl rfl rfl ?_
         refine o_ct (c_wMul (l.mul) ((m.mul).getD ((((wordZ m Z i) ++ ([iterZ m i Z % m.mod])).getD j 0).toNat) 0) (by first | omega | assumption | (simp only [Int.natAbs_neg]; omega)) (by first | omega | assumption | (simp only [Int.natAbs_neg]; omega))) gn f45_ rfl ?_
         refine o_fieldRef 2 gn f60_ rfl rfl ?_
         refine o_loadA [Bv (l.add), Dv (l.add)] gn f10_ rfl rfl rfl rfl rfl ?_
         refine o_loadA [bp ((m.mul).getD ((((wordZ m Z i) ++ ([iterZ m i Z % m.mod])).getD j 0).toNat) 0 < 0), .sl 1 (ns .u32 (digs ((m.mul).getD ((((wordZ m Z i) ++ ([iterZ m i Z % m.mod])).getD j 0).toNat) 0).natAbs))] gn f10_ rfl rfl rfl rfl rfl ?_
         refine o_ct (c_wMul (l.add) ((m.mul).getD ((((wordZ m Z i) ++ ([iterZ m i Z % m.mod])).getD j 0).toNat) 0) (by first | omega | assumption | (simp only [Int.natAbs_neg]; omega)) (by first | omega | assumption | (simp only [Int.natAbs_neg]; omega))) gn f45_ rfl ?_
         refine o_fieldRef 4 gn f61_ rfl rfl ?_
         refine o_loadA [Bv (l.div), Dv (l.div)] gn f10_ rfl rfl rfl rfl rfl ?_
         refine o_fieldRef 2 gn f43_ rfl rfl ?_
         refine o_loadS (Lv m.add) gn f42_ rfl rfl rfl ?_
         refine o_mv (Nv ((((wordZ m Z i) ++ ([iterZ m i Z % m.mod])).getD j 0).toNat)) rfl ?_
         refine i_index m.add ((((wordZ m Z i) ++ ([iterZ m i Z % m.mod])).getD j 0).toNat) gn f38_ rfl rfl (by omega) ?_
         refine i_loadI m.add ((((wordZ m Z i) ++ ([iterZ m i Z % m.mod])).getD j 0).toNat) gn f39_ rfl (by omega) ?_
         refine o_ct (c_wOf ((m.add).getD ((((wordZ m Z i) ++ ([iterZ m i Z % m.mod])).getD j 0).toNat) 0) (by first | decide | omega) (by first | decide | omega)) gn f25_ rfl ?_
         refine o_ct (c_wMul (l.div) ((m.add).getD ((((wordZ m Z i) ++ ([iterZ m i Z % m.mod])).getD j 0).toNat) 0) (by first | omega | assumption | (simp only [Int.natAbs_neg]; omega)) (by first | omega | assumption | (simp only [Int.natAbs_neg]; omega))) gn f45_ rfl ?_
         refine o_ct (c_wAdd ((l.add) * (m.mul).getD ((((wordZ m Z i) ++ ([iterZ m i Z % m.mod])).getD j 0).toNat) 0) ((l.div) * (m.add).getD ((((wordZ m Z i) ++ ([iterZ m i Z % m.mod])).getD j 0).toNat) 0) (by first | omega | assumption | (simp only [Int.natAbs_neg]; omega)) (by first | omega | assumption | (simp only [Int.natAbs_neg]; omega))) gn f21_ rfl ?_
         refine o_fieldRef 4 gn f61_ rfl rfl ?_
         refine o_loadA [Bv (l.div), Dv (l.div)] gn f10_ rfl rfl rfl rfl rfl ?_
         refine o_fieldRef 0 gn f40_ rfl rfl ?_
         refine o_loadS (Iv m.mod) gn f39_ rfl rfl rfl ?_
         refine o_ct (c_wOf m.mod (by first | decide | omega) (by first | decide | omega)) gn f25_ rfl ?_
         refine o_ct (c_wMul (l.div) m.mod (by first | omega | assumption | (simp only [Int.natAbs_neg]; omega)) (by first | omega | assumption | (simp only [Int.natAbs_neg]; omega))) gn f45_ rfl ?_
         refine o_build [bp (((l.mul) * (m.mul).getD ((((wordZ m Z i) ++ ([iterZ m i Z % m.mod])).getD j 0).toNat) 0) < 0), .sl 1 (ns .u32 (digs ((l.mul) * (m.mul).getD ((((wordZ m Z i) ++ ([iterZ m i Z % m.mod])).getD j 0).toNat) 0).natAbs)), bp ((((l.add) * (m.mul).getD ((((wordZ m Z i) ++ ([iterZ m i Z % m.mod])).getD j 0).toNat) 0) + ((l.div) * (m.add).getD ((((wordZ m Z i) ++ ([iterZ m i Z % m.mod])).getD j 0).toNat) 0)) < 0), .sl 1 (ns .u32 (digs (((l.add) * (m.mul).getD ((((wordZ m Z i) ++ ([iterZ m i Z % m.mod])).getD j 0).toNat) 0) + ((l.div) * (m.add).getD ((((wordZ m Z i) ++ ([iterZ m i Z % m.mod])).getD j 0).toNat) 0)).natAbs)), bp (((l.div) * m.mod) < 0), .sl 1 (ns .u32 (digs ((l.div) * m.mod).natAbs))] [(0, [bp (((l.mul) * (m.mul).getD ((((wordZ m Z i) ++ ([iterZ m i Z % m.mod])).getD j 0).toNat) 0) < 0), .sl 1 (ns .u32 (digs ((l.mul) * (m.mul).getD ((((wordZ m Z i) ++ ([iterZ m i Z % m.mod])).getD j 0).toNat) 0).natAbs))]), (1, [bp ((((l.add) * (m.mul).getD ((((wordZ m Z i) ++ ([iterZ m i Z % m.mod])).getD j 0).toNat) 0) + ((l.div) * (m.add).getD ((((wordZ m Z i) ++ ([iterZ m i Z % m.mod])).getD j 0).toNat) 0)) < 0), .sl 1 (ns .u32 (digs (((l.add) * (m.mul).getD ((((wordZ m Z i) ++ ([iterZ m i Z % m.mod])).getD j 0).toNat) 0) + ((l.div) * (m.add).getD ((((wordZ m Z i) ++ ([iterZ m i Z % m.mod])).getD j 0).toNat) 0)).natAbs))]), (2, [bp (((l.div) * m.mod) < 0), .sl 1 (ns .u32 (digs ((l.div) * m.mod).natAbs))])] gn f56_ f55_ rfl rfl rfl ?_
         refine o_store [(402, oZ 45 .u32 ((m.mul).getD ((((wordZ m Z i) ++ ([iterZ m i Z % m.mod])).getD j 0).toNat) 0)), (401, .var 47 [bp (((l.mul) * (m.mul).getD ((((wordZ m Z i) ++ ([iterZ m i Z % m.mod])).getD j 0).toNat) 0) < 0), .sl 1 (ns .u32 (digs ((l.mul) * (m.mul).getD ((((wordZ m Z i) ++ ([iterZ m i Z % m.mod])).getD j 0).toNat) 0).natAbs)), bp ((((l.add) * (m.mul).getD ((((wordZ m Z i) ++ ([iterZ m i Z % m.mod])).getD j 0).toNat) 0) + ((l.div) * (m.add).getD ((((wordZ m Z i) ++ ([iterZ m i Z % m.mod])).getD j 0).toNat) 0)) < 0), .sl 1 (ns .u32 (digs (((l.add) * (m.mul).getD ((((wordZ m Z i) ++ ([iterZ m i Z % m.mod])).getD j 0).toNat) 0) + ((l.div) * (m.add).getD ((((wordZ m Z i) ++ ([iterZ m i Z % m.mod])).getD j 0).toNat) 0)).natAbs)), bp (((l.div) * m.mod) < 0), .sl 1 (ns .u32 (digs ((l.div) * m.mod).natAbs))]), (9013, .pin [Nv ((((wordZ m Z i) ++ ([iterZ m i Z % m.mod])).getD j 0).toNat), .clo 31 [.ref 204 0, .ref 206 0], .ref 204 0, .ref 205 0, .ref 206 0, .clo 31 [.ref 204 0, .ref 206 0], .row 203, Nv (((wordZ m Z i) ++ ([(iterZ m i Z) % m.mod])).length), Nv j, bp (j < (((wordZ m Z i) ++ ([(iterZ m i Z) % m.mod])).length)), .ref 203 j, Nv ((((wordZ m Z i) ++ ([iterZ m i Z % m.mod])).getD j 0).toNat), Nv ((((wordZ m Z i) ++ ([iterZ m i Z % m.mod])).getD j 0).toNat)] us4), (9011, (.pin [.row 203, mapV m, Iv k, .ref 2 0, .ref 3 0, Iv (m.mod ^ (i + 1)), Iv Z, .ref 4 0, .row 203, Iv k, Nv i, (bp (((i : Nat) : Int) < k)), mapV m, intW (iterZ m i Z), .tup [intW (stepZ m (iterZ m i Z)), Iv ((iterZ m i Z) % m.mod)], .tup [intW (stepZ m (iterZ m i Z)), Iv ((iterZ m i Z) % m.mod)], intW (stepZ m (iterZ m i Z)), Iv ((iterZ m i Z) % m.mod), .ref 201 0, Iv ((iterZ m i Z) % m.mod), intW (stepZ m (iterZ m i Z)), .row 50, Iv ((iterZ m i Z) % m.mod), .row 202, .row 203, Iv (m.mod ^ i), .ref 2 0, Iv m.mod, Iv (m.mod ^ (i + 1))] us2)), (203, .row 3 1 (is .i64 ((wordZ m Z i) ++ ([(iterZ m i Z) % m.mod])))), (202, .row 3 1 (is .i64 ([(iterZ m i Z) % m.mod]))), (201, oZ 45 .u32 (stepZ m (iterZ m i Z))), (2, oM 24 m), (3, .var 37 [Nv 0, Nv 0, Sv Ev, Sv Ev, Sv Ev, Sv Ev]), (4, oZ 45 .u32 (stepZ m (iterZ m i Z))), (204, oM 24 m), (205, .var 47 [Fv, Zv, Fv, Zv, Fv, Zv]), (206, .var 47 [Bv (l.mul), Dv (l.mul), Bv (l.add), Dv (l.add), Bv (l.div), Dv (l.div)])] gn f57_ rfl rfl rfl rfl rfl rfl ?_
         refine aops_end ⟨by kernel_rfl, ?_⟩
         refine hK40 _ ?_
         refine awp_wk (σ' := ⟨[(4, .ref 401 0)], [(9013, .pin [Nv ((((wordZ m Z i) ++ ([iterZ m i Z % m.mod])).getD j 0).toNat), .clo 31 [.ref 204 0, .ref 206 0], .ref 204 0, .ref 205 0, .ref 206 0, .clo 31 [.ref 204 0, .ref 206 0], .row 203, Nv (((wordZ m Z i) ++ ([(iterZ m i Z) % m.mod])).length), Nv j, bp (j < (((wordZ m Z i) ++ ([(iterZ m i Z) % m.mod])).length)), .ref 203 j, Nv ((((wordZ m Z i) ++ ([iterZ m i Z % m.mod])).getD j 0).toNat), Nv ((((wordZ m Z i) ++ ([iterZ m i Z % m.mod])).getD j 0).toNat)] us4), (9011, (.pin [.row 203, mapV m, Iv k, .ref 2 0, .ref 3 0, Iv (m.mod ^ (i + 1)), Iv Z, .ref 4 0, .row 203, Iv k, Nv i, (bp (((i : Nat) : Int) < k)), mapV m, intW (iterZ m i Z), .tup [intW (stepZ m (iterZ m i Z)), Iv ((iterZ m i Z) % m.mod)], .tup [intW (stepZ m (iterZ m i Z)), Iv ((iterZ m i Z) % m.mod)], intW (stepZ m (iterZ m i Z)), Iv ((iterZ m i Z) % m.mod), .ref 201 0, Iv ((iterZ m i Z) % m.mod), intW (stepZ m (iterZ m i Z)), .row 50, Iv ((iterZ m i Z) % m.mod), .row 202, .row 203, Iv (m.mod ^ i), .ref 2 0, Iv m.mod, Iv (m.mod ^ (i + 1))] us2)), (203, .row 3 1 (is .i64 ((wordZ m Z i) ++ ([(iterZ m i Z) % m.mod])))), (202, .row 3 1 (is .i64 ([(iterZ m i Z) % m.mod]))), (201, oZ 45 .u32 (stepZ m (iterZ m i Z))), (2, oM 24 m), (3, .var 37 [Nv 0, Nv 0, Sv Ev, Sv Ev, Sv Ev, Sv Ev]), (4, oZ 45 .u32 (stepZ m (iterZ m i Z))), (204, oM 24 m), (205, .var 47 [Fv, Zv, Fv, Zv, Fv, Zv]), (206, .var 47 [Bv (l.mul), Dv (l.mul), Bv (l.add), Dv (l.add), Bv (l.div), Dv (l.div)]), (401, .var 47 [bp (((l.mul) * (m.mul).getD ((((wordZ m Z i) ++ ([iterZ m i Z % m.mod])).getD j 0).toNat) 0) < 0), .sl 1 (ns .u32 (digs ((l.mul) * (m.mul).getD ((((wordZ m Z i) ++ ([iterZ m i Z % m.mod])).getD j 0).toNat) 0).natAbs)), bp ((((l.add) * (m.mul).getD ((((wordZ m Z i) ++ ([iterZ m i Z % m.mod])).getD j 0).toNat) 0) + ((l.div) * (m.add).getD ((((wordZ m Z i) ++ ([iterZ m i Z % m.mod])).getD j 0).toNat) 0)) < 0), .sl 1 (ns .u32 (digs (((l.add) * (m.mul).getD ((((wordZ m Z i) ++ ([iterZ m i Z % m.mod])).getD j 0).toNat) 0) + ((l.div) * (m.add).getD ((((wordZ m Z i) ++ ([iterZ m i Z % m.mod])).getD j 0).toNat) 0)).natAbs)), bp (((l.div) * m.mod) < 0), .sl 1 (ns .u32 (digs ((l.div) * m.mod).natAbs))])]⟩) (Wk.sub ⟨rfl, trivial⟩ ⟨rfl, rfl, rfl, rfl, rfl, rfl, rfl, rfl, rfl, rfl, rfl, rfl, trivial⟩) ?_
         refine awp_ret ?_
         try dsimp only [thenK, inBlk]
         refine postS_ret (extra := [(401, .var 47 [bp (((l.mul) * (m.mul).getD ((((wordZ m Z i) ++ ([iterZ m i Z % m.mod])).getD j 0).toNat) 0) < 0), .sl 1 (ns .u32 (digs ((l.mul) * (m.mul).getD ((((wordZ m Z i) ++ ([iterZ m i Z % m.mod])).getD j 0).toNat) 0).natAbs)), bp ((((l.add) * (m.mul).getD ((((wordZ m Z i) ++ ([iterZ m i Z % m.mod])).getD j 0).toNat) 0) + ((l.div) * (m.add).getD ((((wordZ m Z i) ++ ([iterZ m i Z % m.mod])).getD j 0).toNat) 0)) < 0), .sl 1 (ns .u32 (digs (((l.add) * (m.mul).getD ((((wordZ m Z i) ++ ([iterZ m i Z % m.mod])).getD j 0).toNat) 0) + ((l.div) * (m.add).getD ((((wordZ m Z i) ++ ([iterZ m i Z % m.mod])).getD j 0).toNat) 0)).natAbs)), bp (((l.div) * m.mod) < 0), .sl 1 (ns .u32 (digs ((l.div) * m.mod).natAbs))])]) ?_ rfl
         refine ⟨[.agg [bp (((l.mul) * (m.mul).getD ((((wordZ m Z i) ++ ([iterZ m i Z % m.mod])).getD j 0).toNat) 0) < 0), .sl 1 (ns .u32 (digs ((l.mul) * (m.mul).getD ((((wordZ m Z i) ++ ([iterZ m i Z % m.mod])).getD j 0).toNat) 0).natAbs)), bp ((((l.add) * (m.mul).getD ((((wordZ m Z i) ++ ([iterZ m i Z % m.mod])).getD j 0).toNat) 0) + ((l.div) * (m.add).getD ((((wordZ m Z i) ++ ([iterZ m i Z % m.mod])).getD j 0).toNat) 0)) < 0), .sl 1 (ns .u32 (digs (((l.add) * (m.mul).getD ((((wordZ m Z i) ++ ([iterZ m i Z % m.mod])).getD j 0).toNat) 0) + ((l.div) * (m.add).getD ((((wordZ m Z i) ++ ([iterZ m i Z % m.mod])).getD j 0).toNat) 0)).natAbs)), bp (((l.div) * m.mod) < 0), .sl 1 (ns .u32 (digs ((l.div) * m.mod).natAbs))]], ⟨⟨401, .var 47 [bp (((l.mul) * (m.mul).getD ((((wordZ m Z i) ++ ([iterZ m i Z % m.mod])).getD j 0).toNat) 0) < 0), .sl 1 (ns .u32 (digs ((l.mul) * (m.mul).getD ((((wordZ m Z i) ++ ([iterZ m i Z % m.mod])).getD j 0).toNat) 0).natAbs)), bp ((((l.add) * (m.mul).getD ((((wordZ m Z i) ++ ([iterZ m i Z % m.mod])).getD j 0).toNat) 0) + ((l.div) * (m.add).getD ((((wordZ m Z i) ++ ([iterZ m i Z % m.mod])).getD j 0).toNat) 0)) < 0), .sl 1 (ns .u32 (digs (((l.add) * (m.mul).getD ((((wordZ m Z i) ++ ([iterZ m i Z % m.mod])).getD j 0).toNat) 0) + ((l.div) * (m.add).getD ((((wordZ m Z i) ++ ([iterZ m i Z % m.mod])).getD j 0).toNat) 0)).natAbs)), bp (((l.div) * m.mod) < 0), .sl 1 (ns .u32 (digs ((l.div) * m.mod).natAbs))], rfl, rfl, rfl, Or.inl ⟨f62_, AV.le_refl _⟩⟩, trivial⟩, ?_⟩
         exact linK_eq (Int.mul_comm _ _) (congr (congrArg HAdd.hAdd (Int.mul_comm _ _)) (Int.mul_comm _ _)) rfl
        refine o_store [(9011, (.pin [.row 203, mapV m, Iv k, .ref 2 0, .ref 3 0, Iv (m.mod ^ (i + 1)), Iv Z, .ref 4 0, .row 203, Iv k, Nv i, (bp (((i : Nat) : Int) < k)), mapV m, intW (iterZ m i Z), .tup [intW (stepZ m (iterZ m i Z)), Iv ((iterZ m i Z) % m.mod)], .tup [intW (stepZ m (iterZ m i Z)), Iv ((iterZ m i Z) % m.mod)], intW (stepZ m (iterZ m i Z)), Iv ((iterZ m i Z) % m.mod), .ref 201 0, Iv ((iterZ m i Z) % m.mod), intW (stepZ m (iterZ m i Z)), .row 50, Iv ((iterZ m i Z) % m.mod), .row 202, .row 203, Iv (m.mod ^ i), .ref 2 0, Iv m.mod, Iv (m.mod ^ (i + 1))] us2)), (203, .row 3 1 (is .i64 ((wordZ m Z i) ++ ([(iterZ m i Z) % m.mod])))), (202, .row 3 1 (is .i64 ([(iterZ m i Z) % m.mod]))), (201, oZ 45 .u32 (stepZ m (iterZ m i Z))), (2, oM 24 m), (3, .var 37 [Nv 0, Nv 0, Sv Ev, Sv Ev, Sv Ev, Sv Ev]), (4, oZ 45 .u32 (stepZ m (iterZ m i Z))), (204, oM 24 m), (205, .var 47 [Fv, Zv, Fv, Zv, Fv, Zv]), (206, .var 47 [Bv ((thenZ m l (((wordZ m Z i) ++ ([iterZ m i Z % m.mod])).getD j 0)).mul), Dv ((thenZ m l (((wordZ m Z i) ++ ([iterZ m i Z % m.mod])).getD j 0)).mul), Bv ((thenZ m l (((wordZ m Z i) ++ ([iterZ m i Z % m.mod])).getD j 0)).add), Dv ((thenZ m l (((wordZ m Z i) ++ ([iterZ m i Z % m.mod])).getD j 0)).add), Bv ((thenZ m l (((wordZ m Z i) ++ ([iterZ m i Z % m.mod])).getD j 0)).div), Dv ((thenZ m l (((wordZ m Z i) ++ ([iterZ m i Z % m.mod])).getD j 0)).div)])] gn f57_ rfl rfl rfl rfl rfl rfl ?_
        refine aops_end (hK36 _ (awp_region rfl ?_))
        refine n_add j 1 gn rfl rfl (by simp only [topOf]; omega) ?_
        refine o_mv (Nv (j + 1)) rfl (aops_end ?_)
        refine ⟨_, _, ?lt, ⟨j + 1, thenZ m l (((wordZ m Z i) ++ ([(iterZ m i Z) % m.mod])).getD j 0), (by omega), (by rw [hl2]; exact lineZ_next (by assumption)), rfl, rfl⟩, ?wk⟩
        case lt => omega
        case wk => exact Wk.sub ⟨rfl, rfl, rfl, rfl, rfl, rfl, (by first | rfl | exact nm_int (by omega)), trivial⟩ ⟨rfl, rfl, rfl, rfl, rfl, rfl, rfl, rfl, rfl, rfl, trivial⟩
       ·refine awp_exit ?_
        refine hK32 _ (awp_seq fun K41 hK41 => awp_region rfl ?_)
        refine o_loadA [Bv (l.mul), Dv (l.mul), Bv (l.add), Dv (l.add), Bv (l.div), Dv (l.div)] gn f62_ rfl rfl rfl rfl rfl ?_
        refine o_store [(9011, (.pin [.row 203, mapV m, Iv k, .ref 2 0, .ref 3 0, Iv (m.mod ^ (i + 1)), Iv Z, .ref 4 0, .row 203, Iv k, Nv i, (bp (((i : Nat) : Int) < k)), mapV m, intW (iterZ m i Z), .tup [intW (stepZ m (iterZ m i Z)), Iv ((iterZ m i Z) % m.mod)], .tup [intW (stepZ m (iterZ m i Z)), Iv ((iterZ m i Z) % m.mod)], intW (stepZ m (iterZ m i Z)), Iv ((iterZ m i Z) % m.mod), .ref 201 0, Iv ((iterZ m i Z) % m.mod), intW (stepZ m (iterZ m i Z)), .row 50, Iv ((iterZ m i Z) % m.mod), .row 202, .row 203, Iv (m.mod ^ i), .ref 2 0, Iv m.mod, Iv (m.mod ^ (i + 1))] us2)), (203, .row 3 1 (is .i64 ((wordZ m Z i) ++ ([(iterZ m i Z) % m.mod])))), (202, .row 3 1 (is .i64 ([(iterZ m i Z) % m.mod]))), (201, oZ 45 .u32 (stepZ m (iterZ m i Z))), (2, oM 24 m), (3, .var 37 [Nv 0, Nv 0, Sv Ev, Sv Ev, Sv Ev, Sv Ev]), (4, oZ 45 .u32 (stepZ m (iterZ m i Z))), (204, oM 24 m), (205, .var 47 [Bv (l.mul), Dv (l.mul), Bv (l.add), Dv (l.add), Bv (l.div), Dv (l.div)]), (206, .var 47 [Bv (l.mul), Dv (l.mul), Bv (l.add), Dv (l.add), Bv (l.div), Dv (l.div)])] gn f57_ rfl rfl rfl rfl rfl rfl ?_
        refine aops_end (hK41 _ ?_)
        refine awp_wk (σ' := ⟨[(4, .ref 205 0)], [(9011, (.pin [.row 203, mapV m, Iv k, .ref 2 0, .ref 3 0, Iv (m.mod ^ (i + 1)), Iv Z, .ref 4 0, .row 203, Iv k, Nv i, (bp (((i : Nat) : Int) < k)), mapV m, intW (iterZ m i Z), .tup [intW (stepZ m (iterZ m i Z)), Iv ((iterZ m i Z) % m.mod)], .tup [intW (stepZ m (iterZ m i Z)), Iv ((iterZ m i Z) % m.mod)], intW (stepZ m (iterZ m i Z)), Iv ((iterZ m i Z) % m.mod), .ref 201 0, Iv ((iterZ m i Z) % m.mod), intW (stepZ m (iterZ m i Z)), .row 50, Iv ((iterZ m i Z) % m.mod), .row 202, .row 203, Iv (m.mod ^ i), .ref 2 0, Iv m.mod, Iv (m.mod ^ (i + 1))] us2)), (203, .row 3 1 (is .i64 ((wordZ m Z i) ++ ([(iterZ m i Z) % m.mod])))), (202, .row 3 1 (is .i64 ([(iterZ m i Z) % m.mod]))), (201, oZ 45 .u32 (stepZ m (iterZ m i Z))), (2, oM 24 m), (3, .var 37 [Nv 0, Nv 0, Sv Ev, Sv Ev, Sv Ev, Sv Ev]), (4, oZ 45 .u32 (stepZ m (iterZ m i Z))), (205, .var 47 [Bv (l.mul), Dv (l.mul), Bv (l.add), Dv (l.add), Bv (l.div), Dv (l.div)])]⟩) (Wk.sub ⟨rfl, trivial⟩ ⟨rfl, rfl, rfl, rfl, rfl, rfl, rfl, rfl, trivial⟩) ?_
        refine awp_ret ?_
        try dsimp only [thenK, inBlk]
        refine postS_ret (extra := [(205, .var 47 [Bv (l.mul), Dv (l.mul), Bv (l.add), Dv (l.add), Bv (l.div), Dv (l.div)])]) ?_ rfl
        refine ⟨[.agg [Bv (l.mul), Dv (l.mul), Bv (l.add), Dv (l.add), Bv (l.div), Dv (l.div)]], ⟨⟨205, .var 47 [Bv (l.mul), Dv (l.mul), Bv (l.add), Dv (l.add), Bv (l.div), Dv (l.div)], rfl, rfl, rfl, Or.inl ⟨f62_, AV.le_refl _⟩⟩, trivial⟩, ?_⟩
        have e9 : j = ((wordZ m Z i) ++ ([iterZ m i Z % m.mod])).length := (by omega); exact congrArg linW (by rw [hl2, e9, List.take_length]; rfl)
      refine o_alloc 204 [Fv, Zv, Fv, Zv, Fv, Zv] gn f55_ rfl rfl rfl ?_
      refine o_store [(204, .var 47 [Bv ((lineZ m (wordZ m Z (i + 1))).mul), Dv ((lineZ m (wordZ m Z (i + 1))).mul), Bv ((lineZ m (wordZ m Z (i + 1))).add), Dv ((lineZ m (wordZ m Z (i + 1))).add), Bv ((lineZ m (wordZ m Z (i + 1))).div), Dv ((lineZ m (wordZ m Z (i + 1))).div)]), (203, .row 3 1 (is .i64 ((wordZ m Z i) ++ ([(iterZ m i Z) % m.mod])))), (202, .row 3 1 (is .i64 ([(iterZ m i Z) % m.mod]))), (201, oZ 45 .u32 (stepZ m (iterZ m i Z))), (2, oM 24 m), (3, .var 37 [Nv 0, Nv 0, Sv Ev, Sv Ev, Sv Ev, Sv Ev]), (4, oZ 45 .u32 (stepZ m (iterZ m i Z)))] gn f57_ rfl rfl rfl rfl rfl rfl ?_
      refine aops_end (hK28 _ (awp_seq fun K42 hK42 => awp_region rfl ?_))
      refine o_fieldRef 0 gn f59_ rfl rfl ?_
      refine o_loadA [Bv ((lineZ m (wordZ m Z (i + 1))).mul), Dv ((lineZ m (wordZ m Z (i + 1))).mul)] gn f10_ rfl rfl rfl rfl rfl ?_
      refine o_fieldRef 4 gn f61_ rfl rfl ?_
      refine o_loadA [Bv ((lineZ m (wordZ m Z (i + 1))).div), Dv ((lineZ m (wordZ m Z (i + 1))).div)] gn f10_ rfl rfl rfl rfl rfl ?_
      refine o_ct (c_wCmp ((lineZ m (wordZ m Z (i + 1))).mul) ((lineZ m (wordZ m Z (i + 1))).div)) gn f101_ rfl ?_
      refine o_lss (a := (cmpZ ((lineZ m (wordZ m Z (i + 1))).mul) ((lineZ m (wordZ m Z (i + 1))).div))) (c := ((0 : Nat) : Int)) gn rfl rfl ?_
      refine aops_end (hK42 _ ?_)
      refine awp_condQ (q := (cmpZ ((lineZ m (wordZ m Z (i + 1))).mul) ((lineZ m (wordZ m Z (i + 1))).div)) < ((0 : Nat) : Int)) rfl (fun h7 => ?_) (fun h7 => ?_)
      ·refine awp_seq fun K43 hK43 => ?_
       have hfw : fallsW m (wordZ m Z (i + 1)) := lcmp.1 (by assumption)
       have hdm : 0 < (lineZ m (wordZ m Z (i + 1))).div - (lineZ m (wordZ m Z (i + 1))).mul := by unfold fallsW at hfw; omega
       have hfy := fnd_yes h0 hfw (k := k.toNat) (by omega)
       refine awp_regionD rfl (o_mv (.row 203) rfl ?_)
       refine o_lenRow (((wordZ m Z i) ++ ([(iterZ m i Z) % m.mod])).length) gn f37_ rfl rfl (by simp [is]) ?_
       refine n_as (v' := (Nv (i + 1))) (by exact congrArg (nm _) (by rw [List.length_append, wordZ_len]; rfl)) ?_
       refine o_mv (Iv Z) rfl (o_mv (Iv (m.mod ^ (i + 1))) rfl ?_)
       refine o_remT (a := Z) (c := (m.mod ^ (i + 1))) gn rfl rfl (by omega) ?_
       refine n_as (v' := (Iv (Z % m.mod ^ (i + 1)))) (by exact congrArg (fun z => AV.lit (.int .i64 z)) (Int.tmod_eq_emod_of_nonneg hZ0)) ?_
       refine o_loadA [Bv ((lineZ m (wordZ m Z (i + 1))).mul), Dv ((lineZ m (wordZ m Z (i + 1))).mul), Bv ((lineZ m (wordZ m Z (i + 1))).add), Dv ((lineZ m (wordZ m Z (i + 1))).add), Bv ((lineZ m (wordZ m Z (i + 1))).div), Dv ((lineZ m (wordZ m Z (i + 1))).div)] gn f62_ rfl rfl rfl rfl rfl ?_
       refine o_ct (c_sfall ((i + 1 : Nat) : Int) (Z % m.mod ^ (i + 1)) (lineZ m (wordZ m Z (i + 1))) (by first | omega | assumption) (by first | omega | assumption) (by first | omega | assumption) (by omega)) gn f103_ rfl ?_
       refine o_store [(204, .var 47 [Bv ((lineZ m (wordZ m Z (i + 1))).mul), Dv ((lineZ m (wordZ m Z (i + 1))).mul), Bv ((lineZ m (wordZ m Z (i + 1))).add), Dv ((lineZ m (wordZ m Z (i + 1))).add), Bv ((lineZ m (wordZ m Z (i + 1))).div), Dv ((lineZ m (wordZ m Z (i + 1))).div)]), (203, .row 3 1 (is .i64 ((wordZ m Z i) ++ ([(iterZ m i Z) % m.mod])))), (202, .row 3 1 (is .i64 ([(iterZ m i Z) % m.mod]))), (201, oZ 45 .u32 (stepZ m (iterZ m i Z))), (2, oM 24 m), (3, (.var 37 [(Iv ((falO ((i + 1 : Nat) : Int) (Z % m.mod ^ (i + 1)) (lineZ m (wordZ m Z (i + 1)))).steps)), (Iv ((falO ((i + 1 : Nat) : Int) (Z % m.mod ^ (i + 1)) (lineZ m (wordZ m Z (i + 1)))).rest)), (Sv ((falO ((i + 1 : Nat) : Int) (Z % m.mod ^ (i + 1)) (lineZ m (wordZ m Z (i + 1)))).lmul)), (Sv ((falO ((i + 1 : Nat) : Int) (Z % m.mod ^ (i + 1)) (lineZ m (wordZ m Z (i + 1)))).ladd)), (Sv ((falO ((i + 1 : Nat) : Int) (Z % m.mod ^ (i + 1)) (lineZ m (wordZ m Z (i + 1)))).ldiv)), (Sv ((falO ((i + 1 : Nat) : Int) (Z % m.mod ^ (i + 1)) (lineZ m (wordZ m Z (i + 1)))).bound))])), (4, oZ 45 .u32 (stepZ m (iterZ m i Z)))] gn f74_ rfl rfl rfl rfl rfl rfl ?_
       refine o_as Tv rfl (o_as (Nv 0) rfl ?_)
       refine aops_end ⟨by kernel_rfl, ?_⟩
       refine hK43 _ ?_
       refine awp_ret ?_
       refine post_ret ⟨[(.agg [(Iv ((falO ((i + 1 : Nat) : Int) (Z % m.mod ^ (i + 1)) (lineZ m (wordZ m Z (i + 1)))).steps)), (Iv ((falO ((i + 1 : Nat) : Int) (Z % m.mod ^ (i + 1)) (lineZ m (wordZ m Z (i + 1)))).rest)), (Sv ((falO ((i + 1 : Nat) : Int) (Z % m.mod ^ (i + 1)) (lineZ m (wordZ m Z (i + 1)))).lmul)), (Sv ((falO ((i + 1 : Nat) : Int) (Z % m.mod ^ (i + 1)) (lineZ m (wordZ m Z (i + 1)))).ladd)), (Sv ((falO ((i + 1 : Nat) : Int) (Z % m.mod ^ (i + 1)) (lineZ m (wordZ m Z (i + 1)))).ldiv)), (Sv ((falO ((i + 1 : Nat) : Int) (Z % m.mod ^ (i + 1)) (lineZ m (wordZ m Z (i + 1)))).bound))]), Tv, Nv 0], ⟨⟨3, (.var 37 [(Iv ((falO ((i + 1 : Nat) : Int) (Z % m.mod ^ (i + 1)) (lineZ m (wordZ m Z (i + 1)))).steps)), (Iv ((falO ((i + 1 : Nat) : Int) (Z % m.mod ^ (i + 1)) (lineZ m (wordZ m Z (i + 1)))).rest)), (Sv ((falO ((i + 1 : Nat) : Int) (Z % m.mod ^ (i + 1)) (lineZ m (wordZ m Z (i + 1)))).lmul)), (Sv ((falO ((i + 1 : Nat) : Int) (Z % m.mod ^ (i + 1)) (lineZ m (wordZ m Z (i + 1)))).ladd)), (Sv ((falO ((i + 1 : Nat) : Int) (Z % m.mod ^ (i + 1)) (lineZ m (wordZ m Z (i + 1)))).ldiv)), (Sv ((falO ((i + 1 : Nat) : Int) (Z % m.mod ^ (i + 1)) (lineZ m (wordZ m Z (i + 1)))).bound))]), rfl, rfl, rfl, Or.inl ⟨f75_, AV.le_refl _⟩⟩, AV.le_refl _, AV.le_refl _, trivial⟩, rfl, ?_⟩
       first | (have e := fd_1 (m := m) (a := a) (k := k) (fun q => hm' q.1); rw [e.1, e.2.1, bpn e.2.2]; rfl) | (have e := fd_1 (m := m) (a := a) (k := k) (fun q => ha' q.2); rw [e.1, e.2.1, bpn e.2.2]; rfl) | (have e := fd_2 (m := m) (a := a) (k := k) ⟨hm', ha'⟩ h3; rw [e.1, e.2.1, bpn e.2.2]; rfl) | (have e := fd_0 (m := m) (a := a) (k := k) ⟨hm', ha'⟩ hy; rw [e.1, e.2.1, ← hfm.1, hfy.1, bpy (e.2.2.2 (hfm.2.1 hfy.2))]; rfl) | (have e := fd_0 (m := m) (a := a) (k := k) ⟨hm', ha'⟩ hy; have e2 := fnd_no (m := m) (z := Z) (k := k.toNat) (by rw [show k.toNat = i by omega]; exact h0); rw [e.1, e.2.1, ← hfm.1, e2.1, bpn (fun q => e2.2 (hfm.2.2 (e.2.2.1 q)))]; rfl)
      ·refine awp_skip (hK23 _ (awp_region rfl ?_))
       refine n_add i 1 gn rfl rfl (by simp only [topOf]; omega) ?_
       refine o_mv (Nv (i + 1)) rfl (aops_end ?_)
       refine ⟨_, _, ?lt, ⟨i + 1, (by omega), (ffal_next h0 (fun e => absurd (lcmp.2 e) (by assumption))), (show (digs (stepZ m (iterZ m i Z)).natAbs).length ≤ 1 + 4 * (i + 1) by omega), rfl, rfl⟩, ?wk⟩
       case lt => omega
       case wk => exact Wk.trans (Wk.sub (σ' := ⟨[(2, Iv k), (3, .ref 2 0), (6, .ref 3 0), (10, Iv (m.mod ^ (i + 1))), (12, Iv Z), (13, .ref 4 0), (14, .row 203), (51, Iv k), (52, Nv (i + 1))], [(2, oM 24 m), (3, .var 37 [Nv 0, Nv 0, Sv Ev, Sv Ev, Sv Ev, Sv Ev]), (4, oZ 45 .u32 (stepZ m (iterZ m i Z))), (203, .row 3 1 (is .i64 ((wordZ m Z i) ++ ([(iterZ m i Z) % m.mod]))))]⟩) ⟨rfl, rfl, rfl, rfl, rfl, rfl, rfl, rfl, rfl, trivial⟩ ⟨rfl, rfl, rfl, rfl, trivial⟩) (Wk.trans (Wk.ren (id := 203) (id' := 50) rfl) (Wk.sub ⟨rfl, rfl, rfl, (by first | rfl | exact int_eq (by omega) | exact int_nm (by omega)), rfl, rfl, (by first | rfl | simp), rfl, (by first | rfl | exact nm_int (by omega)), trivial⟩ ⟨rfl, rfl, rfl, (by first | rfl | exact row_ns (by simp)), trivial⟩))
     ·refine awp_exit ?_
      refine hK19 _ (awp_seq fun K44 hK44 => awp_region rfl ?_)
      refine o_build [Nv 0, Nv 0, Sv Ev, Sv Ev, Sv Ev, Sv Ev] [] gn f73_ f70_ rfl rfl rfl ?_
      refine n_as (v' := (falV zFal)) (by exact rfl) ?_
      refine o_store [(2, oM 24 m), (3, .var 37 [Iv (zFal.steps), Iv (zFal.rest), Sv (zFal.lmul), Sv (zFal.ladd), Sv (zFal.ldiv), Sv (zFal.bound)]), (4, oZ 45 .u32 (iterZ m i Z)), (50, .row 3 1 (is .i64 (wordZ m Z i)))] gn f74_ rfl rfl rfl rfl rfl rfl ?_
      refine o_as Fv rfl (o_as (Nv 0) rfl (aops_end (hK44 _ ?_)))
      refine awp_ret ?_
      refine post_ret ⟨[.agg [Iv (zFal.steps), Iv (zFal.rest), Sv (zFal.lmul), Sv (zFal.ladd), Sv (zFal.ldiv), Sv (zFal.bound)], Fv, Nv 0], ⟨⟨3, .var 37 [Iv (zFal.steps), Iv (zFal.rest), Sv (zFal.lmul), Sv (zFal.ladd), Sv (zFal.ldiv), Sv (zFal.bound)], rfl, rfl, rfl, Or.inl ⟨f75_, AV.le_refl _⟩⟩, AV.le_refl _, AV.le_refl _, trivial⟩, rfl, ?_⟩
      first | (have e := fd_1 (m := m) (a := a) (k := k) (fun q => hm' q.1); rw [e.1, e.2.1, bpn e.2.2]; rfl) | (have e := fd_1 (m := m) (a := a) (k := k) (fun q => ha' q.2); rw [e.1, e.2.1, bpn e.2.2]; rfl) | (have e := fd_2 (m := m) (a := a) (k := k) ⟨hm', ha'⟩ h3; rw [e.1, e.2.1, bpn e.2.2]; rfl) | (have e := fd_0 (m := m) (a := a) (k := k) ⟨hm', ha'⟩ hy; rw [e.1, e.2.1, ← hfm.1, hfy.1, bpy (e.2.2.2 (hfm.2.1 hfy.2))]; rfl) | (have e := fd_0 (m := m) (a := a) (k := k) ⟨hm', ha'⟩ hy; have e2 := fnd_no (m := m) (z := Z) (k := k.toNat) (by rw [show k.toNat = i by omega]; exact h0); rw [e.1, e.2.1, ← hfm.1, e2.1, bpn (fun q => e2.2 (hfm.2.2 (e.2.2.1 q)))]; rfl)

end Go.Proofs.YtjbaamfahkjhgaaDoor

namespace Go.Proofs.YtjbaamfahkjhgaaDoor
open Go Go.Ab Go.Mth
theorem f122_ : callable cx.P 4 = true := by kernel_rfl
theorem f123_ : callable cx.P 7 = true := by kernel_rfl
theorem f124_ : callable cx.P 8 = true := by kernel_rfl
theorem f125_ : tyField cx.P 37 3 = some (5, 9) := by kernel_rfl
theorem f126_ : tySc cx.P 9 = true := by kernel_rfl
theorem f127_ : callable cx.P 9 = true := by kernel_rfl
theorem c_awake4  : ECalls cx 6 [] (.lit (.bool true)) := by
 refine ecalls_of_awp Tryd.func6 (c := _) rfl (Nat.le_of_ble_eq_true rfl) ?_
 show awp cx 68 _ (postF cx Tryd.f6 _) ⟨[], []⟩
 refine awp_seq fun K0 hK0 => awp_region rfl (o_as Fv rfl (aops_end (hK0 _ (awp_seq fun K1 hK1 => awp_region rfl ?_))))
 refine o_ct c_gCollatz gn f122_ rfl ?_
 refine o_alloc 2 [Nv 0, Zv, Zv] gn f46_ rfl rfl rfl ?_
 refine o_store [(2, oM 24 (kinM 3 1))] gn f49_ rfl rfl rfl rfl rfl rfl ?_
 refine aops_end (hK1 _ (awp_seq fun K2 hK2 => awp_region rfl ?_))
 refine o_loadA [Iv ((kinM 3 1).mod), Lv ((kinM 3 1).mul), Lv ((kinM 3 1).add)] gn f50_ rfl rfl rfl rfl rfl ?_
 refine o_call [mapV (kinM 3 1), Nv 3] (.tup [.sl 6 (gcells cL ([ex1, ex2])), Lv ([3, 7]), Nv 0]) gn f123_ rfl (by have h := c_sSieveL (kinM 3 1) 3 okM_col may_col3; rw [ex_F, ex_L] at h; exact h) ?_
 refine o_mv (.tup [.sl 6 (gcells cL ([ex1, ex2])), Lv ([3, 7]), Nv 0]) rfl (o_extract (.sl 6 (gcells cL ([ex1, ex2]))) gn rfl rfl (o_extract (Lv ([3, 7])) gn rfl rfl (o_extract (Nv 0) gn rfl rfl (o_as (.sl 6 (gcells cL ([ex1, ex2]))) rfl (o_as (Lv ([3, 7])) rfl (o_as (Nv 0) rfl (aops_end (hK2 _ (awp_seq fun K3 hK3 => awp_region rfl ?_)))))))))
 refine o_loadA [Iv ((kinM 3 1).mod), Lv ((kinM 3 1).mul), Lv ((kinM 3 1).add)] gn f50_ rfl rfl rfl rfl rfl ?_
 refine o_call [mapV (kinM 3 1), (Sv ({data := #[49, 48, 48, 48, 48, 48, 48, 48, 48, 48, 48, 48, 48, 48, 48, 48, 48, 48, 48, 48, 48, 48, 48, 48, 51]} : ByteArray)), Nv 4] (.tup [falV ex3, Tv, Nv 0]) gn f124_ rfl (by have h := c_sFind (kinM 3 1) exN 4 (by decide) (by decide); rw [ex_fd.1, ex_fd.2.1, bpy ex_fd.2.2] at h; exact h) ?_
 refine o_mv (.tup [falV ex3, Tv, Nv 0]) rfl (o_extract (falV ex3) gn rfl rfl (o_extract Tv gn rfl rfl (o_extract (Nv 0) gn rfl rfl ?_)))
 refine o_alloc 3 [Nv 0, Nv 0, Sv Ev, Sv Ev, Sv Ev, Sv Ev] gn f70_ rfl rfl rfl ?_
 refine o_store [(3, .var 37 [Iv (ex3.steps), Iv (ex3.rest), Sv (ex3.lmul), Sv (ex3.ladd), Sv (ex3.ldiv), Sv (ex3.bound)]), (2, oM 24 (kinM 3 1))] gn f74_ rfl rfl rfl rfl rfl rfl ?_
 refine o_as Tv rfl (o_as (Nv 0) rfl (aops_end (hK3 _ (awp_seq fun K4 hK4 => awp_region rfl (o_mv (Nv 0) rfl ?_)))))
 refine n_eql 0 0 gn rfl rfl ?_
 refine n_as (v' := Tv) (by exact bpy (by first | rfl | decide)) ?_
 refine o_mv Tv rfl (o_move (.sl 6 (gcells cL ([ex1, ex2]))) (Gd.yes rfl rfl rfl) rfl ?_)
 refine g_len cL ([ex1, ex2]) cL_len (Gd.yes rfl rfl rfl) f94_ rfl ?_
 refine n_eql (([ex1, ex2]).length) 2 (Gd.yes rfl rfl rfl) rfl rfl ?_
 refine n_as (v' := Tv) (by exact bpy (by first | rfl | decide)) ?_
 refine o_pickT Tv gn rfl rfl rfl ?_
 refine o_mv Tv rfl (o_move (.sl 6 (gcells cL ([ex1, ex2]))) (Gd.yes rfl rfl rfl) rfl ?_)
 refine g_index cL ([ex1, ex2]) 0 cL_len rfl (Gd.yes rfl rfl rfl) f76_ rfl rfl (by decide) ?_
 refine g_field cL ([ex1, ex2]) 0 cL_len (Gd.yes rfl rfl rfl) f92_ rfl (by decide) rfl ?_
 refine g_loadS cL ([ex1, ex2]) 0 default (Iv ((([ex1, ex2]).getD 0 default).steps)) cL_len (Gd.yes rfl rfl rfl) f39_ rfl (by decide) rfl ?_
 refine o_eql (a := ((([ex1, ex2]).getD 0 default).steps)) (c := ((1 : Nat) : Int)) (Gd.yes rfl rfl rfl) rfl rfl ?_
 refine n_as (v' := Tv) (by exact bpy (by first | rfl | decide)) ?_
 refine o_pickT Tv gn rfl rfl rfl ?_
 refine o_mv Tv rfl (o_move (.sl 6 (gcells cL ([ex1, ex2]))) (Gd.yes rfl rfl rfl) rfl ?_)
 refine g_index cL ([ex1, ex2]) 0 cL_len rfl (Gd.yes rfl rfl rfl) f76_ rfl rfl (by decide) ?_
 refine g_field cL ([ex1, ex2]) 0 cL_len (Gd.yes rfl rfl rfl) f125_ rfl (by decide) rfl ?_
 refine g_loadS cL ([ex1, ex2]) 0 default (Sv ((([ex1, ex2]).getD 0 default).bound)) cL_len (Gd.yes rfl rfl rfl) f126_ rfl (by decide) rfl ?_
 refine o_eqlS (a := ((([ex1, ex2]).getD 0 default).bound)) (c := ({data := #[48]} : ByteArray)) (Gd.yes rfl rfl rfl) rfl rfl ?_
 refine n_as (v' := Tv) (by exact bpy (by first | rfl | decide)) ?_
 refine o_pickT Tv gn rfl rfl rfl ?_
 refine o_mv Tv rfl (o_move (.sl 6 (gcells cL ([ex1, ex2]))) (Gd.yes rfl rfl rfl) rfl ?_)
 refine g_index cL ([ex1, ex2]) 1 cL_len rfl (Gd.yes rfl rfl rfl) f76_ rfl rfl (by decide) ?_
 refine g_loadA cL ([ex1, ex2]) 1 default cL_len (Gd.yes rfl rfl rfl) f75_ rfl (by decide) ?_
 refine o_build [(Sv ({data := #[51]} : ByteArray)), (Sv ({data := #[49]} : ByteArray)), (Sv ({data := #[52]} : ByteArray))] [(0, [(Sv ({data := #[51]} : ByteArray))]), (1, [(Sv ({data := #[49]} : ByteArray))]), (2, [(Sv ({data := #[52]} : ByteArray))])] (Gd.yes rfl rfl rfl) f65_ f63_ rfl rfl rfl ?_
 refine o_build [Nv 2, Nv 1, (Sv ({data := #[51]} : ByteArray)), (Sv ({data := #[49]} : ByteArray)), (Sv ({data := #[52]} : ByteArray)), (Sv ({data := #[49]} : ByteArray))] [(0, [Nv 2]), (1, [Nv 1]), (2, [(Sv ({data := #[51]} : ByteArray)), (Sv ({data := #[49]} : ByteArray)), (Sv ({data := #[52]} : ByteArray))]), (3, [(Sv ({data := #[49]} : ByteArray))])] (Gd.yes rfl rfl rfl) f73_ f70_ rfl rfl rfl ?_
 refine o_eqlA [.int .i64 ((([ex1, ex2]).getD 1 default).steps), .int .i64 ((([ex1, ex2]).getD 1 default).rest), .string ((([ex1, ex2]).getD 1 default).lmul), .string ((([ex1, ex2]).getD 1 default).ladd), .string ((([ex1, ex2]).getD 1 default).ldiv), .string ((([ex1, ex2]).getD 1 default).bound)] [.int .i64 ((2 : Nat) : Int), .int .i64 ((1 : Nat) : Int), .string ({data := #[51]} : ByteArray), .string ({data := #[49]} : ByteArray), .string ({data := #[52]} : ByteArray), .string ({data := #[49]} : ByteArray)] (((([ex1, ex2]).getD 1 default).steps) = ((2 : Nat) : Int) ∧ ((([ex1, ex2]).getD 1 default).rest) = ((1 : Nat) : Int) ∧ ((([ex1, ex2]).getD 1 default).lmul) = ({data := #[51]} : ByteArray) ∧ ((([ex1, ex2]).getD 1 default).ladd) = ({data := #[49]} : ByteArray) ∧ ((([ex1, ex2]).getD 1 default).ldiv) = ({data := #[52]} : ByteArray) ∧ ((([ex1, ex2]).getD 1 default).bound) = ({data := #[49]} : ByteArray)) (Gd.yes rfl rfl rfl) rfl rfl (eq_api_Fall _ _ _ _ _ _ _ _ _ _ _ _) ?_
 refine n_as (v' := Tv) (by exact bpy (by first | rfl | decide)) ?_
 refine o_pickT Tv gn rfl rfl rfl ?_
 refine o_mv Tv rfl (o_move (Lv ([3, 7])) (Gd.yes rfl rfl rfl) rfl ?_)
 refine o_buildSlice 4 (is .i64 ([((3 : Nat) : Int), ((7 : Nat) : Int)])) [(0, [Nv 3]), (1, [Nv 7])] (Gd.yes rfl rfl rfl) f38_ rfl f47_ rfl rfl rfl rfl rfl rfl rfl ?_
 refine o_callG [(4, 1, (is .i64 ([((3 : Nat) : Int), ((7 : Nat) : Int)])))] [Lv ([3, 7]), (Lv ([((3 : Nat) : Int), ((7 : Nat) : Int)]))] _ (bp ([3, 7] = [((3 : Nat) : Int), ((7 : Nat) : Int)])) [(3, .var 37 [Iv (ex3.steps), Iv (ex3.rest), Sv (ex3.lmul), Sv (ex3.ladd), Sv (ex3.ldiv), Sv (ex3.bound)]), (2, oM 24 (kinM 3 1))] (Gd.yes rfl rfl rfl) f127_ rfl ⟨⟨_, rfl⟩, trivial⟩ rfl rfl (LeL.cons (AV.le_refl _) (LeL.cons (AV.le_refl _) LeL.nil)) (c_gAlike ([3, 7]) ([((3 : Nat) : Int), ((7 : Nat) : Int)])) rfl ?_
 refine n_as (v' := Tv) (by exact bpy (by first | rfl | decide)) ?_
 refine o_pickT Tv gn rfl rfl rfl ?_
 refine o_mv Tv rfl (o_move (Nv 0) (Gd.yes rfl rfl rfl) rfl ?_)
 refine n_eql 0 0 (Gd.yes rfl rfl rfl) rfl rfl ?_
 refine n_as (v' := Tv) (by exact bpy (by first | rfl | decide)) ?_
 refine o_pickT Tv gn rfl rfl rfl ?_
 refine o_mv Tv rfl (o_move Tv (Gd.yes rfl rfl rfl) rfl ?_)
 refine o_pickT Tv gn rfl rfl rfl ?_
 refine o_mv Tv rfl ?_
 refine o_loadA [Iv (ex3.steps), Iv (ex3.rest), Sv (ex3.lmul), Sv (ex3.ladd), Sv (ex3.ldiv), Sv (ex3.bound)] (Gd.yes rfl rfl rfl) f75_ rfl rfl rfl rfl rfl ?_
 refine o_build [(Sv ({data := #[57]} : ByteArray)), (Sv ({data := #[53]} : ByteArray)), (Sv ({data := #[49, 54]} : ByteArray))] [(0, [(Sv ({data := #[57]} : ByteArray))]), (1, [(Sv ({data := #[53]} : ByteArray))]), (2, [(Sv ({data := #[49, 54]} : ByteArray))])] (Gd.yes rfl rfl rfl) f65_ f63_ rfl rfl rfl ?_
 refine o_build [Nv 4, Nv 3, (Sv ({data := #[57]} : ByteArray)), (Sv ({data := #[53]} : ByteArray)), (Sv ({data := #[49, 54]} : ByteArray)), (Sv ({data := #[48]} : ByteArray))] [(0, [Nv 4]), (1, [Nv 3]), (2, [(Sv ({data := #[57]} : ByteArray)), (Sv ({data := #[53]} : ByteArray)), (Sv ({data := #[49, 54]} : ByteArray))]), (3, [(Sv ({data := #[48]} : ByteArray))])] (Gd.yes rfl rfl rfl) f73_ f70_ rfl rfl rfl ?_
 refine o_eqlA [.int .i64 (ex3.steps), .int .i64 (ex3.rest), .string (ex3.lmul), .string (ex3.ladd), .string (ex3.ldiv), .string (ex3.bound)] [.int .i64 ((4 : Nat) : Int), .int .i64 ((3 : Nat) : Int), .string ({data := #[57]} : ByteArray), .string ({data := #[53]} : ByteArray), .string ({data := #[49, 54]} : ByteArray), .string ({data := #[48]} : ByteArray)] ((ex3.steps) = ((4 : Nat) : Int) ∧ (ex3.rest) = ((3 : Nat) : Int) ∧ (ex3.lmul) = ({data := #[57]} : ByteArray) ∧ (ex3.ladd) = ({data := #[53]} : ByteArray) ∧ (ex3.ldiv) = ({data := #[49, 54]} : ByteArray) ∧ (ex3.bound) = ({data := #[48]} : ByteArray)) (Gd.yes rfl rfl rfl) rfl rfl (eq_api_Fall _ _ _ _ _ _ _ _ _ _ _ _) ?_
 refine n_as (v' := Tv) (by exact bpy (by first | rfl | decide)) ?_
 refine o_pickT Tv gn rfl rfl rfl ?_
 refine o_as Tv rfl (aops_end (hK4 _ ?_))
 refine awp_ret ?_
 refine post_ret ⟨[Tv], ⟨AV.le_refl _, trivial⟩, rfl, ?_⟩
 rfl

end Go.Proofs.YtjbaamfahkjhgaaDoor

namespace Go.Mth
open Go Go.Ab
def rF (m : MapM) (i : Nat) : Nat → List Fal
 | 0 => []
 | R + 1 => rF m i R ++ (if ffal m ((R : Nat) : Int) i = i then [falO ((i : Nat) : Int) ((R : Nat) : Int) (fln m ((R : Nat) : Int) i)] else [])
def rL (m : MapM) (K : Nat) : Nat → List Int
 | 0 => []
 | R + 1 => rL m K R ++ (if ffal m ((R : Nat) : Int) K = 0 then [((R : Nat) : Int)] else [])
def refFi (m : MapM) : Nat → List Fal
 | 0 => []
 | i + 1 => refFi m i ++ rF m (i + 1) (m.mod ^ (i + 1)).toNat
def refU (m : MapM) (K i R : Nat) : List Int := if i = K then rL m K R else []
end Go.Mth

namespace Go.Mth
open Go Go.Ab
def fAt (m : MapM) (i : Nat) (x : Int) : Fal := falO ((i : Nat) : Int) x (lineZ m (wordZ m x i))
theorem visT_mem1 {g : Nat → List Fal × List Int} {f : Fal} : ∀ {T : Nat}, f ∈ (visT g T).1 ↔ ∃ t, t < T ∧ f ∈ (g t).1
 | 0 => by simp [visT]
 | T + 1 => by
  rw [visT]
  simp only [List.mem_append]
  rw [visT_mem1]
  constructor
  ·rintro (⟨t, h1, h2⟩ | h)
   ·exact ⟨t, by omega, h2⟩
   ·exact ⟨T, by omega, h⟩
  ·rintro ⟨t, h1, h2⟩
   rcases Nat.lt_or_ge t T with h | h
   ·exact .inl ⟨t, h, h2⟩
   ·right; rw [show T = t by omega]; exact h2
theorem visT_mem2 {g : Nat → List Fal × List Int} {f : Int} : ∀ {T : Nat}, f ∈ (visT g T).2 ↔ ∃ t, t < T ∧ f ∈ (g t).2
 | 0 => by simp [visT]
 | T + 1 => by
  rw [visT]
  simp only [List.mem_append]
  rw [visT_mem2]
  constructor
  ·rintro (⟨t, h1, h2⟩ | h)
   ·exact ⟨t, by omega, h2⟩
   ·exact ⟨T, by omega, h⟩
  ·rintro ⟨t, h1, h2⟩
   rcases Nat.lt_or_ge t T with h | h
   ·exact .inl ⟨t, h, h2⟩
   ·right; rw [show T = t by omega]; exact h2
theorem digit {b : Int} (hb : 2 ≤ b) (x : Int) (n : Nat) : ∃ t : Nat, t < b.toNat ∧ x % b ^ (n + 1) = x % b ^ n + ((t : Nat) : Int) * b ^ n := by
 have hp : 0 < b ^ n := Int.pow_pos (by omega)
 have hp1 : 0 < b ^ (n + 1) := Int.pow_pos (by omega)
 have hs : b ^ (n + 1) = b ^ n * b := Int.pow_succ b n
 have h0 := Int.emod_nonneg x (show b ^ (n + 1) ≠ 0 by omega)
 have h1 := Int.emod_lt_of_pos x hp1
 have hm : x % b ^ (n + 1) % b ^ n = x % b ^ n := Int.emod_emod_of_dvd _ ⟨b, hs⟩
 have he := Int.emod_add_mul_ediv (x % b ^ (n + 1)) (b ^ n)
 have q0 : 0 ≤ x % b ^ (n + 1) / b ^ n := Int.ediv_nonneg h0 (Int.le_of_lt hp)
 have q1 : x % b ^ (n + 1) / b ^ n < b := Int.ediv_lt_of_lt_mul hp (by rw [Int.mul_comm, ← hs]; exact h1)
 refine ⟨(x % b ^ (n + 1) / b ^ n).toNat, by omega, ?_⟩
 rw [Int.toNat_of_nonneg q0, Int.mul_comm, ← hm]
 omega
theorem ffal_n {m : MapM} {r : Int} {n : Nat} (hff : ∀ j, j + 1 = n → ffal m r j = 0) (h : ¬ fallN m r n) : ffal m r n = 0 := by
 cases n with
 | zero => rfl
 | succ j => exact ffal_next (hff j rfl) fun e => h ⟨by omega, e⟩
theorem at_n {m : MapM} {r x : Int} {n : Nat} (hx0 : 0 ≤ x) (hx1 : x < m.mod ^ n) (hr : x % m.mod ^ n = r) : x = r := by rw [← hr, Int.emod_eq_of_lt hx0 hx1]
theorem vis_mem {m : MapM} (hm : OkM m) : ∀ (d n : Nat) (r : Int), 0 ≤ r → r < m.mod ^ n → (∀ j, j + 1 = n → ffal m r j = 0) →
  (∀ f, f ∈ (visA m d n r).1 ↔ ∃ (i : Nat) (x : Int), (n ≤ i ∧ i ≤ n + d ∧ 1 ≤ i) ∧ (0 ≤ x ∧ x < m.mod ^ i) ∧ x % m.mod ^ n = r ∧ ffal m x i = i ∧ f = fAt m i x) ∧
  (∀ x, x ∈ (visA m d n r).2 ↔ (0 ≤ x ∧ x < m.mod ^ (n + d)) ∧ x % m.mod ^ n = r ∧ ffal m x (n + d) = 0) := by
 intro d
 induction d with
 | zero =>
  intro n r h0 h1 hff
  by_cases hf : fallN m r n
  ·rw [vis_fall hf]
   obtain ⟨j, rfl⟩ : ∃ j, n = j + 1 := ⟨n - 1, by have := hf.1; omega⟩
   have hh := ffal_hit (hff j rfl) hf.2 (Nat.le_refl _)
   refine ⟨fun f => ?_, fun x => ?_⟩
   ·constructor
    ·intro h
     rw [List.mem_singleton] at h
     exact ⟨j + 1, r, ⟨by omega, by omega, by omega⟩, ⟨h0, h1⟩, Int.emod_eq_of_lt h0 h1, hh, h⟩
    ·rintro ⟨i, x, ⟨a1, a2, a3⟩, ⟨x0, x1⟩, hr, hi, rfl⟩
     obtain rfl : i = j + 1 := by omega
     rw [at_n x0 x1 hr, List.mem_singleton]; rfl
   ·constructor
    ·intro h; simp at h
    ·rintro ⟨⟨x0, x1⟩, hr, hi⟩
     rw [at_n x0 x1 hr, Nat.add_zero, hh] at hi
     omega
  ·rw [vis_left hf rfl]
   have hz := ffal_n hff hf
   refine ⟨fun f => ?_, fun x => ?_⟩
   ·constructor
    ·intro h; simp at h
    ·rintro ⟨i, x, ⟨a1, a2, a3⟩, ⟨x0, x1⟩, hr, hi, rfl⟩
     obtain rfl : i = n := by omega
     rw [at_n x0 x1 hr, hz] at hi
     omega
   ·rw [List.mem_singleton]
    constructor
    ·rintro rfl; exact ⟨⟨h0, h1⟩, Int.emod_eq_of_lt h0 h1, hz⟩
    ·rintro ⟨⟨x0, x1⟩, hr, hi⟩; exact at_n x0 x1 hr
 | succ d ih =>
  intro n r h0 h1 hff
  have h2 := hm.1
  have hp : 0 < m.mod ^ n := Int.pow_pos (by omega)
  by_cases hf : fallN m r n
  ·rw [vis_fall hf]
   obtain ⟨j, rfl⟩ : ∃ j, n = j + 1 := ⟨n - 1, by have := hf.1; omega⟩
   have hh := ffal_hit (hff j rfl) hf.2 (Nat.le_refl _)
   have same : ∀ x : Int, x % m.mod ^ (j + 1) = r → fallsW m (wordZ m x (j + 1)) := fun x hx => by
    rw [← word_mod hm x (Nat.le_refl (j + 1)), hx]; exact hf.2
   refine ⟨fun f => ?_, fun x => ?_⟩
   ·constructor
    ·intro h
     rw [List.mem_singleton] at h
     exact ⟨j + 1, r, ⟨by omega, by omega, by omega⟩, ⟨h0, h1⟩, Int.emod_eq_of_lt h0 h1, hh, h⟩
    ·rintro ⟨i, x, ⟨a1, a2, a3⟩, ⟨x0, x1⟩, hr, hi, rfl⟩
     have hy := ffal_yes (m := m) (z := x) (k := i) (by omega)
     have : ¬ j + 1 < i := fun e => hy.2 (j + 1) (by omega) (by omega) (same x hr)
     obtain rfl : i = j + 1 := by omega
     rw [at_n x0 x1 hr, List.mem_singleton]; rfl
   ·constructor
    ·intro h; simp at h
    ·rintro ⟨⟨x0, x1⟩, hr, hi⟩
     exact absurd (same x hr) (ffal_zero hi (j + 1) (by omega) (by omega))
  ·rw [vis_more hf rfl]
   have hz := ffal_n hff hf
   unfold visU
   have hq : ∀ t : Nat, t < m.mod.toNat → (0 ≤ r + ((t : Nat) : Int) * m.mod ^ n ∧ r + ((t : Nat) : Int) * m.mod ^ n < m.mod ^ (n + 1)) ∧ (r + ((t : Nat) : Int) * m.mod ^ n) % m.mod ^ n = r ∧ ∀ j, j + 1 = n + 1 → ffal m (r + ((t : Nat) : Int) * m.mod ^ n) j = 0 := fun t ht => by
    have e : (r + ((t : Nat) : Int) * m.mod ^ n) % m.mod ^ n = r := by rw [Int.add_mul_emod_self_right, Int.emod_eq_of_lt h0 h1]
    refine ⟨vis_rest hm h0 h1 ht, e, fun j hj => ?_⟩
    obtain rfl : j = n := by omega
    rw [← ffal_mod hm, e]; exact hz
   have key : ∀ x : Int, ∃ t : Nat, t < m.mod.toNat ∧ x % m.mod ^ (n + 1) = x % m.mod ^ n + ((t : Nat) : Int) * m.mod ^ n := fun x => digit h2 x n
   refine ⟨fun f => ?_, fun x => ?_⟩
   ·rw [visT_mem1]
    constructor
    ·rintro ⟨t, ht, hft⟩
     obtain ⟨⟨q0, q1⟩, q2, q3⟩ := hq t ht
     obtain ⟨i, x, ⟨a1, a2, a3⟩, hx, hr, hi, he⟩ := ((ih (n + 1) _ q0 q1 q3).1 f).1 hft
     refine ⟨i, x, ⟨by omega, by omega, a3⟩, hx, ?_, hi, he⟩
     rw [← mod_mod x (show n ≤ n + 1 by omega), hr, q2]
    ·rintro ⟨i, x, ⟨a1, a2, a3⟩, ⟨x0, x1⟩, hr, hi, he⟩
     have hin : ¬ i = n := fun e => by
      subst e
      rw [at_n x0 x1 hr, hz] at hi
      omega
     obtain ⟨t, ht, ex⟩ := key x
     obtain ⟨⟨q0, q1⟩, q2, q3⟩ := hq t ht
     refine ⟨t, ht, ((ih (n + 1) _ q0 q1 q3).1 f).2 ⟨i, x, ⟨by omega, by omega, a3⟩, ⟨x0, x1⟩, by rw [ex, hr], hi, he⟩⟩
   ·rw [visT_mem2]
    constructor
    ·rintro ⟨t, ht, hft⟩
     obtain ⟨⟨q0, q1⟩, q2, q3⟩ := hq t ht
     obtain ⟨hx, hr, hi⟩ := ((ih (n + 1) _ q0 q1 q3).2 x).1 hft
     rw [show n + 1 + d = n + (d + 1) by omega] at hx hi
     refine ⟨hx, ?_, hi⟩
     rw [← mod_mod x (show n ≤ n + 1 by omega), hr, q2]
    ·rintro ⟨hx, hr, hi⟩
     obtain ⟨t, ht, ex⟩ := key x
     obtain ⟨⟨q0, q1⟩, q2, q3⟩ := hq t ht
     refine ⟨t, ht, ((ih (n + 1) _ q0 q1 q3).2 x).2 ?_⟩
     rw [show n + 1 + d = n + (d + 1) by omega]
     exact ⟨hx, by rw [ex, hr], hi⟩
theorem visT_pw1 {g : Nat → List Fal × List Int} {Q : Fal → Fal → Prop} : ∀ {T : Nat}, (∀ t, t < T → (g t).1.Pairwise Q) → (∀ s t, s < t → t < T → ∀ a ∈ (g s).1, ∀ b ∈ (g t).1, Q a b) → (visT g T).1.Pairwise Q
 | 0, _, _ => List.Pairwise.nil
 | T + 1, h1, h2 => by
  rw [visT]
  refine List.pairwise_append.2 ⟨visT_pw1 (fun t ht => h1 t (by omega)) (fun s t hs ht => h2 s t hs (by omega)), h1 T (by omega), fun a ha b hb => ?_⟩
  obtain ⟨s, hs, ha⟩ := visT_mem1.1 ha
  exact h2 s T hs (by omega) a ha b hb
theorem visT_pw2 {g : Nat → List Fal × List Int} {Q : Int → Int → Prop} : ∀ {T : Nat}, (∀ t, t < T → (g t).2.Pairwise Q) → (∀ s t, s < t → t < T → ∀ a ∈ (g s).2, ∀ b ∈ (g t).2, Q a b) → (visT g T).2.Pairwise Q
 | 0, _, _ => List.Pairwise.nil
 | T + 1, h1, h2 => by
  rw [visT]
  refine List.pairwise_append.2 ⟨visT_pw2 (fun t ht => h1 t (by omega)) (fun s t hs ht => h2 s t hs (by omega)), h1 T (by omega), fun a ha b hb => ?_⟩
  obtain ⟨s, hs, ha⟩ := visT_mem2.1 ha
  exact h2 s T hs (by omega) a ha b hb
theorem rt_ne {m : MapM} (hm : OkM m) {r : Int} {n s t : Nat} (h : s < t) : r + ((s : Nat) : Int) * m.mod ^ n ≠ r + ((t : Nat) : Int) * m.mod ^ n := fun e => by
 have hp : 0 < m.mod ^ n := Int.pow_pos (by have := hm.1; omega)
 have : ((s : Nat) : Int) = ((t : Nat) : Int) := Int.eq_of_mul_eq_mul_right (by omega) (show ((s : Nat) : Int) * m.mod ^ n = ((t : Nat) : Int) * m.mod ^ n by omega)
 omega
theorem vis_pw {m : MapM} (hm : OkM m) : ∀ (d n : Nat) (r : Int), 0 ≤ r → r < m.mod ^ n → (∀ j, j + 1 = n → ffal m r j = 0) →
  (visA m d n r).1.Pairwise (fun a b => a.rest ≠ b.rest) ∧ (visA m d n r).2.Pairwise (fun a b => a ≠ b) := by
 intro d
 induction d with
 | zero =>
  intro n r h0 h1 hff
  by_cases hf : fallN m r n
  ·rw [vis_fall hf]; exact ⟨by simp, by simp⟩
  ·rw [vis_left hf rfl]; exact ⟨by simp, by simp⟩
 | succ d ih =>
  intro n r h0 h1 hff
  by_cases hf : fallN m r n
  ·rw [vis_fall hf]; exact ⟨by simp, by simp⟩
  ·rw [vis_more hf rfl]
   have hz := ffal_n hff hf
   unfold visU
   have hq : ∀ t : Nat, t < m.mod.toNat → (0 ≤ r + ((t : Nat) : Int) * m.mod ^ n ∧ r + ((t : Nat) : Int) * m.mod ^ n < m.mod ^ (n + 1)) ∧ ∀ j, j + 1 = n + 1 → ffal m (r + ((t : Nat) : Int) * m.mod ^ n) j = 0 := fun t ht => by
    have e : (r + ((t : Nat) : Int) * m.mod ^ n) % m.mod ^ n = r := by rw [Int.add_mul_emod_self_right, Int.emod_eq_of_lt h0 h1]
    refine ⟨vis_rest hm h0 h1 ht, fun j hj => ?_⟩
    obtain rfl : j = n := by omega
    rw [← ffal_mod hm, e]; exact hz
   constructor
   ·refine visT_pw1 (fun t ht => (ih _ _ (hq t ht).1.1 (hq t ht).1.2 (hq t ht).2).1) fun s t hs ht a ha b hb e => ?_
    obtain ⟨i, x, -, -, hx, -, rfl⟩ := ((vis_mem hm d _ _ (hq s (by omega)).1.1 (hq s (by omega)).1.2 (hq s (by omega)).2).1 a).1 ha
    obtain ⟨j, y, -, -, hy, -, rfl⟩ := ((vis_mem hm d _ _ (hq t ht).1.1 (hq t ht).1.2 (hq t ht).2).1 b).1 hb
    have e : x = y := e
    rw [e, hy] at hx
    exact rt_ne hm hs hx.symm
   ·refine visT_pw2 (fun t ht => (ih _ _ (hq t ht).1.1 (hq t ht).1.2 (hq t ht).2).2) fun s t hs ht a ha b hb e => ?_
    have hx := ((vis_mem hm d _ _ (hq s (by omega)).1.1 (hq s (by omega)).1.2 (hq s (by omega)).2).2 a).1 ha
    have hy := ((vis_mem hm d _ _ (hq t ht).1.1 (hq t ht).1.2 (hq t ht).2).2 b).1 hb
    rw [e] at hx
    exact rt_ne hm hs (hx.2.1.symm.trans hy.2.1)
theorem insS_perm {α : Type} (key : α → Int) (x : α) : ∀ l : List α, (insS key x l).Perm (x :: l)
 | [] => List.Perm.refl _
 | y :: r => by
  rw [insS]
  split
  ·exact ((insS_perm key x r).cons y).trans (List.Perm.swap x y r)
  ·exact List.Perm.refl _
theorem srt_perm {α : Type} (key : α → Int) : ∀ l : List α, (srt key l).Perm l
 | [] => List.Perm.refl _
 | x :: r => (insS_perm key x _).trans ((srt_perm key r).cons x)
def lexF (a b : Fal) : Prop := a.steps < b.steps ∨ a.steps = b.steps ∧ a.rest < b.rest
theorem sieL_strict {m : MapM} (hm : OkM m) (k : Nat) : (sieL m k).Pairwise (fun a b => a < b) := by
 have h := (vis_pw hm k 0 0 (Int.le_refl _) (by rw [Int.pow_zero]; decide) (fun j hj => by omega)).2
 have h1 : (sieL m k).Pairwise (fun a b => a ≠ b) := ((srt_perm _ _).pairwise_iff (fun e => Ne.symm e)).2 h
 have h2 : (sieL m k).Pairwise (fun a b => a ≤ b) := srt_srt (key := fun x : Int => x)
 exact (h1.and h2).imp fun {a b} h => by omega
theorem sieL_mem {m : MapM} (hm : OkM m) (k : Nat) (x : Int) : x ∈ sieL m k ↔ (0 ≤ x ∧ x < m.mod ^ k) ∧ ffal m x k = 0 := by
 unfold sieL
 rw [srt_mem, (vis_mem hm k 0 0 (Int.le_refl _) (by rw [Int.pow_zero]; decide) (fun j hj => by omega)).2, Nat.zero_add]
 constructor
 ·rintro ⟨hx, -, hi⟩; exact ⟨hx, hi⟩
 ·rintro ⟨hx, hi⟩; exact ⟨hx, by rw [Int.pow_zero, Int.emod_one], hi⟩
end Go.Mth

namespace Go.Mth
open Go Go.Ab
noncomputable def cntF (m : MapM) (z : Int) (k i : Nat) : Nat := by classical exact if fndB m z k ∧ fndF m z k ∈ (sieF m k).take i then 1 else 0
noncomputable def cntL (m : MapM) (z : Int) (k i : Nat) : Nat := by classical exact if z % m.mod ^ k ∈ (sieL m k).take i then 1 else 0
theorem getD_get {α : Type} {l : List α} {i : Nat} {d : α} (h : i < l.length) : l.getD i d = l[i] := by rw [List.getD_eq_getElem?_getD, List.getElem?_eq_getElem h]; rfl
end Go.Mth

namespace Go.Mth
open Go Go.Ab
theorem col_odd {a : Int} : stepZ (kinM 3 1) (2 * a - 1) = 3 * a - 1 ∧ (2 * a - 1) % (kinM 3 1).mod = 1 := by
 have hr : (2 * a - 1) % (kinM 3 1).mod = 1 := by show (2 * a - 1) % 2 = 1; omega
 refine ⟨?_, hr⟩
 unfold stepZ
 rw [hr]
 show (3 * (2 * a - 1) + 1) / 2 = _
 omega
theorem col_iter {k : Nat} : ∀ j : Nat, j ≤ k → iterZ (kinM 3 1) j (2 ^ k - 1) = 3 ^ j * 2 ^ (k - j) - 1
 | 0, _ => by rw [Int.pow_zero, Int.one_mul]; rfl
 | j + 1, h => by
  have e : (2 : Int) ^ (k - j) = 2 ^ (k - (j + 1)) * 2 := by rw [← Int.pow_succ]; congr 1; omega
  show stepZ (kinM 3 1) (iterZ (kinM 3 1) j (2 ^ k - 1)) = _
  rw [col_iter j (by omega), e, show (3 : Int) ^ j * (2 ^ (k - (j + 1)) * 2) - 1 = 2 * (3 ^ j * 2 ^ (k - (j + 1))) - 1 by rw [← Int.mul_assoc, Int.mul_comm], col_odd.1, Int.pow_succ]
  rw [Int.mul_assoc, Int.mul_left_comm, Int.mul_comm (3 ^ j)]
theorem col_mul {k : Nat} : ∀ j : Nat, j ≤ k → (lineZ (kinM 3 1) (wordZ (kinM 3 1) (2 ^ k - 1) j)).mul = 3 ^ j
 | 0, _ => rfl
 | j + 1, h => by
  have e : (2 : Int) ^ (k - j) = 2 ^ (k - (j + 1)) * 2 := by rw [← Int.pow_succ]; congr 1; omega
  have hr : iterZ (kinM 3 1) j (2 ^ k - 1) % (kinM 3 1).mod = 1 := by
   rw [col_iter j (by omega), e, show (3 : Int) ^ j * (2 ^ (k - (j + 1)) * 2) - 1 = 2 * (3 ^ j * 2 ^ (k - (j + 1))) - 1 by rw [← Int.mul_assoc, Int.mul_comm]]
   exact col_odd.2
  rw [← wordZ_next, hr]
  show mulM (kinM 3 1) 1 * (lineZ (kinM 3 1) (wordZ (kinM 3 1) (2 ^ k - 1) j)).mul = _
  rw [col_mul j (by omega), Int.pow_succ, Int.mul_comm]
  rfl
theorem two_three : ∀ j : Nat, (2 : Int) ^ j ≤ 3 ^ j
 | 0 => by simp
 | j + 1 => by
  have h := two_three j
  have : (0 : Int) < 2 ^ j := Int.pow_pos (by decide)
  rw [Int.pow_succ, Int.pow_succ]
  omega
theorem col_left {k : Nat} : ∀ j : Nat, j ≤ k → ffal (kinM 3 1) (2 ^ k - 1) j = 0
 | 0, _ => rfl
 | j + 1, h => ffal_next (col_left j (by omega)) fun e => by
  unfold fallsW at e
  rw [col_mul (j + 1) h, lineZ_div, wordZ_len] at e
  have := two_three (j + 1)
  have e : (3 : Int) ^ (j + 1) < 2 ^ (j + 1) := e
  omega
theorem col_mem (hm : OkM (kinM 3 1)) (k : Nat) : (2 : Int) ^ k - 1 ∈ sieL (kinM 3 1) k := by
 have hp : (0 : Int) < 2 ^ k := Int.pow_pos (by decide)
 refine (sieL_mem hm k _).2 ⟨⟨by omega, ?_⟩, col_left k (Nat.le_refl k)⟩
 show (2 : Int) ^ k - 1 < 2 ^ k
 omega
theorem col_last (hm : OkM (kinM 3 1)) (k : Nat) : 0 < (sieL (kinM 3 1) k).length ∧ (sieL (kinM 3 1) k).getD ((sieL (kinM 3 1) k).length - 1) 0 = 2 ^ k - 1 := by
 obtain ⟨j, hj, e⟩ := List.getElem_of_mem (col_mem hm k)
 refine ⟨by omega, ?_⟩
 rw [getD_get (show (sieL (kinM 3 1) k).length - 1 < _ by omega)]
 have hl := ((sieL_mem hm k _).1 (List.getElem_mem (show (sieL (kinM 3 1) k).length - 1 < _ by omega))).1.2
 have hl : (sieL (kinM 3 1) k)[(sieL (kinM 3 1) k).length - 1] < (2 : Int) ^ k := hl
 by_cases q : j = (sieL (kinM 3 1) k).length - 1
 ·rw [← e]; congr 1; exact q.symm
 ·have := List.pairwise_iff_getElem.1 (sieL_strict hm k) j ((sieL (kinM 3 1) k).length - 1) hj (by omega) (by omega)
  rw [e] at this
  omega
theorem left_before {m : MapM} (hm : OkM m) {k : Nat} {x : Int} (h : x ∈ sieL m (k + 1)) : x % m.mod ^ k ∈ sieL m k := by
 have hp : 0 < m.mod ^ k := Int.pow_pos (by have := hm.1; omega)
 have h2 := ((sieL_mem hm (k + 1) x).1 h).2
 refine (sieL_mem hm k _).2 ⟨⟨Int.emod_nonneg _ (by omega), Int.emod_lt_of_pos _ hp⟩, ?_⟩
 rw [ffal_mod hm]
 refine Decidable.byContradiction fun e => ?_
 have := ffal_keep e (show k ≤ k + 1 by omega)
 omega
theorem rst_ne {m : MapM} {k : Int} (h : rstN m k ≠ 0) : 1 ≤ k ∧ m.mod ^ k.toNat ≤ 65536 := Decidable.byContradiction fun e => h (if_neg e)
theorem mark_s {l : List Int} {B : List Bool} {i : Nat} (h : ∀ q, q < i → B.getD (l.getD q 0).toNat false = true) (hb : (l.getD i 0).toNat < B.length) : ∀ q, q < i + 1 → (B.set (l.getD i 0).toNat true).getD (l.getD q 0).toNat false = true := fun q hq => by
 rw [List.getD_eq_getElem?_getD, List.getElem?_set]
 by_cases e : (l.getD i 0).toNat = (l.getD q 0).toNat
 ·rw [if_pos e, if_pos hb]; rfl
 ·rw [if_neg e, ← List.getD_eq_getElem?_getD]
  exact h q (by by_cases e2 : q = i; subst e2; exact absurd rfl e; omega)
theorem marks {l : List Int} {B : List Bool} (h : ∀ q, q < l.length → B.getD (l.getD q 0).toNat false = true) {x : Int} (hx : x ∈ l) : B.getD x.toNat false = true := by
 obtain ⟨j, hj, e⟩ := List.getElem_of_mem hx
 have := h j hj
 rw [getD_get hj, e] at this
 exact this
theorem sieL_in {m : MapM} (hm : OkM m) {k i : Nat} (hi : i < (sieL m k).length) : (sieL m k).getD i 0 ∈ sieL m k := by rw [getD_get hi]; exact List.getElem_mem hi
theorem sieL_rng {m : MapM} (hm : OkM m) {k i : Nat} (hi : i < (sieL m k).length) : 0 ≤ (sieL m k).getD i 0 ∧ (sieL m k).getD i 0 < m.mod ^ k := ((sieL_mem hm k _).1 (sieL_in hm hi)).1
end Go.Mth

namespace Go.Ab
open Go.RowKit
def bs (l : List Bool) : List AV := l.map fun b => .lit (.bool b)
section
variable {C : Ctx} {ops : Array Oper} {s : List (Nat × AV)} {m : List (Nat × AO)} {d : Nat} {t : TypeId} {p : String} {af : Array Edge} {g : Option (Nat × Bool)} {os : List Oper} {K : List Eff → St → Prop}
theorem b_make {ty : TypeId} {x y : Operand} {e by' : Nat} {kk kk' : IntKind} (id c : Nat) (hg : Gd ops s g) (ht : tyElem C.P ty = some (e, 1, by')) (hz : tyZero C.P e = some [.bool false]) (hx : ev s x = nm kk c) (hy : ev s y = nm kk' c) (hb : by' * c ≤ 140737488355328) (hby : Nat.blt 0 by' = true) (hf : St.freshB ⟨s, m⟩ id = true)
  (kk : aops C ops ⟨(d, .row id) :: s, (id, .row e 1 (bs (List.replicate c false))) :: m⟩ os fun es σ' => K ({ val := .row id, upd := [(id, some (.row e 1 (bs (List.replicate c false))))], fresh := [id] } :: es) σ') : aops C ops ⟨s, m⟩ (⟨some d, .makeSlice ty x y, t, p, af, g⟩ :: os) K := by
 have e1 : bs (List.replicate c false) = List.replicate c (.lit (.bool false)) := by simp [bs]
 rw [e1] at kk
 exact o_makeN (c := (c : Int)) id hg ht hz rfl hx hy (by omega) (by simpa using hb) hby hf (by simpa using kk)
theorem b_indexRow {ty : TypeId} {x y : Operand} {e e' id by' : Nat} {kk' : IntKind} (xs : List Bool) (i : Nat) (hg : Gd ops s g) (ht : tyElem C.P ty = some (e, 1, by')) (hx : ev s x = .row id) (ho : lookO m id = some (.row e' 1 (bs xs))) (hy : ev s y = nm kk' i) (h1 : i < xs.length)
  (kk : aops C ops ⟨(d, .ref id i) :: s, m⟩ os fun es σ' => K ({ val := .ref id i, use := [id] } :: es) σ') : aops C ops ⟨s, m⟩ (⟨some d, .indexAddr ty x y, t, p, af, g⟩ :: os) K :=
 o_indexRow1 (i := (i : Int)) hg ht hx ho hy (by omega) (by simpa [bs] using h1) kk
theorem b_loadRow {ty : TypeId} {x : Operand} {id e' : Nat} (xs : List Bool) (i : Nat) (hg : Gd ops s g) (ht : tySc C.P ty = true) (hx : ev s x = .ref id i) (ho : lookO m id = some (.row e' 1 (bs xs))) (h1 : i < xs.length)
  (kk : aops C ops ⟨(d, .lit (.bool (xs.getD i false))) :: s, m⟩ os fun es σ' => K ({ val := .lit (.bool (xs.getD i false)), use := [id] } :: es) σ') : aops C ops ⟨s, m⟩ (⟨some d, .load ty x, t, p, af, g⟩ :: os) K :=
 o_loadS _ hg ht hx ho (getMap false h1) kk
theorem b_storeRow {ty : TypeId} {x y : Operand} {id e' : Nat} (xs : List Bool) (i : Nat) (v : Bool) (m' : List (Nat × AO)) (hg : Gd ops s g) (ht : tySize C.P ty = some 1) (hx : ev s x = .ref id i) (ho : lookO m id = some (.row e' 1 (bs xs))) (hy : ev s y = .lit (.bool v)) (h1 : i < xs.length)
  (hm : setO m id (.row e' 1 (bs (xs.set i v))) = m') (kk : aops C ops ⟨s, m'⟩ os fun es σ' => K ({ val := .any, upd := [(id, some (.row e' 1 (bs (xs.set i v))))], use := [id] } :: es) σ') : aops C ops ⟨s, m⟩ (⟨none, .store ty x y, t, p, af, g⟩ :: os) K :=
 o_storeRow (new := [.lit (.bool v)]) (bs (xs.set i v)) m' hg ht hx ho (by rw [hy]; rfl) rfl rfl (by simp [bs]; omega) (overMap (f := fun b => AV.lit (.bool b)) h1) hm kk
end
end Go.Ab

namespace Go.Proofs.YtjbaamfahkjhgaaDoor
open Go Go.Ab Go.Mth
theorem f128_ : callable cx.P 5 = true := by kernel_rfl
theorem f129_ : callable cx.P 6 = true := by kernel_rfl
theorem f130_ : tyElem cx.P 32 = some (4, 1, 1) := by kernel_rfl
theorem f131_ : tyZero cx.P 4 = some [Go.Value.bool false] := by kernel_rfl
theorem f132_ : tySize cx.P 4 = some 1 := by kernel_rfl
theorem c_SieveCollatz_y (K : Nat) (hmy : mayS (kinM 3 1) (K : Int)) : ECalls cx 3 [Nv K] (.lit (.bool true)) := by
 refine ecalls_of_awp Tryd.func3 (c := _) rfl (Nat.le_of_ble_eq_true rfl) ?_
 show awp cx 124 _ (postF cx Tryd.f3 _) ⟨[(0, Nv K)], []⟩
 have hM := okM_col
 have hkp : (2 : Int) ^ K ≤ 65536 := hmy.2.2
 have hk16 : K ≤ 16 := may_16 hM hkp
 have hk1 : 1 ≤ K := by have := hmy.2.1; omega
 have hpp : (0 : Int) < 2 ^ K := Int.pow_pos (by decide)
 obtain ⟨P, hP⟩ : ∃ P : Nat, ((P : Nat) : Int) = 2 ^ K := ⟨((2 : Int) ^ K).toNat, Int.toNat_of_nonneg (Int.le_of_lt hpp)⟩
 have hrst : rstN (kinM 3 1) (K : Int) = 2 ^ K := if_pos ⟨hmy.2.1, hkp⟩
 have hll := col_last hM K
 have hVl := vis_len hM K 0 0
 have hpd : (kinM 3 1).mod.toNat ^ K ≤ 65536 := toNat_pow hM hkp
 have hL0l : (sieL (kinM 3 1) K).length ≤ 65536 := by unfold sieL; rw [srt_len]; omega
 refine awp_seq fun K0 hK0 => awp_region rfl (o_as Fv rfl (aops_end (hK0 _ (awp_seq fun K1 hK1 => awp_region rfl ?_))))
 refine o_ct c_gCollatz gn f122_ rfl ?_
 refine o_alloc 2 [Nv 0, Zv, Zv] gn f46_ rfl rfl rfl ?_
 refine o_store [(2, oM 24 (kinM 3 1))] gn f49_ rfl rfl rfl rfl rfl rfl ?_
 refine aops_end (hK1 _ (awp_seq fun K2 hK2 => awp_seq fun K3 hK3 => awp_region rfl ?_))
 refine o_loadA [Iv ((kinM 3 1).mod), Lv ((kinM 3 1).mul), Lv ((kinM 3 1).add)] gn f50_ rfl rfl rfl rfl rfl ?_
 refine o_mv (Nv K) rfl ?_
 refine o_ct (c_vRests (kinM 3 1) (K : Int) hM (by omega)) gn f128_ rfl ?_
 refine n_as (v' := (Nv P)) (by exact nm_int (hrst.trans hP.symm)) ?_
 refine n_eql P 0 gn rfl rfl ?_
 refine n_as (v' := Fv) (by exact bpn (by omega)) ?_
 refine aops_end (hK3 _ ?_)
 refine awp_condB (b := false) rfl (fun hh => absurd (hh.symm.trans rfl) (by decide)) (fun _ => ?_)
 refine awp_skip (hK2 _ (awp_seq fun K4 hK4 => awp_region rfl ?_))
 refine o_loadA [Iv ((kinM 3 1).mod), Lv ((kinM 3 1).mul), Lv ((kinM 3 1).add)] gn f50_ rfl rfl rfl rfl rfl ?_
 refine o_mv (Nv K) rfl ?_
 refine o_ct (c_sSieveL (kinM 3 1) K hM hmy) gn f123_ rfl ?_
 refine o_mv (.tup [.sl 6 (gcells cL (sieF (kinM 3 1) K)), Lv (sieL (kinM 3 1) K), Nv 0]) rfl (o_extract (.sl 6 (gcells cL (sieF (kinM 3 1) K))) gn rfl rfl (o_extract (Lv (sieL (kinM 3 1) K)) gn rfl rfl (o_extract (Nv 0) gn rfl rfl (o_as (.sl 6 (gcells cL (sieF (kinM 3 1) K))) rfl (o_as (Lv (sieL (kinM 3 1) K)) rfl (o_as (Nv 0) rfl (aops_end (hK4 _ (awp_seq fun K5 hK5 => awp_region rfl ?_)))))))))
 refine o_loadA [Iv ((kinM 3 1).mod), Lv ((kinM 3 1).mul), Lv ((kinM 3 1).add)] gn f50_ rfl rfl rfl rfl rfl ?_
 refine o_mv (Nv K) rfl ?_
 refine o_ct (c_vRests (kinM 3 1) (K : Int) hM (by omega)) gn f128_ rfl ?_
 refine n_as (v' := (Nv P)) (by exact nm_int (hrst.trans hP.symm)) ?_
 refine o_as (Nv P) rfl (aops_end (hK5 _ (awp_seq fun K6 hK6 => awp_seq fun K7 hK7 => awp_region rfl (o_mv (Nv 0) rfl ?_))))
 refine n_neq 0 0 gn rfl rfl ?_
 refine n_as (v' := Fv) (by exact bpn (fun h => h rfl)) ?_
 refine o_mv Fv rfl (o_move (Lv (sieL (kinM 3 1) K)) (Gd.yes rfl rfl rfl) rfl ?_)
 refine i_len (sieL (kinM 3 1) K) (Gd.yes rfl rfl rfl) f37_ rfl ?_
 refine n_eql ((sieL (kinM 3 1) K).length) 0 (Gd.yes rfl rfl rfl) rfl rfl ?_
 refine n_as (v' := Fv) (by exact bpn (by omega)) ?_
 refine o_pickF Fv gn rfl rfl rfl ?_
 refine o_mv Fv rfl (o_move (Lv (sieL (kinM 3 1) K)) (Gd.yes rfl rfl rfl) rfl (o_move (Lv (sieL (kinM 3 1) K)) (Gd.yes rfl rfl rfl) rfl ?_))
 refine i_len (sieL (kinM 3 1) K) (Gd.yes rfl rfl rfl) f37_ rfl ?_
 refine n_sub ((sieL (kinM 3 1) K).length) 1 (Gd.yes rfl rfl rfl) rfl rfl (by omega) (by simp only [topOf]; omega) ?_
 refine i_index (sieL (kinM 3 1) K) (((sieL (kinM 3 1) K).length) - 1) (Gd.yes rfl rfl rfl) f38_ rfl rfl (by omega) ?_
 refine i_loadI (sieL (kinM 3 1) K) (((sieL (kinM 3 1) K).length) - 1) (Gd.yes rfl rfl rfl) f39_ rfl (by omega) ?_
 refine o_move (Nv P) (Gd.yes rfl rfl rfl) rfl ?_
 refine n_sub P 1 (Gd.yes rfl rfl rfl) rfl rfl (by omega) (by simp only [topOf]; omega) ?_
 refine o_neq (a := ((sieL (kinM 3 1) K).getD (((sieL (kinM 3 1) K).length) - 1) 0)) (c := ((P - 1 : Nat) : Int)) (Gd.yes rfl rfl rfl) rfl rfl ?_
 refine n_as (v' := Fv) (by exact bpn (fun h => h (by omega))) ?_
 refine o_pickF Fv gn rfl rfl rfl ?_
 refine aops_end (hK7 _ ?_)
 refine awp_condB (b := false) rfl (fun hh => absurd (hh.symm.trans rfl) (by decide)) (fun _ => ?_)
 refine awp_skip (hK6 _ (awp_seq fun K8 hK8 => awp_seq fun K9 hK9 => awp_region rfl ?_))
 refine o_loadA [Iv ((kinM 3 1).mod), Lv ((kinM 3 1).mul), Lv ((kinM 3 1).add)] gn f50_ rfl rfl rfl rfl rfl ?_
 refine o_mv (Nv K) rfl ?_
 refine n_add K 1 gn rfl rfl (by simp only [topOf]; omega) ?_
 refine o_ct (c_vRests (kinM 3 1) ((K + 1 : Nat) : Int) hM (by omega)) gn f128_ rfl ?_
 refine o_eql (a := (rstN (kinM 3 1) ((K + 1 : Nat) : Int))) (c := ((0 : Nat) : Int)) gn rfl rfl ?_
 refine aops_end (hK9 _ ?_)
 refine awp_condQ (q := (rstN (kinM 3 1) ((K + 1 : Nat) : Int)) = ((0 : Nat) : Int)) rfl (fun h1 => ?_) (fun h1 => ?_)
 ·refine awp_seq fun K10 hK10 => awp_region rfl ?_
  refine o_ct c_awake4 gn f129_ rfl ?_
  refine o_as Tv rfl (aops_end (hK10 _ ?_))
  refine awp_ret ?_
  refine post_ret ⟨[Tv], ⟨AV.le_refl _, trivial⟩, rfl, ?_⟩
  rfl
 ·refine awp_skip (hK8 _ (awp_seq fun K11 hK11 => ?_))
  have hr1 := rst_ne (m := (kinM 3 1)) (k := ((K + 1 : Nat) : Int)) (by assumption)
  have hmy1 : mayS (kinM 3 1) ((K + 1 : Nat) : Int) := ⟨free_col, hr1⟩
  have hVl1 := vis_len hM (K + 1) 0 0
  have hpd1 : (kinM 3 1).mod.toNat ^ (K + 1) ≤ 65536 := toNat_pow hM hr1.2
  have hL1l : (sieL (kinM 3 1) (K + 1)).length ≤ 65536 := by unfold sieL; rw [srt_len]; omega
  refine awp_region rfl ?_
  refine o_loadA [Iv ((kinM 3 1).mod), Lv ((kinM 3 1).mul), Lv ((kinM 3 1).add)] gn f50_ rfl rfl rfl rfl rfl ?_
  refine o_mv (Nv K) rfl ?_
  refine n_add K 1 gn rfl rfl (by simp only [topOf]; omega) ?_
  refine o_ct (c_sSieveL (kinM 3 1) (K + 1) hM hmy1) gn f123_ rfl ?_
  refine o_mv (.tup [.sl 6 (gcells cL (sieF (kinM 3 1) (K + 1))), Lv (sieL (kinM 3 1) (K + 1)), Nv 0]) rfl (o_extract (.sl 6 (gcells cL (sieF (kinM 3 1) (K + 1)))) gn rfl rfl (o_extract (Lv (sieL (kinM 3 1) (K + 1))) gn rfl rfl (o_extract (Nv 0) gn rfl rfl (o_as (.sl 6 (gcells cL (sieF (kinM 3 1) (K + 1)))) rfl (o_as (Lv (sieL (kinM 3 1) (K + 1))) rfl (o_as (Nv 0) rfl (aops_end (hK11 _ (awp_seq fun K12 hK12 => awp_seq fun K13 hK13 => awp_region rfl ?_)))))))))
  refine o_mv (Nv 0) rfl ?_
  refine n_neq 0 0 gn rfl rfl ?_
  refine n_as (v' := Fv) (by exact bpn (fun h => h rfl)) ?_
  refine aops_end (hK13 _ ?_)
  refine awp_condB (b := false) rfl (fun hh => absurd (hh.symm.trans rfl) (by decide)) (fun _ => ?_)
  refine awp_skip (hK12 _ (awp_seq fun K14 hK14 => awp_region rfl (o_mv (Nv P) rfl ?_)))
  refine b_make 3 P gn f130_ f131_ rfl rfl (by omega) rfl rfl ?_
  refine o_as (.row 3) rfl (aops_end (hK14 _ (awp_seq fun K15 hK15 => awp_seq fun K16 hK16 => awp_region rfl (o_as (Nv 0) rfl (aops_end (hK16 _ ?_))))))
  refine awp_block ?_
  refine awp_loopR (fun κ σ => ∃ (i : Nat), ∃ (B : List Bool), (i ≤ (sieL (kinM 3 1) K).length) ∧ (B.length = P) ∧ (∀ q, q < i → B.getD ((sieL (kinM 3 1) K).getD q 0).toNat false = true) ∧ ((sieL (kinM 3 1) K).length - i) = κ ∧ σ = ⟨[(5, Lv (sieL (kinM 3 1) K)), (7, Nv P), (9, Lv (sieL (kinM 3 1) (K + 1))), (11, .row 3), (12, Nv i)], [(3, .row 4 1 (bs B))]⟩) ⟨_, _, ⟨0, List.replicate P false, Nat.zero_le _, List.length_replicate, (fun q h => by omega), rfl, rfl⟩, ?wk0⟩ ?rd0
  case wk0 =>
   exact Wk.sub ⟨rfl, rfl, rfl, rfl, (by first | rfl | exact nm_int (by omega)), trivial⟩ ⟨(by first | rfl | exact row_ns (by simp)), trivial⟩
  rintro κ _ ⟨i, B, hi, hBl, hmr, rfl, rfl⟩
  refine awp_seq fun K17 hK17 => awp_seq fun K18 hK18 => awp_region rfl (o_mv (Nv i) rfl (o_mv (Lv (sieL (kinM 3 1) K)) rfl ?_))
  refine i_len (sieL (kinM 3 1) K) gn f37_ rfl ?_
  refine n_lss i ((sieL (kinM 3 1) K).length) gn rfl rfl ?_
  refine aops_end (hK18 _ ?_)
  refine awp_condQ (q := i < ((sieL (kinM 3 1) K).length)) rfl (fun h2 => ?_) (fun h2 => ?_)
  ·refine awp_skip (hK17 _ (awp_seq fun K19 hK19 => ?_))
   refine awp_block ?_
   refine awp_seq fun K20 hK20 => awp_seq fun K21 hK21 => ?_
   have hr : 0 ≤ ((sieL (kinM 3 1) K).getD i 0) ∧ ((sieL (kinM 3 1) K).getD i 0) < (2 : Int) ^ K := sieL_rng hM (by omega)
   refine awp_region rfl (o_mv (Lv (sieL (kinM 3 1) K)) rfl (o_mv (Nv i) rfl ?_))
   refine i_index (sieL (kinM 3 1) K) i gn f38_ rfl rfl (by omega) ?_
   refine i_loadI (sieL (kinM 3 1) K) i gn f39_ rfl (by omega) ?_
   refine o_lss (a := ((sieL (kinM 3 1) K).getD i 0)) (c := ((0 : Nat) : Int)) gn rfl rfl ?_
   refine n_as (v' := Fv) (by exact bpn (by omega)) ?_
   refine o_mv Fv rfl (o_move (Lv (sieL (kinM 3 1) K)) (Gd.yes rfl rfl rfl) rfl (o_move (Nv i) (Gd.yes rfl rfl rfl) rfl ?_))
   refine i_index (sieL (kinM 3 1) K) i (Gd.yes rfl rfl rfl) f38_ rfl rfl (by omega) ?_
   refine i_loadI (sieL (kinM 3 1) K) i (Gd.yes rfl rfl rfl) f39_ rfl (by omega) ?_
   refine o_move (Nv P) (Gd.yes rfl rfl rfl) rfl ?_
   refine o_geq (a := ((sieL (kinM 3 1) K).getD i 0)) (c := ((P : Nat) : Int)) (Gd.yes rfl rfl rfl) rfl rfl ?_
   refine n_as (v' := Fv) (by exact bpn (by omega)) ?_
   refine o_pickF Fv gn rfl rfl rfl ?_
   refine aops_end (hK21 _ ?_)
   refine awp_condB (b := false) rfl (fun hh => absurd (hh.symm.trans rfl) (by decide)) (fun _ => ?_)
   refine awp_skip (hK20 _ (awp_region rfl (o_mv (.row 3) rfl (o_mv (Lv (sieL (kinM 3 1) K)) rfl (o_mv (Nv i) rfl ?_)))))
   refine i_index (sieL (kinM 3 1) K) i gn f38_ rfl rfl (by omega) ?_
   refine i_loadI (sieL (kinM 3 1) K) i gn f39_ rfl (by omega) ?_
   refine n_as (v' := (Nv (((sieL (kinM 3 1) K).getD i 0).toNat))) (nm_int (by omega)) ?_
   refine b_indexRow B (((sieL (kinM 3 1) K).getD i 0).toNat) gn f130_ rfl rfl rfl (by omega) ?_
   refine b_storeRow B (((sieL (kinM 3 1) K).getD i 0).toNat) true [(3, .row 4 1 (bs (B.set (((sieL (kinM 3 1) K).getD i 0).toNat) true)))] gn f132_ rfl rfl rfl (by omega) rfl ?_
   refine aops_end (hK19 _ (awp_region rfl (o_mv (Nv i) rfl ?_)))
   refine n_add i 1 gn rfl rfl (by simp only [topOf]; omega) ?_
   refine o_as (Nv (i + 1)) rfl (aops_end ?_)
   refine ⟨_, _, ?lt, ⟨i + 1, B.set ((sieL (kinM 3 1) K).getD i 0).toNat true, (by omega), (by rw [List.length_set]; exact hBl), (mark_s hmr (by omega)), rfl, rfl⟩, ?wk⟩
   case lt => omega
   case wk => exact Wk.sub ⟨rfl, rfl, rfl, rfl, (by first | rfl | exact nm_int (by omega)), trivial⟩ ⟨(by first | rfl | exact row_ns (by simp)), trivial⟩
  ·refine awp_exit ?_
   refine hK15 _ (awp_seq fun K22 hK22 => awp_seq fun K23 hK23 => awp_region rfl (o_as (Nv 0) rfl (aops_end (hK23 _ ?_))))
   refine awp_block ?_
   refine awp_loopR (fun κ σ => ∃ (j : Nat), (j ≤ (sieL (kinM 3 1) (K + 1)).length) ∧ ((sieL (kinM 3 1) (K + 1)).length - j) = κ ∧ σ = ⟨[(7, Nv P), (9, Lv (sieL (kinM 3 1) (K + 1))), (11, .row 3), (13, Nv j)], [(3, .row 4 1 (bs B))]⟩) ⟨_, _, ⟨0, Nat.zero_le _, rfl, rfl⟩, ?wk1⟩ ?rd1
   case wk1 =>
    exact Wk.sub ⟨rfl, rfl, rfl, (by first | rfl | exact nm_int (by omega)), trivial⟩ ⟨rfl, trivial⟩
   rintro κ _ ⟨j, hj, rfl, rfl⟩
   refine awp_seq fun K24 hK24 => awp_seq fun K25 hK25 => awp_region rfl (o_mv (Nv j) rfl (o_mv (Lv (sieL (kinM 3 1) (K + 1))) rfl ?_))
   refine i_len (sieL (kinM 3 1) (K + 1)) gn f37_ rfl ?_
   refine n_lss j ((sieL (kinM 3 1) (K + 1)).length) gn rfl rfl ?_
   refine aops_end (hK25 _ ?_)
   refine awp_condQ (q := j < ((sieL (kinM 3 1) (K + 1)).length)) rfl (fun h3 => ?_) (fun h3 => ?_)
   ·refine awp_skip (hK24 _ (awp_seq fun K26 hK26 => ?_))
    refine awp_block ?_
    refine awp_seq fun K27 hK27 => ?_
    have hr : 0 ≤ ((sieL (kinM 3 1) (K + 1)).getD j 0) ∧ ((sieL (kinM 3 1) (K + 1)).getD j 0) < (2 : Int) ^ (K + 1) := sieL_rng hM (by omega)
    have hpe : (2 : Int) ^ (K + 1) = 2 ^ K * 2 := Int.pow_succ _ _
    have hmk : B.getD (((sieL (kinM 3 1) (K + 1)).getD j 0) % (2 : Int) ^ K).toNat false = true := marks (l := sieL (kinM 3 1) K) (fun q hq => hmr q (by omega)) (left_before hM (sieL_in hM (show j < (sieL (kinM 3 1) (K + 1)).length by omega)))
    have he0 := Int.emod_nonneg ((sieL (kinM 3 1) (K + 1)).getD j 0) (show (2 : Int) ^ K ≠ 0 by omega)
    have he1 := Int.emod_lt_of_pos ((sieL (kinM 3 1) (K + 1)).getD j 0) hpp
    refine awp_region rfl (o_mv (Lv (sieL (kinM 3 1) (K + 1))) rfl (o_mv (Nv j) rfl ?_))
    refine i_index (sieL (kinM 3 1) (K + 1)) j gn f38_ rfl rfl (by omega) ?_
    refine i_loadI (sieL (kinM 3 1) (K + 1)) j gn f39_ rfl (by omega) ?_
    refine o_lss (a := ((sieL (kinM 3 1) (K + 1)).getD j 0)) (c := ((0 : Nat) : Int)) gn rfl rfl ?_
    refine n_as (v' := Fv) (by exact bpn (by omega)) ?_
    refine o_mv Fv rfl (o_move (Lv (sieL (kinM 3 1) (K + 1))) (Gd.yes rfl rfl rfl) rfl (o_move (Nv j) (Gd.yes rfl rfl rfl) rfl ?_))
    refine i_index (sieL (kinM 3 1) (K + 1)) j (Gd.yes rfl rfl rfl) f38_ rfl rfl (by omega) ?_
    refine i_loadI (sieL (kinM 3 1) (K + 1)) j (Gd.yes rfl rfl rfl) f39_ rfl (by omega) ?_
    refine o_move (Nv P) (Gd.yes rfl rfl rfl) rfl ?_
    refine n_mul 2 P (Gd.yes rfl rfl rfl) rfl rfl (by simp only [topOf]; omega) ?_
    refine o_geq (a := ((sieL (kinM 3 1) (K + 1)).getD j 0)) (c := ((2 * P : Nat) : Int)) (Gd.yes rfl rfl rfl) rfl rfl ?_
    refine n_as (v' := Fv) (by exact bpn (by omega)) ?_
    refine o_pickF Fv gn rfl rfl rfl ?_
    refine o_mv Fv rfl (o_move (.row 3) (Gd.yes rfl rfl rfl) rfl (o_move (Lv (sieL (kinM 3 1) (K + 1))) (Gd.yes rfl rfl rfl) rfl (o_move (Nv j) (Gd.yes rfl rfl rfl) rfl ?_)))
    refine i_index (sieL (kinM 3 1) (K + 1)) j (Gd.yes rfl rfl rfl) f38_ rfl rfl (by omega) ?_
    refine i_loadI (sieL (kinM 3 1) (K + 1)) j (Gd.yes rfl rfl rfl) f39_ rfl (by omega) ?_
    refine o_move (Nv P) (Gd.yes rfl rfl rfl) rfl ?_
    refine o_remT (a := ((sieL (kinM 3 1) (K + 1)).getD j 0)) (c := ((P : Nat) : Int)) (Gd.yes rfl rfl rfl) rfl rfl (by omega) ?_
    refine n_as (v' := (Nv ((((sieL (kinM 3 1) (K + 1)).getD j 0) % (2 : Int) ^ K).toNat))) (by exact nm_int (by rw [hP, Int.tmod_eq_emod_of_nonneg hr.1]; omega)) ?_
    refine b_indexRow B ((((sieL (kinM 3 1) (K + 1)).getD j 0) % (2 : Int) ^ K).toNat) (Gd.yes rfl rfl rfl) f130_ rfl rfl rfl (by omega) ?_
    refine b_loadRow B ((((sieL (kinM 3 1) (K + 1)).getD j 0) % (2 : Int) ^ K).toNat) (Gd.yes rfl rfl rfl) f4_ rfl rfl (by omega) ?_
    refine n_as (v' := Tv) (by exact bl_eq hmk) ?_
    refine o_not (b := true) (Gd.yes rfl rfl rfl) rfl ?_
    refine o_pickF Fv gn rfl rfl rfl ?_
    refine aops_end (hK27 _ ?_)
    refine awp_condB (b := false) rfl (fun hh => absurd (hh.symm.trans rfl) (by decide)) (fun _ => ?_)
    refine awp_skip (hK26 _ (awp_region rfl (o_mv (Nv j) rfl ?_)))
    refine n_add j 1 gn rfl rfl (by simp only [topOf]; omega) ?_
    refine o_as (Nv (j + 1)) rfl (aops_end ?_)
    refine ⟨_, _, ?lt, ⟨j + 1, (by omega), rfl, rfl⟩, ?wk⟩
    case lt => omega
    case wk => exact Wk.sub ⟨rfl, rfl, rfl, (by first | rfl | exact nm_int (by omega)), trivial⟩ ⟨rfl, trivial⟩
   ·refine awp_exit ?_
    refine hK22 _ (awp_seq fun K28 hK28 => awp_region rfl ?_)
    refine o_ct c_awake4 gn f129_ rfl ?_
    refine o_as Tv rfl (aops_end (hK28 _ ?_))
    refine awp_ret ?_
    refine post_ret ⟨[Tv], ⟨AV.le_refl _, trivial⟩, rfl, ?_⟩
    rfl

theorem c_SieveCollatz_n (k : Int) (hkb : k ≤ 9223372036854775807) (hE : ¬ mayS (kinM 3 1) k) : ECalls cx 3 [Iv k] (.lit (.bool true)) := by
 refine ecalls_of_awp Tryd.func3 (c := _) rfl (Nat.le_of_ble_eq_true rfl) ?_
 show awp cx 124 _ (postF cx Tryd.f3 _) ⟨[(0, Iv k)], []⟩
 refine awp_seq fun K0 hK0 => awp_region rfl (o_as Fv rfl (aops_end (hK0 _ (awp_seq fun K1 hK1 => awp_region rfl ?_))))
 refine o_ct c_gCollatz gn f122_ rfl ?_
 refine o_alloc 2 [Nv 0, Zv, Zv] gn f46_ rfl rfl rfl ?_
 refine o_store [(2, oM 24 (kinM 3 1))] gn f49_ rfl rfl rfl rfl rfl rfl ?_
 refine aops_end (hK1 _ (awp_seq fun K2 hK2 => awp_seq fun K3 hK3 => awp_region rfl ?_))
 refine o_loadA [Iv ((kinM 3 1).mod), Lv ((kinM 3 1).mul), Lv ((kinM 3 1).add)] gn f50_ rfl rfl rfl rfl rfl ?_
 refine o_mv (Iv k) rfl ?_
 refine o_ct (c_vRests (kinM 3 1) k okM_col hkb) gn f128_ rfl ?_
 refine n_as (v' := (Nv 0)) (by exact nm_int (if_neg (fun e => hE ⟨free_col, e⟩))) ?_
 refine n_eql 0 0 gn rfl rfl ?_
 refine n_as (v' := Tv) (by exact bpy rfl) ?_
 refine aops_end (hK3 _ ?_)
 refine awp_condB (b := true) rfl (fun _ => ?_) (fun hh => absurd (hh.symm.trans rfl) (by decide))
 refine awp_seq fun K4 hK4 => awp_region rfl ?_
 refine o_ct c_awake4 gn f129_ rfl ?_
 refine o_as Tv rfl (aops_end (hK4 _ ?_))
 refine awp_ret ?_
 refine post_ret ⟨[Tv], ⟨AV.le_refl _, trivial⟩, rfl, ?_⟩
 rfl

end Go.Proofs.YtjbaamfahkjhgaaDoor

namespace Go.Proofs.YtjbaamfahkjhgaaDoor.sieveCollatz
open Go Go.Ab Go.Mth Go.ChangeShapes Go.WideShapes Go.ChangeAt Go.RowKit
theorem c_SieveCollatz (k : Int) (hkb : -9223372036854775808 ≤ k ∧ k ≤ 9223372036854775807) : ECalls cx 3 [(AV.lit (.int .i64 (k)))] (.lit (.bool true)) := by
 by_cases h : mayS (kinM 3 1) k
 ·have hk1 := h.2.1
  obtain ⟨K, rfl⟩ : ∃ K : Nat, k = (K : Int) := ⟨k.toNat, by omega⟩
  exact c_SieveCollatz_y K h
 ·exact c_SieveCollatz_n k hkb.2 h
theorem reads (os : Os) {H : Type} (enc : TypeId × Value → H) : ∃ places, DataW.whole enc Tryd.prog ((World.laidAll Tryd.prog os laid5).forCall (fun _ _ => 0) ⟨#[], #[.int .i64 0], []⟩).memory Tryd.f3.params.toList Rows.sieveCollatzSpec.vars false (#[.int .i64 0] : Array Value).toList 8 = some ([.lit (.int .i64 0)], [], places) := ⟨[], by kernel_rfl⟩
theorem met (os : Os) : laidMetH Tryd.prog laid5 ((World.laidAll Tryd.prog os laid5).forCall (fun _ _ => 0) ⟨#[], #[.int .i64 0], []⟩).memory := (MakeChecks.laidMetH_plain _ _ _ (by kernel_rfl)).mpr (laidMet_laidAll _ (by kernel_rfl) (by kernel_rfl))
theorem specs {H : Type} (ds : List (DataW H)) (h : ds.length = 1) : (Rows.sieveCollatzSpec.fn H ds).results = [.lit (.bool true)] ∧ (Rows.sieveCollatzSpec.fn H ds).args = ds ∧ (Rows.sieveCollatzSpec.fn H ds).vars = [] := by
 rcases ds with _ | ⟨d0, _ | ⟨e, t⟩⟩ <;> simp at h <;> exact ⟨rfl, rfl, rfl⟩
set_option maxRecDepth 100000 in
theorem opened {H : Type} (enc : TypeId × Value → H) (W : World) (base : Nat) (args : Array Value) (ds : List (DataW H)) (ps : List MemPlace) (hval : ∀ (j : Nat) t v, (#[3] : Array TypeId)[j]? = some t → args[j]? = some v → Value.okWide Tryd.prog W .any base t v)
  (hA : DataW.TrodAll enc Tryd.prog W 0 (fun _ => true) true [3] args.toList ds ps) (hsz : (DataW.weightsEach Tryd.prog [3] ds).all (· ≤ reachBytes) = true) : ∃ xs, RepL (memOf W) xs noLoc args.toList ∧ ECalls cx 3 xs (.lit (.bool true)) := by
 obtain ⟨v0, vs0, d0, ds0, p0, q0, hargs, rfl, rfl, h0, r0⟩ := trodAll_cons hA
 obtain ⟨rfl, rfl, rfl⟩ := trodAll_nil r0
 obtain rfl : args = #[v0] := by cases args; simp_all
 obtain ⟨k0, e0, b0⟩ := rep_int (hval 0 3 v0 rfl rfl) h0
 exact ⟨[.lit (.int .i64 k0)], RepL.cons e0 (by simp only [RepL]), c_SieveCollatz k0 b0⟩
set_option maxRecDepth 100000 in
theorem lifted (os : Os) (started : os.Started) (H : Type) (enc : TypeId × Value → H) (F : Stop.Interp) :
  ReturnsInHanded {} Tryd.checked os 3 .any ((OpenSpec.ofChange Rows.sieveCollatzSpec).preRow enc Tryd.prog Tryd.f3 Rows.sieveCollatzRow.domain false Rows.sieveCollatzRow.laid) (((OpenSpec.ofChange Rows.sieveCollatzSpec).at F).post enc Tryd.prog Tryd.f3 false true false false) := by
 obtain ⟨places, hx⟩ := reads os enc
 refine lifted_of (C := Tryd.checked) started cx rfl ownT (by kernel_rfl) Tryd.func3 (witness_laid #[.int .i64 0] (by kernel_rfl) (by kernel_rfl) (by kernel_rfl) (OpenSpec.preRow_of_cond 8 hx (by kernel_rfl) (fun k hk => by cases hk) (by kernel_rfl) (met os))) laidOutT (by kernel_rfl) (tb := 4) (by kernel_rfl) u4T rfl (fun ds h => specs ds (h.trans (by kernel_rfl))) (fun W h => tabG_of h) ?_
 intro W base args ds ps hval hA hsz
 exact opened enc W base args ds ps hval hA hsz
theorem said : Rows.SieveCollatzSaid :=
 OpenClaim.holds_of_cond 3 Tryd.f3 rfl rfl rfl rfl rfl rfl rfl ⟨rfl, rfl, rfl, rfl, rfl⟩ rfl rfl rfl rfl rfl (by kernel_rfl) Tryd.func3 (by kernel_rfl)
  (of_decide_eq_true (by kernel_rfl)) (by unfold Func.isWrapper; first | (rw [if_pos (by decide +kernel)]; kernel_rfl) | (rw [if_neg (by decide +kernel)]; exact ⟨rfl, rfl⟩))
  (fun os started H enc _ F => by rw [OpenClaim.pre_eq_preRow]; exact lifted os started H enc F)
theorem plain (f : FuncId) (fn : Func) (hf : Tryd.pinned.checked.prog.funcNamed "katabasis/katabasislaw04.SieveCollatz" = some f) (hfn : Tryd.pinned.checked.prog.funcs[f]? = some fn) :
  true = Tryd.pinned.checked.prog.looks [] ∧ ∀ (j : Nat) t, fn.params[j]? = some t → Tryd.pinned.checked.prog.wantsStandIn t = false := by
 obtain rfl : f = 3 := Option.some.inj ((show Tryd.prog.funcNamed "katabasis/katabasislaw04.SieveCollatz" = some 3 by kernel_rfl).symm.trans hf) |>.symm
 obtain rfl : fn = Tryd.f3 := (Option.some.inj (Tryd.func3.symm.trans hfn)).symm
 refine ⟨by kernel_rfl, fun j t ht => ?_⟩
 rw [Tryd.params3] at ht
 have : t = 3 := by have h := Array.mem_of_getElem? ht; simp at h; first | exact h | (rcases h with h | h | h | h <;> simp [h]) | (rcases h with h | h | h <;> simp [h]) | (rcases h with h | h <;> simp [h])
 subst this
 exact (show Tryd.prog.wantsStandIn 3 = false by kernel_rfl)
end Go.Proofs.YtjbaamfahkjhgaaDoor.sieveCollatz
namespace Go.Proofs.YtjbaamfahkjhgaaDoor
open Go
theorem sieveCollatz_holds : Rows.SieveCollatzCardSaid :=
 Claim7.holds_tied_plain_at .later [] _ _ _ _ sieveCollatz.said (fun _ h => by cases h) (by kernel_rfl) (fun _ h => by cases h) sieveCollatz_row_tie rfl ⟨rfl, rfl⟩ (by kernel_rfl) rfl sieveCollatz.plain (by kernel_rfl)
#print axioms sieveCollatz_holds
end Go.Proofs.YtjbaamfahkjhgaaDoor

