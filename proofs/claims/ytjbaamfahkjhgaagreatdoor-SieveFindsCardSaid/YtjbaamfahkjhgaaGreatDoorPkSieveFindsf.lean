/- The law 'katabasislaw04.SieveFinds' is true for every map, string and number: Find returns the documented fall, or the documented error. Its condition: none but the row's own (the listed tables of the library). -/
import Derived.Test.YtjbaamfahkjhgaaGreatDoorPkSieveFindse
set_option linter.unusedVariables false
set_option linter.unusedSimpArgs false
namespace Go.Proofs.YtjbaamfahkjhgaaGreatDoor
open Go Go.Ab Go.Mth
theorem f136_ : callable cx.P 47 = true := by kernel_rfl
theorem f137_ : callable cx.P 48 = true := by kernel_rfl
theorem f138_ : tySc cx.P 26 = true := by kernel_rfl
theorem f139_ : callable cx.P 49 = true := by kernel_rfl
theorem f140_ : tySize cx.P 26 = some 1 := by kernel_rfl
theorem f141_ : tySize cx.P 22 = some 1 := by kernel_rfl
theorem f142_ : tySc cx.P 76 = true := by kernel_rfl
theorem f143_ : callable cx.P 55 = true := by kernel_rfl
theorem f144_ : callable cx.P 46 = true := by kernel_rfl
theorem c_clone (l : List Int) (hl : 0 < l.length) (hb : l.length ≤ 1000) : ECallsM cx 55 [(Lv l)] (.row 701) 701 3 1 (is .i64 l) := by
 refine ecallsM_of_awp Tryz.func55 (c := _) rfl (Nat.le_of_ble_eq_true rfl) ?_
 show awp cx 8 _ (postM cx Tryz.f55 _ 701 3 1 (is .i64 l)) ⟨[(0, (Lv l))], []⟩
 refine awp_seq fun K0 hK0 => ?_
 refine awp_region rfl ?_
 refine o_as Zv rfl ?_
 refine aops_end ?_
 refine hK0 _ ?_
 refine awp_seq fun K1 hK1 => ?_
 refine awp_seq fun K2 hK2 => ?_
 refine awp_region rfl ?_
 refine o_mv (Lv l) rfl ?_
 refine o_eqlNilSl Gd.none f2_ rfl rfl (by simp [is, ns]; omega) ?_
 refine aops_end ?_
 refine hK2 _ ?_
 refine awp_condB (b := false) rfl (fun hh => absurd (hh.symm.trans rfl) (by decide)) (fun _ => ?_)
 refine awp_skip ?_
 refine hK1 _ ?_
 refine awp_seq fun K3 hK3 => ?_
 refine awp_region rfl ?_
 refine o_buildSlice 2 (is .i64 ([])) [] Gd.none f10_ rfl f26_ rfl rfl rfl rfl rfl rfl rfl ?_
 refine o_mv (Lv l) rfl ?_
 refine i_appendSl 3 ([]) l [] Gd.none f10_ f26_ rfl rfl rfl rfl (by simp only [List.length_append, List.length_cons, List.length_nil]; omega) (by decide) rfl rfl ?_
 refine o_as (.row 3) rfl ?_
 refine aops_end ?_
 refine hK3 _ ?_
 refine awp_wk (σ' := ⟨[(2, (.row 3))], [(3, (.row 3 1 (is .i64 l)))]⟩) (Wk.sub ⟨rfl, trivial⟩ ⟨rfl, trivial⟩) ?_
 refine awp_wk (σ' := ⟨[(2, (.row 701))], [(701, (.row 3 1 (is .i64 l)))]⟩) (Wk.ren (id := 3) (id' := 701) rfl) ?_
 refine awp_ret ?_
 refine postM_ret ⟨[(.row 701)], ⟨(AV.le_refl _), trivial⟩, rfl, rfl, ?_⟩
 rfl

theorem c_clone0  : ECalls cx 55 [Zv] Zv := by
 refine ecalls_of_awp Tryz.func55 (c := _) rfl (Nat.le_of_ble_eq_true rfl) ?_
 show awp cx 8 _ (postF cx Tryz.f55 _) ⟨[(0, Zv)], []⟩
 refine awp_seq fun K0 hK0 => ?_
 refine awp_region rfl ?_
 refine o_as Zv rfl ?_
 refine aops_end ?_
 refine hK0 _ ?_
 refine awp_seq fun K1 hK1 => ?_
 refine awp_seq fun K2 hK2 => ?_
 refine awp_region rfl ?_
 refine o_mv Zv rfl ?_
 refine o_eqlNN Gd.none f2_ rfl rfl ?_
 refine aops_end ?_
 refine hK2 _ ?_
 refine awp_condB (b := true) rfl (fun _ => ?_) (fun hh => absurd (hh.symm.trans rfl) (by decide))
 refine awp_seq fun K3 hK3 => ?_
 refine awp_region rfl ?_
 refine o_as Zv rfl ?_
 refine aops_end ?_
 refine hK3 _ ?_
 refine awp_ret ?_
 refine post_ret ⟨[Zv], ⟨(AV.le_refl _), trivial⟩, rfl, ?_⟩
 rfl

theorem c_visit (m : MapM) (k : Nat) (hM : OkM m) (hk : k ≤ 16) (hpk : m.mod ^ k ≤ 65536) : ∀ (d n : Nat) (r : Int) (F : List Fal) (L : List Int), n + d = k → 1 ≤ n → 0 ≤ r → r < m.mod ^ n → F.length + m.mod.toNat ^ d ≤ 1000000 → L.length + m.mod.toNat ^ d ≤ 1000000 →
  RCalls cx 46 [(Iv r), (Iv (m.mod ^ n)), (Lv (wordZ m r n)), (.ip [(Iv m.mod), (Lv m.mul), (Lv m.add)]), (.ref 2 0), (.ip [(Nv k)]), (.ref 3 0), (.ref 4 0)] [2, 3, 4] [(2, (.var 26 [(.row 20)])), (20, (.row 40 6 (gcells cL F))), (3, (.var 22 [(.row 21)])), (21, (.row 3 1 (is .i64 L))), (4, (.var 76 [(.clo 46 [(.ip [(Iv m.mod), (Lv m.mul), (Lv m.add)]), (.ref 2 0), (.ip [(Nv k)]), (.ref 3 0), (.ref 4 0)])]))] (.tup []) [(2, (.var 26 [(.row 20)])), (20, (.row 40 6 (gcells cL (F ++ ((visA m d n r).1))))), (3, (.var 22 [(.row 21)])), (21, (.row 3 1 (is .i64 (L ++ ((visA m d n r).2))))), (4, (.var 76 [(.clo 46 [(.ip [(Iv m.mod), (Lv m.mul), (Lv m.add)]), (.ref 2 0), (.ip [(Nv k)]), (.ref 3 0), (.ref 4 0)])]))] := by
 intro d
 induction d using Nat.strongRecOn
 rename_i d ih
 intro n r F L hnd hn1 hr0 hr1 hFl hLl
 refine rcalls_of_s (scalls_of_awpB 9009 Tryz.func46 (c := _) rfl (Nat.le_of_ble_eq_true rfl) rfl rfl rfl (fun us => ?_)) rfl
 refine awp_late ?_
 show awp cx 98 _ (lateQ cx 98 (postS cx Tryz.f46 (.tup []) [(2, (.var 26 [(.row 20)])), (20, (.row 40 6 (gcells cL (F ++ ((visA m d n r).1))))), (3, (.var 22 [(.row 21)])), (21, (.row 3 1 (is .i64 (L ++ ((visA m d n r).2))))), (4, (.var 76 [(.clo 46 [(.ip [(Iv m.mod), (Lv m.mul), (Lv m.add)]), (.ref 2 0), (.ip [(Nv k)]), (.ref 3 0), (.ref 4 0)])]))] 9009 [(.ref 2 0), (.ref 3 0), (.ref 4 0)] us)) ⟨[(0, (Iv r)), (1, (Iv (m.mod ^ n))), (2, (Lv (wordZ m r n))), (3, (.ip [(Iv m.mod), (Lv m.mul), (Lv m.add)])), (4, (.ref 2 0)), (5, (.ip [(Nv k)])), (6, (.ref 3 0)), (7, (.ref 4 0))], [(9009, (.pin [(.ref 2 0), (.ref 3 0), (.ref 4 0)] us)), (2, (.var 26 [(.row 20)])), (20, (.row 40 6 (gcells cL F))), (3, (.var 22 [(.row 21)])), (21, (.row 3 1 (is .i64 L))), (4, (.var 76 [(.clo 46 [(.ip [(Iv m.mod), (Lv m.mul), (Lv m.add)]), (.ref 2 0), (.ip [(Nv k)]), (.ref 3 0), (.ref 4 0)])]))]⟩
 have hM2 := hM
 obtain ⟨o1, o2, o3, o4, o5⟩ := hM2
 have hpp : 0 < m.mod ^ n := Int.pow_pos (by omega)
 have hpn := pow_le_of hM (j := n) (k := k) (by omega)
 have hW := wordZ_is hM r n
 have hWl := wordZ_len m r n
 obtain ⟨L1, L2, L3⟩ := line_len hM _ hW
 have hpd : 0 < m.mod.toNat ^ d := Nat.pow_pos (by omega)
 have hrl := small_len (z := r) (by omega)
 have hil := iter_len hM r n
 have hdv : 0 < (lineZ m (wordZ m r n)).div := by rw [lineZ_div]; exact Int.pow_pos (by omega)
 have hm0 := len_mulZ (lineZ m (wordZ m r n)).mul r
 have ha0 := len_addZ ((lineZ m (wordZ m r n)).mul * r) (lineZ m (wordZ m r n)).add
 refine awp_seq fun K0 hK0 => ?_
 refine awp_region rfl ?_
 refine o_loadIA [(Iv m.mod), (Lv m.mul), (Lv m.add)] Gd.none f64_ rfl (Nat.le_of_ble_eq_true rfl) rfl ?_
 refine o_mv (Lv (wordZ m r n)) rfl ?_
 refine o_ct (c_oOf m (wordZ m r n) (by first | assumption | exact okM_iff.1 (by assumption)) (by first | assumption | exact (by assumption : OkW _ _).1 | exact isW_take (by assumption : OkW _ _).1 _) (by first | omega | exact (by assumption : OkW _ _).2)) Gd.none f136_ rfl ?_
 refine o_alloc 1001 [Fv, Zv, Fv, Zv, Fv, Zv] Gd.none f78_ rfl rfl rfl ?_
 refine o_store [(1001, (.var 81 [(Bv ((lineZ m (wordZ m r n)).mul)), (Dv ((lineZ m (wordZ m r n)).mul)), (Bv ((lineZ m (wordZ m r n)).add)), (Dv ((lineZ m (wordZ m r n)).add)), (Bv ((lineZ m (wordZ m r n)).div)), (Dv ((lineZ m (wordZ m r n)).div))])), (9009, (.pin [(.ref 2 0), (.ref 3 0), (.ref 4 0)] us)), (2, (.var 26 [(.row 20)])), (20, (.row 40 6 (gcells cL F))), (3, (.var 22 [(.row 21)])), (21, (.row 3 1 (is .i64 L))), (4, (.var 76 [(.clo 46 [(.ip [(Iv m.mod), (Lv m.mul), (Lv m.add)]), (.ref 2 0), (.ip [(Nv k)]), (.ref 3 0), (.ref 4 0)])]))] Gd.none f80_ rfl rfl rfl rfl rfl rfl ?_
 refine aops_end ?_
 refine hK0 _ ?_
 refine awp_seq fun K1 hK1 => ?_
 refine awp_block ?_
 refine awp_seq fun K2 hK2 => ?_
 refine awp_region rfl ?_
 refine o_mv (Lv (wordZ m r n)) rfl ?_
 refine i_len (wordZ m r n) Gd.none f2_ rfl ?_
 refine n_as (v' := (Nv n)) (congrArg (nm _) (by exact wordZ_len m r n)) ?_
 refine n_gtr n 0 Gd.none rfl rfl ?_
 refine n_as (v' := Tv) (by exact bpy hn1) ?_
 refine o_mv Tv rfl ?_
 refine o_fieldRef 0 (Gd.yes rfl rfl rfl) f82_ rfl rfl ?_
 refine o_loadA [(Bv ((lineZ m (wordZ m r n)).mul)), (Dv ((lineZ m (wordZ m r n)).mul))] (Gd.yes rfl rfl rfl) f20_ rfl rfl rfl rfl rfl ?_
 refine o_fieldRef 4 (Gd.yes rfl rfl rfl) f84_ rfl rfl ?_
 refine o_loadA [(Bv ((lineZ m (wordZ m r n)).div)), (Dv ((lineZ m (wordZ m r n)).div))] (Gd.yes rfl rfl rfl) f20_ rfl rfl rfl rfl rfl ?_
 refine o_ct (c_wCmp (((lineZ m (wordZ m r n)).mul)) (((lineZ m (wordZ m r n)).div))) (Gd.yes rfl rfl rfl) f137_ rfl ?_
 refine o_lss (a := (cmpZ (((lineZ m (wordZ m r n)).mul)) (((lineZ m (wordZ m r n)).div)))) (c := (((0 : Nat) : Int))) (Gd.yes rfl rfl rfl) rfl rfl ?_
 refine o_pickT (bp ((cmpZ (((lineZ m (wordZ m r n)).mul)) (((lineZ m (wordZ m r n)).div))) < (((0 : Nat) : Int)))) Gd.none rfl rfl rfl ?_
 refine o_as (bp ((cmpZ (((lineZ m (wordZ m r n)).mul)) (((lineZ m (wordZ m r n)).div))) < (((0 : Nat) : Int)))) rfl ?_
 refine aops_end ?_
 refine hK2 _ ?_
 refine awp_condQ (q := (cmpZ (((lineZ m (wordZ m r n)).mul)) (((lineZ m (wordZ m r n)).div))) < (((0 : Nat) : Int))) rfl (fun h1 => ?_) (fun h1 => ?_)
 ·have hf : fallN m r n := ⟨hn1, lcmp.1 h1⟩
  have hdm : 0 < (lineZ m (wordZ m r n)).div - (lineZ m (wordZ m r n)).mul := by have := hf.2; unfold fallsW at this; omega
  refine awp_seq fun K3 hK3 => ?_
  refine awp_regionD rfl ?_
  refine o_loadS (.row 20) Gd.none f138_ rfl rfl rfl ?_
  refine o_mv (Lv (wordZ m r n)) rfl ?_
  refine i_len (wordZ m r n) Gd.none f2_ rfl ?_
  refine n_as (v' := (Nv n)) (congrArg (nm _) (by exact wordZ_len m r n)) ?_
  refine o_mv (Iv r) rfl ?_
  refine o_loadA [(Bv ((lineZ m (wordZ m r n)).mul)), (Dv ((lineZ m (wordZ m r n)).mul)), (Bv ((lineZ m (wordZ m r n)).add)), (Dv ((lineZ m (wordZ m r n)).add)), (Bv ((lineZ m (wordZ m r n)).div)), (Dv ((lineZ m (wordZ m r n)).div))] Gd.none f85_ rfl rfl rfl rfl rfl ?_
  refine o_ct (c_sfall (((n : Nat) : Int)) r (lineZ m (wordZ m r n)) (by first | omega | assumption) (by first | omega | assumption) (by first | omega | assumption) (by omega)) Gd.none f139_ rfl ?_
  refine o_buildSlice 1002 (gcells cL ([(falO (((n : Nat) : Int)) r (lineZ m (wordZ m r n)))])) [(0, [(Iv ((falO (((n : Nat) : Int)) r (lineZ m (wordZ m r n))).steps)), (Iv ((falO (((n : Nat) : Int)) r (lineZ m (wordZ m r n))).rest)), (Sv ((falO (((n : Nat) : Int)) r (lineZ m (wordZ m r n))).lmul)), (Sv ((falO (((n : Nat) : Int)) r (lineZ m (wordZ m r n))).ladd)), (Sv ((falO (((n : Nat) : Int)) r (lineZ m (wordZ m r n))).ldiv)), (Sv ((falO (((n : Nat) : Int)) r (lineZ m (wordZ m r n))).bound))])] Gd.none f120_ rfl f104_ rfl rfl rfl rfl rfl rfl rfl ?_
  refine g_append cL 1003 F ([(falO (((n : Nat) : Int)) r (lineZ m (wordZ m r n)))]) [(1002, (.row 40 6 (gcells cL ([(falO (((n : Nat) : Int)) r (lineZ m (wordZ m r n)))])))), (1001, (.var 81 [(Bv ((lineZ m (wordZ m r n)).mul)), (Dv ((lineZ m (wordZ m r n)).mul)), (Bv ((lineZ m (wordZ m r n)).add)), (Dv ((lineZ m (wordZ m r n)).add)), (Bv ((lineZ m (wordZ m r n)).div)), (Dv ((lineZ m (wordZ m r n)).div))])), (9009, (.pin [(.ref 2 0), (.ref 3 0), (.ref 4 0)] us)), (2, (.var 26 [(.row 20)])), (3, (.var 22 [(.row 21)])), (21, (.row 3 1 (is .i64 L))), (4, (.var 76 [(.clo 46 [(.ip [(Iv m.mod), (Lv m.mul), (Lv m.add)]), (.ref 2 0), (.ip [(Nv k)]), (.ref 3 0), (.ref 4 0)])]))] cL_len rfl Gd.none f120_ f104_ rfl rfl rfl rfl rfl (by simp only [List.length_append, List.length_cons, List.length_nil]; omega) (by simp only [List.length_append, List.length_cons, List.length_nil]; omega) rfl rfl ?_
  refine o_store [(1003, (.row 40 6 (gcells cL (F ++ ([(falO (((n : Nat) : Int)) r (lineZ m (wordZ m r n)))]))))), (1002, (.row 40 6 (gcells cL ([(falO (((n : Nat) : Int)) r (lineZ m (wordZ m r n)))])))), (1001, (.var 81 [(Bv ((lineZ m (wordZ m r n)).mul)), (Dv ((lineZ m (wordZ m r n)).mul)), (Bv ((lineZ m (wordZ m r n)).add)), (Dv ((lineZ m (wordZ m r n)).add)), (Bv ((lineZ m (wordZ m r n)).div)), (Dv ((lineZ m (wordZ m r n)).div))])), (9009, (.pin [(.ref 2 0), (.ref 3 0), (.ref 4 0)] us)), (2, (.var 26 [(.row 1003)])), (3, (.var 22 [(.row 21)])), (21, (.row 3 1 (is .i64 L))), (4, (.var 76 [(.clo 46 [(.ip [(Iv m.mod), (Lv m.mul), (Lv m.add)]), (.ref 2 0), (.ip [(Nv k)]), (.ref 3 0), (.ref 4 0)])]))] Gd.none f140_ rfl rfl rfl rfl rfl rfl ?_
  refine aops_end ⟨by kernel_rfl, ?_⟩
  refine hK3 _ ?_
  refine awp_ret ?_
  exact ⟨⟨[], [(9009, (.pin [(.ref 2 0), (.ref 3 0), (.ref 4 0)] us)), (2, (.var 26 [(.row 20)])), (20, (.row 40 6 (gcells cL (F ++ ((visA m d n r).1))))), (3, (.var 22 [(.row 21)])), (21, (.row 3 1 (is .i64 (L ++ ((visA m d n r).2))))), (4, (.var 76 [(.clo 46 [(.ip [(Iv m.mod), (Lv m.mul), (Lv m.add)]), (.ref 2 0), (.ip [(Nv k)]), (.ref 3 0), (.ref 4 0)])]))]⟩, Wk.trans (Wk.sub (σ' := ⟨[], [(9009, (.pin [(.ref 2 0), (.ref 3 0), (.ref 4 0)] us)), (2, (.var 26 [(.row 1003)])), (1003, (.row 40 6 (gcells cL (F ++ ([(falO (((n : Nat) : Int)) r (lineZ m (wordZ m r n)))]))))), (3, (.var 22 [(.row 21)])), (21, (.row 3 1 (is .i64 L))), (4, (.var 76 [(.clo 46 [(.ip [(Iv m.mod), (Lv m.mul), (Lv m.add)]), (.ref 2 0), (.ip [(Nv k)]), (.ref 3 0), (.ref 4 0)])]))]⟩) trivial ⟨rfl, rfl, rfl, rfl, rfl, rfl, trivial⟩) (Wk.trans (Wk.ren (id := 1003) (id' := 20) rfl) (Wk.sub trivial ⟨(by first | rfl | (first | exact row_gs' (by rw [vis_fall hf]) | exact row_is (by rw [vis_fall hf]; simp) | exact row_gs' (by rw [vis_left hf hd0]; simp) | exact row_is (by rw [vis_left hf hd0]) | exact row_gs' (List.append_assoc _ _ _) | exact row_is (List.append_assoc _ _ _) | exact row_gs' (List.append_nil _).symm | exact row_is (List.append_nil _).symm | exact row_gs' (by rw [hme, show m.mod.toNat = t by omega]) | exact row_is (by rw [hme, show m.mod.toNat = t by omega]))), (by first | rfl | (first | exact row_gs' (by rw [vis_fall hf]) | exact row_is (by rw [vis_fall hf]; simp) | exact row_gs' (by rw [vis_left hf hd0]; simp) | exact row_is (by rw [vis_left hf hd0]) | exact row_gs' (List.append_assoc _ _ _) | exact row_is (List.append_assoc _ _ _) | exact row_gs' (List.append_nil _).symm | exact row_is (List.append_nil _).symm | exact row_gs' (by rw [hme, show m.mod.toNat = t by omega]) | exact row_is (by rw [hme, show m.mod.toNat = t by omega]))), (by first | rfl | exact row_ns (by simp) | (first | exact row_gs' (by rw [vis_fall hf]) | exact row_is (by rw [vis_fall hf]; simp) | exact row_gs' (by rw [vis_left hf hd0]; simp) | exact row_is (by rw [vis_left hf hd0]) | exact row_gs' (List.append_assoc _ _ _) | exact row_is (List.append_assoc _ _ _) | exact row_gs' (List.append_nil _).symm | exact row_is (List.append_nil _).symm | exact row_gs' (by rw [hme, show m.mod.toNat = t by omega]) | exact row_is (by rw [hme, show m.mod.toNat = t by omega]))), (by first | rfl | (first | exact row_gs' (by rw [vis_fall hf]) | exact row_is (by rw [vis_fall hf]; simp) | exact row_gs' (by rw [vis_left hf hd0]; simp) | exact row_is (by rw [vis_left hf hd0]) | exact row_gs' (List.append_assoc _ _ _) | exact row_is (List.append_assoc _ _ _) | exact row_gs' (List.append_nil _).symm | exact row_is (List.append_nil _).symm | exact row_gs' (by rw [hme, show m.mod.toNat = t by omega]) | exact row_is (by rw [hme, show m.mod.toNat = t by omega]))), (by first | rfl | exact row_ns (by simp) | (first | exact row_gs' (by rw [vis_fall hf]) | exact row_is (by rw [vis_fall hf]; simp) | exact row_gs' (by rw [vis_left hf hd0]; simp) | exact row_is (by rw [vis_left hf hd0]) | exact row_gs' (List.append_assoc _ _ _) | exact row_is (List.append_assoc _ _ _) | exact row_gs' (List.append_nil _).symm | exact row_is (List.append_nil _).symm | exact row_gs' (by rw [hme, show m.mod.toNat = t by omega]) | exact row_is (by rw [hme, show m.mod.toNat = t by omega]))), (by first | rfl | (first | exact row_gs' (by rw [vis_fall hf]) | exact row_is (by rw [vis_fall hf]; simp) | exact row_gs' (by rw [vis_left hf hd0]; simp) | exact row_is (by rw [vis_left hf hd0]) | exact row_gs' (List.append_assoc _ _ _) | exact row_is (List.append_assoc _ _ _) | exact row_gs' (List.append_nil _).symm | exact row_is (List.append_nil _).symm | exact row_gs' (by rw [hme, show m.mod.toNat = t by omega]) | exact row_is (by rw [hme, show m.mod.toNat = t by omega]))), trivial⟩)), ⟨[], trivial, rfl, fun id ob h => keep_pin h rfl, rfl⟩⟩
 ·have hf : ¬ fallN m r n := fun e => h1 (lcmp.2 e.2)
  refine awp_seq fun K4 hK4 => ?_
  refine awp_region rfl ?_
  refine o_mv (Lv (wordZ m r n)) rfl ?_
  refine i_len (wordZ m r n) Gd.none f2_ rfl ?_
  refine n_as (v' := (Nv n)) (congrArg (nm _) (by exact wordZ_len m r n)) ?_
  refine o_loadIS (Nv k) Gd.none f11_ rfl rfl ?_
  refine n_eql n k Gd.none rfl rfl ?_
  refine o_as (bp (n = k)) rfl ?_
  refine aops_end ?_
  refine hK4 _ ?_
  refine awp_condQ (q := n = k) rfl (fun h2 => ?_) (fun h2 => ?_)
  ·have hd0 : d = 0 := by omega
   refine awp_seq fun K5 hK5 => ?_
   refine awp_region rfl ?_
   refine o_loadS (.row 21) Gd.none f1_ rfl rfl rfl ?_
   refine o_mv (Iv r) rfl ?_
   refine o_buildSlice 1002 (is .i64 ([r])) [(0, [(Iv r)])] Gd.none f10_ rfl f26_ rfl rfl rfl rfl rfl rfl rfl ?_
   refine i_append 1003 L ([r]) [(1002, (.row 3 1 (is .i64 ([r])))), (1001, (.var 81 [(Bv ((lineZ m (wordZ m r n)).mul)), (Dv ((lineZ m (wordZ m r n)).mul)), (Bv ((lineZ m (wordZ m r n)).add)), (Dv ((lineZ m (wordZ m r n)).add)), (Bv ((lineZ m (wordZ m r n)).div)), (Dv ((lineZ m (wordZ m r n)).div))])), (9009, (.pin [(.ref 2 0), (.ref 3 0), (.ref 4 0)] us)), (2, (.var 26 [(.row 20)])), (20, (.row 40 6 (gcells cL F))), (3, (.var 22 [(.row 21)])), (4, (.var 76 [(.clo 46 [(.ip [(Iv m.mod), (Lv m.mul), (Lv m.add)]), (.ref 2 0), (.ip [(Nv k)]), (.ref 3 0), (.ref 4 0)])]))] Gd.none f10_ f26_ rfl rfl rfl rfl rfl (by simp only [List.length_append, List.length_cons, List.length_nil]; omega) (by decide) rfl rfl ?_
   refine o_store [(1003, (.row 3 1 (is .i64 (L ++ ([r]))))), (1002, (.row 3 1 (is .i64 ([r])))), (1001, (.var 81 [(Bv ((lineZ m (wordZ m r n)).mul)), (Dv ((lineZ m (wordZ m r n)).mul)), (Bv ((lineZ m (wordZ m r n)).add)), (Dv ((lineZ m (wordZ m r n)).add)), (Bv ((lineZ m (wordZ m r n)).div)), (Dv ((lineZ m (wordZ m r n)).div))])), (9009, (.pin [(.ref 2 0), (.ref 3 0), (.ref 4 0)] us)), (2, (.var 26 [(.row 20)])), (20, (.row 40 6 (gcells cL F))), (3, (.var 22 [(.row 1003)])), (4, (.var 76 [(.clo 46 [(.ip [(Iv m.mod), (Lv m.mul), (Lv m.add)]), (.ref 2 0), (.ip [(Nv k)]), (.ref 3 0), (.ref 4 0)])]))] Gd.none f141_ rfl rfl rfl rfl rfl rfl ?_
   refine aops_end ?_
   refine hK5 _ ?_
   refine awp_ret ?_
   exact ⟨⟨[], [(9009, (.pin [(.ref 2 0), (.ref 3 0), (.ref 4 0)] us)), (2, (.var 26 [(.row 20)])), (20, (.row 40 6 (gcells cL (F ++ ((visA m d n r).1))))), (3, (.var 22 [(.row 21)])), (21, (.row 3 1 (is .i64 (L ++ ((visA m d n r).2))))), (4, (.var 76 [(.clo 46 [(.ip [(Iv m.mod), (Lv m.mul), (Lv m.add)]), (.ref 2 0), (.ip [(Nv k)]), (.ref 3 0), (.ref 4 0)])]))]⟩, Wk.trans (Wk.sub (σ' := ⟨[], [(9009, (.pin [(.ref 2 0), (.ref 3 0), (.ref 4 0)] us)), (2, (.var 26 [(.row 20)])), (20, (.row 40 6 (gcells cL F))), (3, (.var 22 [(.row 1003)])), (1003, (.row 3 1 (is .i64 (L ++ ([r]))))), (4, (.var 76 [(.clo 46 [(.ip [(Iv m.mod), (Lv m.mul), (Lv m.add)]), (.ref 2 0), (.ip [(Nv k)]), (.ref 3 0), (.ref 4 0)])]))]⟩) trivial ⟨rfl, rfl, rfl, rfl, rfl, rfl, trivial⟩) (Wk.trans (Wk.ren (id := 1003) (id' := 21) rfl) (Wk.sub trivial ⟨(by first | rfl | (first | exact row_gs' (by rw [vis_fall hf]) | exact row_is (by rw [vis_fall hf]; simp) | exact row_gs' (by rw [vis_left hf hd0]; simp) | exact row_is (by rw [vis_left hf hd0]) | exact row_gs' (List.append_assoc _ _ _) | exact row_is (List.append_assoc _ _ _) | exact row_gs' (List.append_nil _).symm | exact row_is (List.append_nil _).symm | exact row_gs' (by rw [hme, show m.mod.toNat = t by omega]) | exact row_is (by rw [hme, show m.mod.toNat = t by omega]))), (by first | rfl | (first | exact row_gs' (by rw [vis_fall hf]) | exact row_is (by rw [vis_fall hf]; simp) | exact row_gs' (by rw [vis_left hf hd0]; simp) | exact row_is (by rw [vis_left hf hd0]) | exact row_gs' (List.append_assoc _ _ _) | exact row_is (List.append_assoc _ _ _) | exact row_gs' (List.append_nil _).symm | exact row_is (List.append_nil _).symm | exact row_gs' (by rw [hme, show m.mod.toNat = t by omega]) | exact row_is (by rw [hme, show m.mod.toNat = t by omega]))), (by first | rfl | exact row_ns (by simp) | (first | exact row_gs' (by rw [vis_fall hf]) | exact row_is (by rw [vis_fall hf]; simp) | exact row_gs' (by rw [vis_left hf hd0]; simp) | exact row_is (by rw [vis_left hf hd0]) | exact row_gs' (List.append_assoc _ _ _) | exact row_is (List.append_assoc _ _ _) | exact row_gs' (List.append_nil _).symm | exact row_is (List.append_nil _).symm | exact row_gs' (by rw [hme, show m.mod.toNat = t by omega]) | exact row_is (by rw [hme, show m.mod.toNat = t by omega]))), (by first | rfl | (first | exact row_gs' (by rw [vis_fall hf]) | exact row_is (by rw [vis_fall hf]; simp) | exact row_gs' (by rw [vis_left hf hd0]; simp) | exact row_is (by rw [vis_left hf hd0]) | exact row_gs' (List.append_assoc _ _ _) | exact row_is (List.append_assoc _ _ _) | exact row_gs' (List.append_nil _).symm | exact row_is (List.append_nil _).symm | exact row_gs' (by rw [hme, show m.mod.toNat = t by omega]) | exact row_is (by rw [hme, show m.mod.toNat = t by omega]))), (by first | rfl | exact row_ns (by simp) | (first | exact row_gs' (by rw [vis_fall hf]) | exact row_is (by rw [vis_fall hf]; simp) | exact row_gs' (by rw [vis_left hf hd0]; simp) | exact row_is (by rw [vis_left hf hd0]) | exact row_gs' (List.append_assoc _ _ _) | exact row_is (List.append_assoc _ _ _) | exact row_gs' (List.append_nil _).symm | exact row_is (List.append_nil _).symm | exact row_gs' (by rw [hme, show m.mod.toNat = t by omega]) | exact row_is (by rw [hme, show m.mod.toNat = t by omega]))), (by first | rfl | (first | exact row_gs' (by rw [vis_fall hf]) | exact row_is (by rw [vis_fall hf]; simp) | exact row_gs' (by rw [vis_left hf hd0]; simp) | exact row_is (by rw [vis_left hf hd0]) | exact row_gs' (List.append_assoc _ _ _) | exact row_is (List.append_assoc _ _ _) | exact row_gs' (List.append_nil _).symm | exact row_is (List.append_nil _).symm | exact row_gs' (by rw [hme, show m.mod.toNat = t by omega]) | exact row_is (by rw [hme, show m.mod.toNat = t by omega]))), trivial⟩)), ⟨[], trivial, rfl, fun id ob h => keep_pin h rfl, rfl⟩⟩
  ·obtain ⟨e, hde⟩ : ∃ e, d = e + 1 := ⟨d - 1, by omega⟩
   have hme := vis_more hf hde
   refine awp_skip ?_
   refine hK1 _ ?_
   refine awp_seq fun K6 hK6 => ?_
   refine awp_regionD rfl ?_
   refine o_fieldRef 0 Gd.none f82_ rfl rfl ?_
   refine o_loadA [(Bv ((lineZ m (wordZ m r n)).mul)), (Dv ((lineZ m (wordZ m r n)).mul))] Gd.none f20_ rfl rfl rfl rfl rfl ?_
   refine o_mv (Iv r) rfl ?_
   refine o_ct (c_wOf r (by first | decide | omega) (by first | decide | omega)) Gd.none f46_ rfl ?_
   refine o_ct (c_wMul (((lineZ m (wordZ m r n)).mul)) r (by first | omega | assumption | (simp only [Int.natAbs_neg]; omega)) (by first | omega | assumption | (simp only [Int.natAbs_neg]; omega))) Gd.none f72_ rfl ?_
   refine o_fieldRef 2 Gd.none f83_ rfl rfl ?_
   refine o_loadA [(Bv ((lineZ m (wordZ m r n)).add)), (Dv ((lineZ m (wordZ m r n)).add))] Gd.none f20_ rfl rfl rfl rfl rfl ?_
   refine o_ct (c_wAdd ((((lineZ m (wordZ m r n)).mul) * r)) (((lineZ m (wordZ m r n)).add)) (by first | omega | assumption | (simp only [Int.natAbs_neg]; omega)) (by first | omega | assumption | (simp only [Int.natAbs_neg]; omega))) Gd.none f40_ rfl ?_
   refine o_fieldRef 4 Gd.none f84_ rfl rfl ?_
   refine o_loadA [(Bv ((lineZ m (wordZ m r n)).div)), (Dv ((lineZ m (wordZ m r n)).div))] Gd.none f20_ rfl rfl rfl rfl rfl ?_
   refine o_ct (c_wDivide (((((lineZ m (wordZ m r n)).mul) * r) + ((lineZ m (wordZ m r n)).add))) (((lineZ m (wordZ m r n)).div)) (by omega) (by omega) (by omega)) Gd.none f105_ rfl ?_
   refine o_mv (.tup [(intW ((((((lineZ m (wordZ m r n)).mul) * r) + ((lineZ m (wordZ m r n)).add)) / ((lineZ m (wordZ m r n)).div)))), (intW ((((((lineZ m (wordZ m r n)).mul) * r) + ((lineZ m (wordZ m r n)).add)) % ((lineZ m (wordZ m r n)).div))))]) rfl ?_
   refine o_extract (intW ((((((lineZ m (wordZ m r n)).mul) * r) + ((lineZ m (wordZ m r n)).add)) / ((lineZ m (wordZ m r n)).div)))) Gd.none rfl rfl ?_
   refine n_as (v' := (intW ((iterZ m n r)))) (by exact congrArg intW (vis_a hM r n)) ?_
   refine o_extract (intW ((((((lineZ m (wordZ m r n)).mul) * r) + ((lineZ m (wordZ m r n)).add)) % ((lineZ m (wordZ m r n)).div)))) Gd.none rfl rfl ?_
   refine o_alloc 1002 [Fv, Zv] Gd.none f15_ rfl rfl rfl ?_
   refine o_alloc 1003 [Fv, Zv] Gd.none f15_ rfl rfl rfl ?_
   refine o_store [(1003, (.var 79 [Fv, Zv])), (1002, (oZ 79 .u32 ((iterZ m n r)))), (1001, (.var 81 [(Bv ((lineZ m (wordZ m r n)).mul)), (Dv ((lineZ m (wordZ m r n)).mul)), (Bv ((lineZ m (wordZ m r n)).add)), (Dv ((lineZ m (wordZ m r n)).add)), (Bv ((lineZ m (wordZ m r n)).div)), (Dv ((lineZ m (wordZ m r n)).div))])), (9009, (.pin [(.ref 2 0), (.ref 3 0), (.ref 4 0)] us)), (2, (.var 26 [(.row 20)])), (20, (.row 40 6 (gcells cL F))), (3, (.var 22 [(.row 21)])), (21, (.row 3 1 (is .i64 L))), (4, (.var 76 [(.clo 46 [(.ip [(Iv m.mod), (Lv m.mul), (Lv m.add)]), (.ref 2 0), (.ip [(Nv k)]), (.ref 3 0), (.ref 4 0)])]))] Gd.none f19_ rfl rfl rfl rfl rfl rfl ?_
   refine o_store [(1003, (oZ 79 .u32 ((((((lineZ m (wordZ m r n)).mul) * r) + ((lineZ m (wordZ m r n)).add)) % ((lineZ m (wordZ m r n)).div))))), (1002, (oZ 79 .u32 ((iterZ m n r)))), (1001, (.var 81 [(Bv ((lineZ m (wordZ m r n)).mul)), (Dv ((lineZ m (wordZ m r n)).mul)), (Bv ((lineZ m (wordZ m r n)).add)), (Dv ((lineZ m (wordZ m r n)).add)), (Bv ((lineZ m (wordZ m r n)).div)), (Dv ((lineZ m (wordZ m r n)).div))])), (9009, (.pin [(.ref 2 0), (.ref 3 0), (.ref 4 0)] us)), (2, (.var 26 [(.row 20)])), (20, (.row 40 6 (gcells cL F))), (3, (.var 22 [(.row 21)])), (21, (.row 3 1 (is .i64 L))), (4, (.var 76 [(.clo 46 [(.ip [(Iv m.mod), (Lv m.mul), (Lv m.add)]), (.ref 2 0), (.ip [(Nv k)]), (.ref 3 0), (.ref 4 0)])]))] Gd.none f19_ rfl rfl rfl rfl rfl rfl ?_
   refine aops_end ⟨by kernel_rfl, ?_⟩
   refine hK6 _ ?_
   refine awp_seq fun K7 hK7 => ?_
   refine awp_wk (σ' := ⟨[(0, (Iv r)), (1, (Iv (m.mod ^ n))), (2, (Lv (wordZ m r n))), (3, (.ip [(Iv m.mod), (Lv m.mul), (Lv m.add)])), (4, (.ref 2 0)), (5, (.ip [(Nv k)])), (6, (.ref 3 0)), (7, (.ref 4 0)), (11, (.ref 1001 0)), (12, (.ref 1002 0))], [(1002, (oZ 79 .u32 ((iterZ m n r)))), (1001, (.var 81 [(Bv ((lineZ m (wordZ m r n)).mul)), (Dv ((lineZ m (wordZ m r n)).mul)), (Bv ((lineZ m (wordZ m r n)).add)), (Dv ((lineZ m (wordZ m r n)).add)), (Bv ((lineZ m (wordZ m r n)).div)), (Dv ((lineZ m (wordZ m r n)).div))])), (9009, (.pin [(.ref 2 0), (.ref 3 0), (.ref 4 0)] us)), (2, (.var 26 [(.row 20)])), (20, (.row 40 6 (gcells cL F))), (3, (.var 22 [(.row 21)])), (21, (.row 3 1 (is .i64 L))), (4, (.var 76 [(.clo 46 [(.ip [(Iv m.mod), (Lv m.mul), (Lv m.add)]), (.ref 2 0), (.ip [(Nv k)]), (.ref 3 0), (.ref 4 0)])]))]⟩) (Wk.sub ⟨rfl, rfl, rfl, rfl, rfl, rfl, rfl, rfl, rfl, rfl, trivial⟩ ⟨rfl, rfl, rfl, rfl, rfl, rfl, rfl, rfl, trivial⟩) ?_
   refine awp_wk (σ' := ⟨[(0, (Iv r)), (1, (Iv (m.mod ^ n))), (2, (Lv (wordZ m r n))), (3, (.ip [(Iv m.mod), (Lv m.mul), (Lv m.add)])), (4, (.ref 2 0)), (5, (.ip [(Nv k)])), (6, (.ref 3 0)), (7, (.ref 4 0)), (11, (.ip [(Bv ((lineZ m (wordZ m r n)).mul)), (Dv ((lineZ m (wordZ m r n)).mul)), (Bv ((lineZ m (wordZ m r n)).add)), (Dv ((lineZ m (wordZ m r n)).add)), (Bv ((lineZ m (wordZ m r n)).div)), (Dv ((lineZ m (wordZ m r n)).div))])), (12, (.ref 1002 0))], [(1002, (oZ 79 .u32 ((iterZ m n r)))), (9009, (.pin [(.ref 2 0), (.ref 3 0), (.ref 4 0)] us)), (2, (.var 26 [(.row 20)])), (20, (.row 40 6 (gcells cL F))), (3, (.var 22 [(.row 21)])), (21, (.row 3 1 (is .i64 L))), (4, (.var 76 [(.clo 46 [(.ip [(Iv m.mod), (Lv m.mul), (Lv m.add)]), (.ref 2 0), (.ip [(Nv k)]), (.ref 3 0), (.ref 4 0)])]))]⟩) (Wk.see (id := 1001) (t := 81) (cs := [(Bv ((lineZ m (wordZ m r n)).mul)), (Dv ((lineZ m (wordZ m r n)).mul)), (Bv ((lineZ m (wordZ m r n)).add)), (Dv ((lineZ m (wordZ m r n)).add)), (Bv ((lineZ m (wordZ m r n)).div)), (Dv ((lineZ m (wordZ m r n)).div))]) rfl rfl) ?_
   refine awp_wk (σ' := ⟨[(0, (Iv r)), (1, (Iv (m.mod ^ n))), (2, (Lv (wordZ m r n))), (3, (.ip [(Iv m.mod), (Lv m.mul), (Lv m.add)])), (4, (.ref 2 0)), (5, (.ip [(Nv k)])), (6, (.ref 3 0)), (7, (.ref 4 0)), (11, (.ip [(Bv ((lineZ m (wordZ m r n)).mul)), (Dv ((lineZ m (wordZ m r n)).mul)), (Bv ((lineZ m (wordZ m r n)).add)), (Dv ((lineZ m (wordZ m r n)).add)), (Bv ((lineZ m (wordZ m r n)).div)), (Dv ((lineZ m (wordZ m r n)).div))])), (12, (.ip [(bp ((iterZ m n r) < 0)), (.sl 1 (ns .u32 (digs ((iterZ m n r)).natAbs)))]))], [(9009, (.pin [(.ref 2 0), (.ref 3 0), (.ref 4 0)] us)), (2, (.var 26 [(.row 20)])), (20, (.row 40 6 (gcells cL F))), (3, (.var 22 [(.row 21)])), (21, (.row 3 1 (is .i64 L))), (4, (.var 76 [(.clo 46 [(.ip [(Iv m.mod), (Lv m.mul), (Lv m.add)]), (.ref 2 0), (.ip [(Nv k)]), (.ref 3 0), (.ref 4 0)])]))]⟩) (Wk.see (id := 1002) (t := 79) (cs := [(bp ((iterZ m n r) < 0)), (.sl 1 (ns .u32 (digs ((iterZ m n r)).natAbs)))]) rfl rfl) ?_
   refine awp_region rfl ?_
   refine o_fieldIp Gd.none f60_ rfl (by exact Nat.le_of_ble_eq_true rfl) ?_
   refine o_loadIS (Iv m.mod) Gd.none f11_ rfl rfl ?_
   refine o_mv (Nv 0) rfl ?_
   refine aops_end ?_
   refine hK7 _ ?_
   refine awp_block ?_
   refine awp_loopR (fun κ σ => ∃ (t : Nat), (t ≤ m.mod.toNat) ∧ (m.mod.toNat - t) = κ ∧ σ = ⟨[(0, (Iv r)), (1, (Iv (m.mod ^ n))), (2, (Lv (wordZ m r n))), (3, (.ip [(Iv m.mod), (Lv m.mul), (Lv m.add)])), (4, (.ref 2 0)), (5, (.ip [(Nv k)])), (6, (.ref 3 0)), (7, (.ref 4 0)), (11, (.ip [(Bv ((lineZ m (wordZ m r n)).mul)), (Dv ((lineZ m (wordZ m r n)).mul)), (Bv ((lineZ m (wordZ m r n)).add)), (Dv ((lineZ m (wordZ m r n)).add)), (Bv ((lineZ m (wordZ m r n)).div)), (Dv ((lineZ m (wordZ m r n)).div))])), (12, (.ip [(bp ((iterZ m n r) < 0)), (.sl 1 (ns .u32 (digs ((iterZ m n r)).natAbs)))])), (64, (Iv m.mod)), (65, (Nv t))], [(9009, (.pin [(.ref 2 0), (.ref 3 0), (.ref 4 0)] us)), (2, (.var 26 [(.row 20)])), (20, (.row 40 6 (gcells cL (F ++ ((visU m e n r t).1))))), (3, (.var 22 [(.row 21)])), (21, (.row 3 1 (is .i64 (L ++ ((visU m e n r t).2))))), (4, (.var 76 [(.clo 46 [(.ip [(Iv m.mod), (Lv m.mul), (Lv m.add)]), (.ref 2 0), (.ip [(Nv k)]), (.ref 3 0), (.ref 4 0)])]))]⟩) ⟨_, _, ⟨0, (by omega), rfl, rfl⟩, ?wk0⟩ ?rd0
   case wk0 =>
    exact Wk.sub ⟨rfl, rfl, rfl, rfl, rfl, rfl, rfl, rfl, rfl, rfl, rfl, (by first | rfl | exact nm_int (by omega)), trivial⟩ ⟨rfl, rfl, (by first | rfl | exact row_ns (by simp) | (first | exact row_gs' (by rw [vis_fall hf]) | exact row_is (by rw [vis_fall hf]; simp) | exact row_gs' (by rw [vis_left hf hd0]; simp) | exact row_is (by rw [vis_left hf hd0]) | exact row_gs' (List.append_assoc _ _ _) | exact row_is (List.append_assoc _ _ _) | exact row_gs' (List.append_nil _).symm | exact row_is (List.append_nil _).symm | exact row_gs' (by rw [hme, show m.mod.toNat = t by omega]) | exact row_is (by rw [hme, show m.mod.toNat = t by omega]))), rfl, (by first | rfl | exact row_ns (by simp) | (first | exact row_gs' (by rw [vis_fall hf]) | exact row_is (by rw [vis_fall hf]; simp) | exact row_gs' (by rw [vis_left hf hd0]; simp) | exact row_is (by rw [vis_left hf hd0]) | exact row_gs' (List.append_assoc _ _ _) | exact row_is (List.append_assoc _ _ _) | exact row_gs' (List.append_nil _).symm | exact row_is (List.append_nil _).symm | exact row_gs' (by rw [hme, show m.mod.toNat = t by omega]) | exact row_is (by rw [hme, show m.mod.toNat = t by omega]))), rfl, trivial⟩
   rintro κ _ ⟨t, ht, rfl, rfl⟩
   refine awp_seq fun K8 hK8 => ?_
   refine awp_region rfl ?_
   refine o_lss (a := (((t : Nat) : Int))) (c := m.mod) Gd.none rfl rfl ?_
   refine aops_end ?_
   refine hK8 _ ?_
   refine awp_seq fun K9 hK9 => ?_
   refine awp_condQ (q := (((t : Nat) : Int)) < m.mod) rfl (fun h3 => ?_) (fun h3 => ?_)
   ·have htm : t < m.mod.toNat := by omega
    obtain ⟨hq0, hq1⟩ := vis_rest hM hr0 hr1 htm
    have hpe := pow_le_of hM (j := n + 1) (k := k) (by omega)
    have hUl := visU_len hM e n r t
    have hB1 := visU_bd hde htm hUl.1 hFl
    have hB2 := visU_bd hde htm hUl.2 hLl
    have htl := small_len (z := ((t : Nat) : Int)) (by omega)
    have hml := len_mulZ (lineZ m (wordZ m r n)).mul ((t : Nat) : Int)
    have hmm : ((m.mod.toNat : Nat) : Int) = m.mod := Int.toNat_of_nonneg (by omega)
    have hpq : 0 < m.mod ^ (n + 1) := Int.pow_pos (by omega)
    have hps : m.mod ^ (n + 1) = m.mod ^ n * m.mod := Int.pow_succ _ _
    have hil2 := iter_len hM (r + ((t : Nat) : Int) * m.mod ^ n) n
    have htp := Int.mul_nonneg (show (0 : Int) ≤ ((t : Nat) : Int) by omega) (Int.le_of_lt hpp)
    have hil3 := small_len (z := r + ((t : Nat) : Int) * m.mod ^ n) (by omega)
    refine awp_skip ?_
    refine hK9 _ ?_
    refine awp_seq fun K10 hK10 => ?_
    refine awp_block ?_
    refine awp_seq fun K11 hK11 => ?_
    refine awp_region rfl ?_
    refine o_mv (Nv t) rfl ?_
    refine o_as (Nv t) rfl ?_
    refine aops_end ?_
    refine hK11 _ ?_
    refine awp_seq fun K12 hK12 => ?_
    refine awp_regionD rfl ?_
    refine o_loadIA [(bp ((iterZ m n r) < 0)), (.sl 1 (ns .u32 (digs ((iterZ m n r)).natAbs)))] Gd.none f20_ rfl (Nat.le_of_ble_eq_true rfl) rfl ?_
    refine o_fieldIp Gd.none f82_ rfl (by exact Nat.le_of_ble_eq_true rfl) ?_
    refine o_loadIA [(Bv ((lineZ m (wordZ m r n)).mul)), (Dv ((lineZ m (wordZ m r n)).mul))] Gd.none f20_ rfl (Nat.le_of_ble_eq_true rfl) rfl ?_
    refine o_mv (Nv t) rfl ?_
    refine o_ct (c_wOf (((t : Nat) : Int)) (by first | decide | omega) (by first | decide | omega)) Gd.none f46_ rfl ?_
    refine o_ct (c_wMul (((lineZ m (wordZ m r n)).mul)) (((t : Nat) : Int)) (by first | omega | assumption | (simp only [Int.natAbs_neg]; omega)) (by first | omega | assumption | (simp only [Int.natAbs_neg]; omega))) Gd.none f72_ rfl ?_
    refine o_ct (c_wAdd ((iterZ m n r)) ((((lineZ m (wordZ m r n)).mul) * ((t : Nat) : Int))) (by first | omega | assumption | (simp only [Int.natAbs_neg]; omega)) (by first | omega | assumption | (simp only [Int.natAbs_neg]; omega))) Gd.none f40_ rfl ?_
    refine n_as (v' := (intW ((iterZ m n (r + ((t : Nat) : Int) * m.mod ^ n))))) (by exact congrArg intW (vis_iter hM r _ n)) ?_
    refine o_fieldIp Gd.none f60_ rfl (by exact Nat.le_of_ble_eq_true rfl) ?_
    refine o_loadIS (Iv m.mod) Gd.none f11_ rfl rfl ?_
    refine n_as (v' := (Nv m.mod.toNat)) (nm_int (by omega)) ?_
    refine o_ct (c_wQR ((iterZ m n (r + ((t : Nat) : Int) * m.mod ^ n))) m.mod.toNat (by omega) (by omega) (by first | omega | assumption | (simp only [Int.natAbs_neg]; omega))) Gd.none f71_ rfl ?_
    refine o_mv (.tup [(intW (((iterZ m n (r + ((t : Nat) : Int) * m.mod ^ n)) / ((m.mod.toNat : Nat) : Int)))), (Iv ((iterZ m n (r + ((t : Nat) : Int) * m.mod ^ n)) % ((m.mod.toNat : Nat) : Int)))]) rfl ?_
    refine o_extract (intW (((iterZ m n (r + ((t : Nat) : Int) * m.mod ^ n)) / ((m.mod.toNat : Nat) : Int)))) Gd.none rfl rfl ?_
    refine o_extract (Iv ((iterZ m n (r + ((t : Nat) : Int) * m.mod ^ n)) % ((m.mod.toNat : Nat) : Int))) Gd.none rfl rfl ?_
    refine n_as (v' := (Iv ((iterZ m n (r + ((t : Nat) : Int) * m.mod ^ n)) % m.mod))) (by exact congrArg (fun z => AV.lit (.int .i64 z)) (by rw [hmm])) ?_
    refine o_alloc 1004 [Fv, Zv] Gd.none f15_ rfl rfl rfl ?_
    refine o_store [(1004, (oZ 79 .u32 (((iterZ m n (r + ((t : Nat) : Int) * m.mod ^ n)) / ((m.mod.toNat : Nat) : Int))))), (9009, (.pin [(.ref 2 0), (.ref 3 0), (.ref 4 0)] us)), (2, (.var 26 [(.row 20)])), (20, (.row 40 6 (gcells cL (F ++ ((visU m e n r t).1))))), (3, (.var 22 [(.row 21)])), (21, (.row 3 1 (is .i64 (L ++ ((visU m e n r t).2))))), (4, (.var 76 [(.clo 46 [(.ip [(Iv m.mod), (Lv m.mul), (Lv m.add)]), (.ref 2 0), (.ip [(Nv k)]), (.ref 3 0), (.ref 4 0)])]))] Gd.none f19_ rfl rfl rfl rfl rfl rfl ?_
    refine o_as (Iv ((iterZ m n (r + ((t : Nat) : Int) * m.mod ^ n)) % m.mod)) rfl ?_
    refine aops_end ⟨by kernel_rfl, ?_⟩
    refine hK12 _ ?_
    refine awp_regionSL 15 96 _ 46 [(.ip [(Iv m.mod), (Lv m.mul), (Lv m.add)]), (.ref 2 0), (.ip [(Nv k)]), (.ref 3 0), (.ref 4 0)] _ _ _ _ _ [(Iv (r + ((t : Nat) : Int) * m.mod ^ n)), (Iv (m.mod ^ (n + 1))), (Lv (wordZ m (r + ((t : Nat) : Int) * m.mod ^ n) (n + 1))), (.ip [(Iv m.mod), (Lv m.mul), (Lv m.add)]), (.ref 2 0), (.ip [(Nv k)]), (.ref 3 0), (.ref 4 0)] (.tup []) [(2, (.var 26 [(.row 20)])), (20, (.row 40 6 (gcells cL ((F ++ ((visU m e n r t).1)) ++ ((visA m e (n + 1) (r + ((t : Nat) : Int) * m.mod ^ n)).1))))), (3, (.var 22 [(.row 21)])), (21, (.row 3 1 (is .i64 ((L ++ ((visU m e n r t).2)) ++ ((visA m e (n + 1) (r + ((t : Nat) : Int) * m.mod ^ n)).2))))), (4, (.var 76 [(.clo 46 [(.ip [(Iv m.mod), (Lv m.mul), (Lv m.add)]), (.ref 2 0), (.ip [(Nv k)]), (.ref 3 0), (.ref 4 0)])])), (9009, (.pin [(.ref 2 0), (.ref 3 0), (.ref 4 0)] us))] rfl rfl rfl f144_ (by kernel_rfl) (by kernel_rfl) ?_
    refine o_loadS (.clo 46 [(.ip [(Iv m.mod), (Lv m.mul), (Lv m.add)]), (.ref 2 0), (.ip [(Nv k)]), (.ref 3 0), (.ref 4 0)]) Gd.none f142_ rfl rfl rfl ?_
    refine o_mv (Iv r) rfl ?_
    refine o_mv (Nv t) rfl ?_
    refine o_mv (Iv (m.mod ^ n)) rfl ?_
    refine o_mul (a := (((t : Nat) : Int))) (c := (m.mod ^ n)) Gd.none rfl rfl (by exact wrap64 (by omega) (by omega)) ?_
    refine o_add (a := r) (c := ((((t : Nat) : Int)) * (m.mod ^ n))) Gd.none rfl rfl (by exact wrap64 (by omega) (by omega)) ?_
    refine n_as (v' := (Iv (r + ((t : Nat) : Int) * m.mod ^ n))) (by exact rfl) ?_
    refine o_mv (Iv (m.mod ^ n)) rfl ?_
    refine o_fieldIp Gd.none f60_ rfl (by exact Nat.le_of_ble_eq_true rfl) ?_
    refine o_loadIS (Iv m.mod) Gd.none f11_ rfl rfl ?_
    refine o_mul (a := (m.mod ^ n)) (c := m.mod) Gd.none rfl rfl (by exact wrap64 (by omega) (by omega)) ?_
    refine n_as (v' := (Iv (m.mod ^ (n + 1)))) (by exact congrArg (fun z => AV.lit (.int .i64 z)) (Int.pow_succ _ _).symm) ?_
    refine o_mv (Lv (wordZ m r n)) rfl ?_
    refine o_callM 701 [(Lv (wordZ m r n))] Gd.none f143_ rfl (c_clone (wordZ m r n) (by omega) (by omega)) rfl ?_
    refine o_mv (Iv ((iterZ m n (r + ((t : Nat) : Int) * m.mod ^ n)) % m.mod)) rfl ?_
    refine o_buildSlice 1005 (is .i64 ([(iterZ m n (r + ((t : Nat) : Int) * m.mod ^ n)) % m.mod])) [(0, [(Iv ((iterZ m n (r + ((t : Nat) : Int) * m.mod ^ n)) % m.mod))])] Gd.none f10_ rfl f26_ rfl rfl rfl rfl rfl rfl rfl ?_
    refine i_append 1006 (wordZ m r n) ([(iterZ m n (r + ((t : Nat) : Int) * m.mod ^ n)) % m.mod]) [(1005, (.row 3 1 (is .i64 ([(iterZ m n (r + ((t : Nat) : Int) * m.mod ^ n)) % m.mod])))), (1004, (oZ 79 .u32 (((iterZ m n (r + ((t : Nat) : Int) * m.mod ^ n)) / ((m.mod.toNat : Nat) : Int))))), (9009, (.pin [(.ref 2 0), (.ref 3 0), (.ref 4 0)] us)), (2, (.var 26 [(.row 20)])), (20, (.row 40 6 (gcells cL (F ++ ((visU m e n r t).1))))), (3, (.var 22 [(.row 21)])), (21, (.row 3 1 (is .i64 (L ++ ((visU m e n r t).2))))), (4, (.var 76 [(.clo 46 [(.ip [(Iv m.mod), (Lv m.mul), (Lv m.add)]), (.ref 2 0), (.ip [(Nv k)]), (.ref 3 0), (.ref 4 0)])]))] Gd.none f10_ f26_ rfl rfl rfl rfl rfl (by simp only [List.length_append, List.length_cons, List.length_nil]; omega) (by decide) rfl rfl ?_
    refine aops_end ⟨by kernel_rfl, _, Wk.trans (Wk.freeze (id := 1006) (e := 3) (sz := 1) (cs := (is .i64 ((wordZ m r n) ++ ([(iterZ m n (r + ((t : Nat) : Int) * m.mod ^ n)) % m.mod])))) rfl) (Wk.trans (Wk.slot (i := 95) (y := (Lv (wordZ m (r + ((t : Nat) : Int) * m.mod ^ n) (n + 1)))) (AV.le_eq (by exact congrArg (fun l => AV.sl 1 (is .i64 l)) (vis_word hM r _ n)))) (Wk.sub (σ' := ⟨[(0, (Iv r)), (1, (Iv (m.mod ^ n))), (2, (Lv (wordZ m r n))), (3, (.ip [(Iv m.mod), (Lv m.mul), (Lv m.add)])), (4, (.ref 2 0)), (5, (.ip [(Nv k)])), (6, (.ref 3 0)), (7, (.ref 4 0)), (11, (.ip [(Bv ((lineZ m (wordZ m r n)).mul)), (Dv ((lineZ m (wordZ m r n)).mul)), (Bv ((lineZ m (wordZ m r n)).add)), (Dv ((lineZ m (wordZ m r n)).add)), (Bv ((lineZ m (wordZ m r n)).div)), (Dv ((lineZ m (wordZ m r n)).div))])), (12, (.ip [(bp ((iterZ m n r) < 0)), (.sl 1 (ns .u32 (digs ((iterZ m n r)).natAbs)))])), (64, (Iv m.mod)), (65, (Nv t)), (66, (bp ((((t : Nat) : Int)) < m.mod))), (67, (Nv t)), (14, (Nv t)), (69, (intW ((iterZ m n r)))), (70, (.ip [(Bv ((lineZ m (wordZ m r n)).mul)), (Dv ((lineZ m (wordZ m r n)).mul)), (Bv ((lineZ m (wordZ m r n)).add)), (Dv ((lineZ m (wordZ m r n)).add)), (Bv ((lineZ m (wordZ m r n)).div)), (Dv ((lineZ m (wordZ m r n)).div))])), (71, (.agg [(Bv ((lineZ m (wordZ m r n)).mul)), (Dv ((lineZ m (wordZ m r n)).mul))])), (72, (Nv t)), (73, (intW (((t : Nat) : Int)))), (74, (intW ((((lineZ m (wordZ m r n)).mul) * ((t : Nat) : Int))))), (75, (intW ((iterZ m n (r + ((t : Nat) : Int) * m.mod ^ n))))), (76, (.ip [(Iv m.mod), (Lv m.mul), (Lv m.add)])), (77, (Nv m.mod.toNat)), (78, (.tup [(intW (((iterZ m n (r + ((t : Nat) : Int) * m.mod ^ n)) / ((m.mod.toNat : Nat) : Int)))), (Iv ((iterZ m n (r + ((t : Nat) : Int) * m.mod ^ n)) % ((m.mod.toNat : Nat) : Int)))])), (68, (.tup [(intW (((iterZ m n (r + ((t : Nat) : Int) * m.mod ^ n)) / ((m.mod.toNat : Nat) : Int)))), (Iv ((iterZ m n (r + ((t : Nat) : Int) * m.mod ^ n)) % ((m.mod.toNat : Nat) : Int)))])), (79, (intW (((iterZ m n (r + ((t : Nat) : Int) * m.mod ^ n)) / ((m.mod.toNat : Nat) : Int))))), (80, (Iv ((iterZ m n (r + ((t : Nat) : Int) * m.mod ^ n)) % m.mod))), (16, (Iv ((iterZ m n (r + ((t : Nat) : Int) * m.mod ^ n)) % m.mod))), (81, (.clo 46 [(.ip [(Iv m.mod), (Lv m.mul), (Lv m.add)]), (.ref 2 0), (.ip [(Nv k)]), (.ref 3 0), (.ref 4 0)])), (86, (Iv (r + ((t : Nat) : Int) * m.mod ^ n))), (90, (Iv (m.mod ^ (n + 1)))), (95, (Lv (wordZ m (r + ((t : Nat) : Int) * m.mod ^ n) (n + 1))))], [(2, (.var 26 [(.row 20)])), (20, (.row 40 6 (gcells cL (F ++ ((visU m e n r t).1))))), (3, (.var 22 [(.row 21)])), (21, (.row 3 1 (is .i64 (L ++ ((visU m e n r t).2))))), (4, (.var 76 [(.clo 46 [(.ip [(Iv m.mod), (Lv m.mul), (Lv m.add)]), (.ref 2 0), (.ip [(Nv k)]), (.ref 3 0), (.ref 4 0)])])), (9009, (.pin [(.ref 2 0), (.ref 3 0), (.ref 4 0)] us))]⟩) ⟨rfl, rfl, rfl, rfl, rfl, rfl, rfl, rfl, rfl, rfl, rfl, rfl, rfl, rfl, rfl, rfl, rfl, rfl, rfl, rfl, rfl, rfl, rfl, rfl, rfl, rfl, rfl, rfl, rfl, rfl, rfl, rfl, rfl, trivial⟩ ⟨rfl, rfl, rfl, rfl, rfl, rfl, trivial⟩)), rfl, rfl, scalls_of_r (K := [2, 3, 4]) (m := [(2, (.var 26 [(.row 20)])), (20, (.row 40 6 (gcells cL (F ++ ((visU m e n r t).1))))), (3, (.var 22 [(.row 21)])), (21, (.row 3 1 (is .i64 (L ++ ((visU m e n r t).2))))), (4, (.var 76 [(.clo 46 [(.ip [(Iv m.mod), (Lv m.mul), (Lv m.add)]), (.ref 2 0), (.ip [(Nv k)]), (.ref 3 0), (.ref 4 0)])]))]) (m' := [(2, (.var 26 [(.row 20)])), (20, (.row 40 6 (gcells cL ((F ++ ((visU m e n r t).1)) ++ ((visA m e (n + 1) (r + ((t : Nat) : Int) * m.mod ^ n)).1))))), (3, (.var 22 [(.row 21)])), (21, (.row 3 1 (is .i64 ((L ++ ((visU m e n r t).2)) ++ ((visA m e (n + 1) (r + ((t : Nat) : Int) * m.mod ^ n)).2))))), (4, (.var 76 [(.clo 46 [(.ip [(Iv m.mod), (Lv m.mul), (Lv m.add)]), (.ref 2 0), (.ip [(Nv k)]), (.ref 3 0), (.ref 4 0)])]))]) (e := [(9009, (.pin [(.ref 2 0), (.ref 3 0), (.ref 4 0)] us))]) (ih e (by omega) (n + 1) (r + ((t : Nat) : Int) * m.mod ^ n) (F ++ ((visU m e n r t).1)) (L ++ ((visU m e n r t).2)) (by omega) (by omega) hq0 hq1 (by simp only [List.length_append]; omega) (by simp only [List.length_append]; omega)) rfl rfl, ?_⟩
    refine hK10 _ ?_
    refine awp_region rfl ?_
    refine n_add t 1 Gd.none rfl rfl (by simp only [topOf]; omega) ?_
    refine o_mv (Nv (t + 1)) rfl ?_
    refine aops_end ?_
    refine ⟨_, _, ?lt, ⟨t + 1, (by omega), rfl, rfl⟩, ?wk⟩
    case lt => omega
    case wk => exact Wk.sub ⟨rfl, rfl, rfl, rfl, rfl, rfl, rfl, rfl, rfl, rfl, rfl, (by first | rfl | exact nm_int (by omega)), trivial⟩ ⟨rfl, rfl, (by first | rfl | exact row_ns (by simp) | (first | exact row_gs' (by rw [vis_fall hf]) | exact row_is (by rw [vis_fall hf]; simp) | exact row_gs' (by rw [vis_left hf hd0]; simp) | exact row_is (by rw [vis_left hf hd0]) | exact row_gs' (List.append_assoc _ _ _) | exact row_is (List.append_assoc _ _ _) | exact row_gs' (List.append_nil _).symm | exact row_is (List.append_nil _).symm | exact row_gs' (by rw [hme, show m.mod.toNat = t by omega]) | exact row_is (by rw [hme, show m.mod.toNat = t by omega]))), rfl, (by first | rfl | exact row_ns (by simp) | (first | exact row_gs' (by rw [vis_fall hf]) | exact row_is (by rw [vis_fall hf]; simp) | exact row_gs' (by rw [vis_left hf hd0]; simp) | exact row_is (by rw [vis_left hf hd0]) | exact row_gs' (List.append_assoc _ _ _) | exact row_is (List.append_assoc _ _ _) | exact row_gs' (List.append_nil _).symm | exact row_is (List.append_nil _).symm | exact row_gs' (by rw [hme, show m.mod.toNat = t by omega]) | exact row_is (by rw [hme, show m.mod.toNat = t by omega]))), rfl, trivial⟩
   ·refine awp_exit ?_
    exact ⟨⟨[], [(9009, (.pin [(.ref 2 0), (.ref 3 0), (.ref 4 0)] us)), (2, (.var 26 [(.row 20)])), (20, (.row 40 6 (gcells cL (F ++ ((visA m d n r).1))))), (3, (.var 22 [(.row 21)])), (21, (.row 3 1 (is .i64 (L ++ ((visA m d n r).2))))), (4, (.var 76 [(.clo 46 [(.ip [(Iv m.mod), (Lv m.mul), (Lv m.add)]), (.ref 2 0), (.ip [(Nv k)]), (.ref 3 0), (.ref 4 0)])]))]⟩, Wk.sub trivial ⟨rfl, rfl, (by first | rfl | exact row_ns (by simp) | (first | exact row_gs' (by rw [vis_fall hf]) | exact row_is (by rw [vis_fall hf]; simp) | exact row_gs' (by rw [vis_left hf hd0]; simp) | exact row_is (by rw [vis_left hf hd0]) | exact row_gs' (List.append_assoc _ _ _) | exact row_is (List.append_assoc _ _ _) | exact row_gs' (List.append_nil _).symm | exact row_is (List.append_nil _).symm | exact row_gs' (by rw [hme, show m.mod.toNat = t by omega]) | exact row_is (by rw [hme, show m.mod.toNat = t by omega]))), rfl, (by first | rfl | exact row_ns (by simp) | (first | exact row_gs' (by rw [vis_fall hf]) | exact row_is (by rw [vis_fall hf]; simp) | exact row_gs' (by rw [vis_left hf hd0]; simp) | exact row_is (by rw [vis_left hf hd0]) | exact row_gs' (List.append_assoc _ _ _) | exact row_is (List.append_assoc _ _ _) | exact row_gs' (List.append_nil _).symm | exact row_is (List.append_nil _).symm | exact row_gs' (by rw [hme, show m.mod.toNat = t by omega]) | exact row_is (by rw [hme, show m.mod.toNat = t by omega]))), rfl, trivial⟩, ⟨[], trivial, rfl, fun id ob h => keep_pin h rfl, rfl⟩⟩

theorem c_visit0 (m : MapM) (k : Nat) (hM : OkM m) (hk : k ≤ 16) (hpk : m.mod ^ k ≤ 65536) (d : Nat) (F : List Fal) (L : List Int) (hnd : d = k) (hd1 : 1 ≤ d) (hFl : F.length + m.mod.toNat ^ d ≤ 1000000) (hLl : L.length + m.mod.toNat ^ d ≤ 1000000) :
  RCalls cx 46 [(Iv 0), (Iv (m.mod ^ 0)), Zv, (.ip [(Iv m.mod), (Lv m.mul), (Lv m.add)]), (.ref 2 0), (.ip [(Nv k)]), (.ref 3 0), (.ref 4 0)] [2, 3, 4] [(2, (.var 26 [(.row 20)])), (20, (.row 40 6 (gcells cL F))), (3, (.var 22 [(.row 21)])), (21, (.row 3 1 (is .i64 L))), (4, (.var 76 [(.clo 46 [(.ip [(Iv m.mod), (Lv m.mul), (Lv m.add)]), (.ref 2 0), (.ip [(Nv k)]), (.ref 3 0), (.ref 4 0)])]))] (.tup []) [(2, (.var 26 [(.row 20)])), (20, (.row 40 6 (gcells cL (F ++ ((visA m d 0 0).1))))), (3, (.var 22 [(.row 21)])), (21, (.row 3 1 (is .i64 (L ++ ((visA m d 0 0).2))))), (4, (.var 76 [(.clo 46 [(.ip [(Iv m.mod), (Lv m.mul), (Lv m.add)]), (.ref 2 0), (.ip [(Nv k)]), (.ref 3 0), (.ref 4 0)])]))] := by
 refine rcalls_of_s (scalls_of_awpB 9009 Tryz.func46 (c := _) rfl (Nat.le_of_ble_eq_true rfl) rfl rfl rfl (fun us => ?_)) rfl
 refine awp_late ?_
 show awp cx 98 _ (lateQ cx 98 (postS cx Tryz.f46 (.tup []) [(2, (.var 26 [(.row 20)])), (20, (.row 40 6 (gcells cL (F ++ ((visA m d 0 0).1))))), (3, (.var 22 [(.row 21)])), (21, (.row 3 1 (is .i64 (L ++ ((visA m d 0 0).2))))), (4, (.var 76 [(.clo 46 [(.ip [(Iv m.mod), (Lv m.mul), (Lv m.add)]), (.ref 2 0), (.ip [(Nv k)]), (.ref 3 0), (.ref 4 0)])]))] 9009 [(.ref 2 0), (.ref 3 0), (.ref 4 0)] us)) ⟨[(0, (Iv 0)), (1, (Iv (m.mod ^ 0))), (2, Zv), (3, (.ip [(Iv m.mod), (Lv m.mul), (Lv m.add)])), (4, (.ref 2 0)), (5, (.ip [(Nv k)])), (6, (.ref 3 0)), (7, (.ref 4 0))], [(9009, (.pin [(.ref 2 0), (.ref 3 0), (.ref 4 0)] us)), (2, (.var 26 [(.row 20)])), (20, (.row 40 6 (gcells cL F))), (3, (.var 22 [(.row 21)])), (21, (.row 3 1 (is .i64 L))), (4, (.var 76 [(.clo 46 [(.ip [(Iv m.mod), (Lv m.mul), (Lv m.add)]), (.ref 2 0), (.ip [(Nv k)]), (.ref 3 0), (.ref 4 0)])]))]⟩
 have hr0 : (0 : Int) ≤ 0 := Int.le_refl _
 have hr1 : (0 : Int) < m.mod ^ 0 := by rw [Int.pow_zero]; decide
 have hf : ¬ fallN m 0 0 := fun e => absurd e.1 (by decide)
 obtain ⟨e, hde⟩ : ∃ e, d = e + 1 := ⟨d - 1, by omega⟩
 have hme := vis_more hf hde
 have hM2 := hM
 obtain ⟨o1, o2, o3, o4, o5⟩ := hM2
 have hpp : 0 < m.mod ^ 0 := Int.pow_pos (by omega)
 have hpn := pow_le_of hM (j := 0) (k := k) (by omega)
 have hW := wordZ_is hM 0 0
 have hWl := wordZ_len m 0 0
 obtain ⟨L1, L2, L3⟩ := line_len hM _ hW
 have hpd : 0 < m.mod.toNat ^ d := Nat.pow_pos (by omega)
 have hrl := small_len (z := 0) (by omega)
 have hil := iter_len hM 0 0
 have hdv : 0 < (lineZ m (wordZ m 0 0)).div := by rw [lineZ_div]; exact Int.pow_pos (by omega)
 have hm0 := len_mulZ (lineZ m (wordZ m 0 0)).mul 0
 have ha0 := len_addZ ((lineZ m (wordZ m 0 0)).mul * 0) (lineZ m (wordZ m 0 0)).add
 refine awp_seq fun K0 hK0 => ?_
 refine awp_region rfl ?_
 refine o_loadIA [(Iv m.mod), (Lv m.mul), (Lv m.add)] Gd.none f64_ rfl (Nat.le_of_ble_eq_true rfl) rfl ?_
 refine o_mv Zv rfl ?_
 refine o_callG [] [(mapV m), Zv] _ (linW (lineZ m (wordZ m 0 0))) [(9009, (.pin [(.ref 2 0), (.ref 3 0), (.ref 4 0)] us)), (2, (.var 26 [(.row 20)])), (20, (.row 40 6 (gcells cL F))), (3, (.var 22 [(.row 21)])), (21, (.row 3 1 (is .i64 L))), (4, (.var 76 [(.clo 46 [(.ip [(Iv m.mod), (Lv m.mul), (Lv m.add)]), (.ref 2 0), (.ip [(Nv k)]), (.ref 3 0), (.ref 4 0)])]))] Gd.none f136_ rfl trivial rfl rfl (LeL.cons (AV.le_refl _) (LeL.cons (AV.le_nil' (by decide) rfl) LeL.nil)) (c_oOf m [] hM (fun _ h => by simp at h) (by decide)) rfl ?_
 refine o_alloc 1001 [Fv, Zv, Fv, Zv, Fv, Zv] Gd.none f78_ rfl rfl rfl ?_
 refine o_store [(1001, (.var 81 [(Bv ((lineZ m (wordZ m 0 0)).mul)), (Dv ((lineZ m (wordZ m 0 0)).mul)), (Bv ((lineZ m (wordZ m 0 0)).add)), (Dv ((lineZ m (wordZ m 0 0)).add)), (Bv ((lineZ m (wordZ m 0 0)).div)), (Dv ((lineZ m (wordZ m 0 0)).div))])), (9009, (.pin [(.ref 2 0), (.ref 3 0), (.ref 4 0)] us)), (2, (.var 26 [(.row 20)])), (20, (.row 40 6 (gcells cL F))), (3, (.var 22 [(.row 21)])), (21, (.row 3 1 (is .i64 L))), (4, (.var 76 [(.clo 46 [(.ip [(Iv m.mod), (Lv m.mul), (Lv m.add)]), (.ref 2 0), (.ip [(Nv k)]), (.ref 3 0), (.ref 4 0)])]))] Gd.none f80_ rfl rfl rfl rfl rfl rfl ?_
 refine aops_end ?_
 refine hK0 _ ?_
 refine awp_seq fun K1 hK1 => ?_
 refine awp_block ?_
 refine awp_seq fun K2 hK2 => ?_
 refine awp_region rfl ?_
 refine o_mv Zv rfl ?_
 refine o_lenNil Gd.none f2_ rfl ?_
 refine n_gtr 0 0 Gd.none rfl rfl ?_
 refine n_as (v' := Fv) (by exact bpn (by decide)) ?_
 refine o_mv Fv rfl ?_
 refine o_skip rfl rfl rfl ?_
 refine o_skip rfl rfl rfl ?_
 refine o_skip rfl rfl rfl ?_
 refine o_skip rfl rfl rfl ?_
 refine o_skip rfl rfl rfl ?_
 refine o_skip rfl rfl rfl ?_
 refine o_pickF Fv Gd.none rfl rfl rfl ?_
 refine o_as Fv rfl ?_
 refine aops_end ?_
 refine hK2 _ ?_
 refine awp_condB (b := false) rfl (fun hh => absurd (hh.symm.trans rfl) (by decide)) (fun _ => ?_)
 refine awp_seq fun K3 hK3 => ?_
 refine awp_region rfl ?_
 refine o_mv Zv rfl ?_
 refine o_lenNil Gd.none f2_ rfl ?_
 refine o_loadIS (Nv k) Gd.none f11_ rfl rfl ?_
 refine n_eql 0 k Gd.none rfl rfl ?_
 refine n_as (v' := Fv) (by exact bpn (by omega)) ?_
 refine o_as Fv rfl ?_
 refine aops_end ?_
 refine hK3 _ ?_
 refine awp_condB (b := false) rfl (fun hh => absurd (hh.symm.trans rfl) (by decide)) (fun _ => ?_)
 refine awp_skip ?_
 refine hK1 _ ?_
 refine awp_seq fun K4 hK4 => ?_
 refine awp_regionD rfl ?_
 refine o_fieldRef 0 Gd.none f82_ rfl rfl ?_
 refine o_loadA [(Bv ((lineZ m (wordZ m 0 0)).mul)), (Dv ((lineZ m (wordZ m 0 0)).mul))] Gd.none f20_ rfl rfl rfl rfl rfl ?_
 refine o_mv (Iv 0) rfl ?_
 refine o_ct (c_wOf 0 (by first | decide | omega) (by first | decide | omega)) Gd.none f46_ rfl ?_
 refine o_ct (c_wMul (((lineZ m (wordZ m 0 0)).mul)) 0 (by first | omega | assumption | (simp only [Int.natAbs_neg]; omega)) (by first | omega | assumption | (simp only [Int.natAbs_neg]; omega))) Gd.none f72_ rfl ?_
 refine o_fieldRef 2 Gd.none f83_ rfl rfl ?_
 refine o_loadA [(Bv ((lineZ m (wordZ m 0 0)).add)), (Dv ((lineZ m (wordZ m 0 0)).add))] Gd.none f20_ rfl rfl rfl rfl rfl ?_
 refine o_ct (c_wAdd ((((lineZ m (wordZ m 0 0)).mul) * 0)) (((lineZ m (wordZ m 0 0)).add)) (by first | omega | assumption | (simp only [Int.natAbs_neg]; omega)) (by first | omega | assumption | (simp only [Int.natAbs_neg]; omega))) Gd.none f40_ rfl ?_
 refine o_fieldRef 4 Gd.none f84_ rfl rfl ?_
 refine o_loadA [(Bv ((lineZ m (wordZ m 0 0)).div)), (Dv ((lineZ m (wordZ m 0 0)).div))] Gd.none f20_ rfl rfl rfl rfl rfl ?_
 refine o_ct (c_wDivide (((((lineZ m (wordZ m 0 0)).mul) * 0) + ((lineZ m (wordZ m 0 0)).add))) (((lineZ m (wordZ m 0 0)).div)) (by omega) (by omega) (by omega)) Gd.none f105_ rfl ?_
 refine o_mv (.tup [(intW ((((((lineZ m (wordZ m 0 0)).mul) * 0) + ((lineZ m (wordZ m 0 0)).add)) / ((lineZ m (wordZ m 0 0)).div)))), (intW ((((((lineZ m (wordZ m 0 0)).mul) * 0) + ((lineZ m (wordZ m 0 0)).add)) % ((lineZ m (wordZ m 0 0)).div))))]) rfl ?_
 refine o_extract (intW ((((((lineZ m (wordZ m 0 0)).mul) * 0) + ((lineZ m (wordZ m 0 0)).add)) / ((lineZ m (wordZ m 0 0)).div)))) Gd.none rfl rfl ?_
 refine n_as (v' := (intW ((iterZ m 0 0)))) (by exact congrArg intW (vis_a hM 0 0)) ?_
 refine o_extract (intW ((((((lineZ m (wordZ m 0 0)).mul) * 0) + ((lineZ m (wordZ m 0 0)).add)) % ((lineZ m (wordZ m 0 0)).div)))) Gd.none rfl rfl ?_
 refine o_alloc 1002 [Fv, Zv] Gd.none f15_ rfl rfl rfl ?_
 refine o_alloc 1003 [Fv, Zv] Gd.none f15_ rfl rfl rfl ?_
 refine o_store [(1003, (.var 79 [Fv, Zv])), (1002, (oZ 79 .u32 ((iterZ m 0 0)))), (1001, (.var 81 [(Bv ((lineZ m (wordZ m 0 0)).mul)), (Dv ((lineZ m (wordZ m 0 0)).mul)), (Bv ((lineZ m (wordZ m 0 0)).add)), (Dv ((lineZ m (wordZ m 0 0)).add)), (Bv ((lineZ m (wordZ m 0 0)).div)), (Dv ((lineZ m (wordZ m 0 0)).div))])), (9009, (.pin [(.ref 2 0), (.ref 3 0), (.ref 4 0)] us)), (2, (.var 26 [(.row 20)])), (20, (.row 40 6 (gcells cL F))), (3, (.var 22 [(.row 21)])), (21, (.row 3 1 (is .i64 L))), (4, (.var 76 [(.clo 46 [(.ip [(Iv m.mod), (Lv m.mul), (Lv m.add)]), (.ref 2 0), (.ip [(Nv k)]), (.ref 3 0), (.ref 4 0)])]))] Gd.none f19_ rfl rfl rfl rfl rfl rfl ?_
 refine o_store [(1003, (oZ 79 .u32 ((((((lineZ m (wordZ m 0 0)).mul) * 0) + ((lineZ m (wordZ m 0 0)).add)) % ((lineZ m (wordZ m 0 0)).div))))), (1002, (oZ 79 .u32 ((iterZ m 0 0)))), (1001, (.var 81 [(Bv ((lineZ m (wordZ m 0 0)).mul)), (Dv ((lineZ m (wordZ m 0 0)).mul)), (Bv ((lineZ m (wordZ m 0 0)).add)), (Dv ((lineZ m (wordZ m 0 0)).add)), (Bv ((lineZ m (wordZ m 0 0)).div)), (Dv ((lineZ m (wordZ m 0 0)).div))])), (9009, (.pin [(.ref 2 0), (.ref 3 0), (.ref 4 0)] us)), (2, (.var 26 [(.row 20)])), (20, (.row 40 6 (gcells cL F))), (3, (.var 22 [(.row 21)])), (21, (.row 3 1 (is .i64 L))), (4, (.var 76 [(.clo 46 [(.ip [(Iv m.mod), (Lv m.mul), (Lv m.add)]), (.ref 2 0), (.ip [(Nv k)]), (.ref 3 0), (.ref 4 0)])]))] Gd.none f19_ rfl rfl rfl rfl rfl rfl ?_
 refine aops_end ⟨by kernel_rfl, ?_⟩
 refine hK4 _ ?_
 refine awp_seq fun K5 hK5 => ?_
 refine awp_wk (σ' := ⟨[(0, (Iv 0)), (1, (Iv (m.mod ^ 0))), (2, Zv), (3, (.ip [(Iv m.mod), (Lv m.mul), (Lv m.add)])), (4, (.ref 2 0)), (5, (.ip [(Nv k)])), (6, (.ref 3 0)), (7, (.ref 4 0)), (11, (.ref 1001 0)), (12, (.ref 1002 0))], [(1002, (oZ 79 .u32 ((iterZ m 0 0)))), (1001, (.var 81 [(Bv ((lineZ m (wordZ m 0 0)).mul)), (Dv ((lineZ m (wordZ m 0 0)).mul)), (Bv ((lineZ m (wordZ m 0 0)).add)), (Dv ((lineZ m (wordZ m 0 0)).add)), (Bv ((lineZ m (wordZ m 0 0)).div)), (Dv ((lineZ m (wordZ m 0 0)).div))])), (9009, (.pin [(.ref 2 0), (.ref 3 0), (.ref 4 0)] us)), (2, (.var 26 [(.row 20)])), (20, (.row 40 6 (gcells cL F))), (3, (.var 22 [(.row 21)])), (21, (.row 3 1 (is .i64 L))), (4, (.var 76 [(.clo 46 [(.ip [(Iv m.mod), (Lv m.mul), (Lv m.add)]), (.ref 2 0), (.ip [(Nv k)]), (.ref 3 0), (.ref 4 0)])]))]⟩) (Wk.sub ⟨rfl, rfl, rfl, rfl, rfl, rfl, rfl, rfl, rfl, rfl, trivial⟩ ⟨rfl, rfl, rfl, rfl, rfl, rfl, rfl, rfl, trivial⟩) ?_
 refine awp_wk (σ' := ⟨[(0, (Iv 0)), (1, (Iv (m.mod ^ 0))), (2, Zv), (3, (.ip [(Iv m.mod), (Lv m.mul), (Lv m.add)])), (4, (.ref 2 0)), (5, (.ip [(Nv k)])), (6, (.ref 3 0)), (7, (.ref 4 0)), (11, (.ip [(Bv ((lineZ m (wordZ m 0 0)).mul)), (Dv ((lineZ m (wordZ m 0 0)).mul)), (Bv ((lineZ m (wordZ m 0 0)).add)), (Dv ((lineZ m (wordZ m 0 0)).add)), (Bv ((lineZ m (wordZ m 0 0)).div)), (Dv ((lineZ m (wordZ m 0 0)).div))])), (12, (.ref 1002 0))], [(1002, (oZ 79 .u32 ((iterZ m 0 0)))), (9009, (.pin [(.ref 2 0), (.ref 3 0), (.ref 4 0)] us)), (2, (.var 26 [(.row 20)])), (20, (.row 40 6 (gcells cL F))), (3, (.var 22 [(.row 21)])), (21, (.row 3 1 (is .i64 L))), (4, (.var 76 [(.clo 46 [(.ip [(Iv m.mod), (Lv m.mul), (Lv m.add)]), (.ref 2 0), (.ip [(Nv k)]), (.ref 3 0), (.ref 4 0)])]))]⟩) (Wk.see (id := 1001) (t := 81) (cs := [(Bv ((lineZ m (wordZ m 0 0)).mul)), (Dv ((lineZ m (wordZ m 0 0)).mul)), (Bv ((lineZ m (wordZ m 0 0)).add)), (Dv ((lineZ m (wordZ m 0 0)).add)), (Bv ((lineZ m (wordZ m 0 0)).div)), (Dv ((lineZ m (wordZ m 0 0)).div))]) rfl rfl) ?_
 refine awp_wk (σ' := ⟨[(0, (Iv 0)), (1, (Iv (m.mod ^ 0))), (2, Zv), (3, (.ip [(Iv m.mod), (Lv m.mul), (Lv m.add)])), (4, (.ref 2 0)), (5, (.ip [(Nv k)])), (6, (.ref 3 0)), (7, (.ref 4 0)), (11, (.ip [(Bv ((lineZ m (wordZ m 0 0)).mul)), (Dv ((lineZ m (wordZ m 0 0)).mul)), (Bv ((lineZ m (wordZ m 0 0)).add)), (Dv ((lineZ m (wordZ m 0 0)).add)), (Bv ((lineZ m (wordZ m 0 0)).div)), (Dv ((lineZ m (wordZ m 0 0)).div))])), (12, (.ip [(bp ((iterZ m 0 0) < 0)), (.sl 1 (ns .u32 (digs ((iterZ m 0 0)).natAbs)))]))], [(9009, (.pin [(.ref 2 0), (.ref 3 0), (.ref 4 0)] us)), (2, (.var 26 [(.row 20)])), (20, (.row 40 6 (gcells cL F))), (3, (.var 22 [(.row 21)])), (21, (.row 3 1 (is .i64 L))), (4, (.var 76 [(.clo 46 [(.ip [(Iv m.mod), (Lv m.mul), (Lv m.add)]), (.ref 2 0), (.ip [(Nv k)]), (.ref 3 0), (.ref 4 0)])]))]⟩) (Wk.see (id := 1002) (t := 79) (cs := [(bp ((iterZ m 0 0) < 0)), (.sl 1 (ns .u32 (digs ((iterZ m 0 0)).natAbs)))]) rfl rfl) ?_
 refine awp_region rfl ?_
 refine o_fieldIp Gd.none f60_ rfl (by exact Nat.le_of_ble_eq_true rfl) ?_
 refine o_loadIS (Iv m.mod) Gd.none f11_ rfl rfl ?_
 refine o_mv (Nv 0) rfl ?_
 refine aops_end ?_
 refine hK5 _ ?_
 refine awp_block ?_
 refine awp_loopR (fun κ σ => ∃ (t : Nat), (t ≤ m.mod.toNat) ∧ (m.mod.toNat - t) = κ ∧ σ = ⟨[(0, (Iv 0)), (1, (Iv (m.mod ^ 0))), (2, Zv), (3, (.ip [(Iv m.mod), (Lv m.mul), (Lv m.add)])), (4, (.ref 2 0)), (5, (.ip [(Nv k)])), (6, (.ref 3 0)), (7, (.ref 4 0)), (11, (.ip [(Bv ((lineZ m (wordZ m 0 0)).mul)), (Dv ((lineZ m (wordZ m 0 0)).mul)), (Bv ((lineZ m (wordZ m 0 0)).add)), (Dv ((lineZ m (wordZ m 0 0)).add)), (Bv ((lineZ m (wordZ m 0 0)).div)), (Dv ((lineZ m (wordZ m 0 0)).div))])), (12, (.ip [(bp ((iterZ m 0 0) < 0)), (.sl 1 (ns .u32 (digs ((iterZ m 0 0)).natAbs)))])), (64, (Iv m.mod)), (65, (Nv t))], [(9009, (.pin [(.ref 2 0), (.ref 3 0), (.ref 4 0)] us)), (2, (.var 26 [(.row 20)])), (20, (.row 40 6 (gcells cL (F ++ ((visU m e 0 0 t).1))))), (3, (.var 22 [(.row 21)])), (21, (.row 3 1 (is .i64 (L ++ ((visU m e 0 0 t).2))))), (4, (.var 76 [(.clo 46 [(.ip [(Iv m.mod), (Lv m.mul), (Lv m.add)]), (.ref 2 0), (.ip [(Nv k)]), (.ref 3 0), (.ref 4 0)])]))]⟩) ⟨_, _, ⟨0, (by omega), rfl, rfl⟩, ?wk0⟩ ?rd0
 case wk0 =>
  exact Wk.sub ⟨rfl, rfl, rfl, rfl, rfl, rfl, rfl, rfl, rfl, rfl, rfl, (by first | rfl | exact nm_int (by omega)), trivial⟩ ⟨rfl, rfl, (by first | rfl | exact row_ns (by simp) | (first | exact row_gs' (by rw [vis_fall hf]) | exact row_is (by rw [vis_fall hf]; simp) | exact row_gs' (by rw [vis_left hf hd0]; simp) | exact row_is (by rw [vis_left hf hd0]) | exact row_gs' (List.append_assoc _ _ _) | exact row_is (List.append_assoc _ _ _) | exact row_gs' (List.append_nil _).symm | exact row_is (List.append_nil _).symm | exact row_gs' (by rw [hme, show m.mod.toNat = t by omega]) | exact row_is (by rw [hme, show m.mod.toNat = t by omega]))), rfl, (by first | rfl | exact row_ns (by simp) | (first | exact row_gs' (by rw [vis_fall hf]) | exact row_is (by rw [vis_fall hf]; simp) | exact row_gs' (by rw [vis_left hf hd0]; simp) | exact row_is (by rw [vis_left hf hd0]) | exact row_gs' (List.append_assoc _ _ _) | exact row_is (List.append_assoc _ _ _) | exact row_gs' (List.append_nil _).symm | exact row_is (List.append_nil _).symm | exact row_gs' (by rw [hme, show m.mod.toNat = t by omega]) | exact row_is (by rw [hme, show m.mod.toNat = t by omega]))), rfl, trivial⟩
 rintro κ _ ⟨t, ht, rfl, rfl⟩
 refine awp_seq fun K6 hK6 => ?_
 refine awp_region rfl ?_
 refine o_lss (a := (((t : Nat) : Int))) (c := m.mod) Gd.none rfl rfl ?_
 refine aops_end ?_
 refine hK6 _ ?_
 refine awp_seq fun K7 hK7 => ?_
 refine awp_condQ (q := (((t : Nat) : Int)) < m.mod) rfl (fun h1 => ?_) (fun h1 => ?_)
 ·have htm : t < m.mod.toNat := by omega
  obtain ⟨hq0, hq1⟩ := vis_rest hM hr0 hr1 htm
  have hpe := pow_le_of hM (j := 0 + 1) (k := k) (by omega)
  have hUl := visU_len hM e 0 0 t
  have hB1 := visU_bd hde htm hUl.1 hFl
  have hB2 := visU_bd hde htm hUl.2 hLl
  have htl := small_len (z := ((t : Nat) : Int)) (by omega)
  have hml := len_mulZ (lineZ m (wordZ m 0 0)).mul ((t : Nat) : Int)
  have hmm : ((m.mod.toNat : Nat) : Int) = m.mod := Int.toNat_of_nonneg (by omega)
  have hpq : 0 < m.mod ^ (0 + 1) := Int.pow_pos (by omega)
  have hps : m.mod ^ (0 + 1) = m.mod ^ 0 * m.mod := Int.pow_succ _ _
  have hil2 := iter_len hM (0 + ((t : Nat) : Int) * m.mod ^ 0) 0
  have htp := Int.mul_nonneg (show (0 : Int) ≤ ((t : Nat) : Int) by omega) (Int.le_of_lt hpp)
  have hil3 := small_len (z := 0 + ((t : Nat) : Int) * m.mod ^ 0) (by omega)
  refine awp_skip ?_
  refine hK7 _ ?_
  refine awp_seq fun K8 hK8 => ?_
  refine awp_block ?_
  refine awp_seq fun K9 hK9 => ?_
  refine awp_region rfl ?_
  refine o_mv (Nv t) rfl ?_
  refine o_as (Nv t) rfl ?_
  refine aops_end ?_
  refine hK9 _ ?_
  refine awp_seq fun K10 hK10 => ?_
  refine awp_regionD rfl ?_
  refine o_loadIA [(bp ((iterZ m 0 0) < 0)), (.sl 1 (ns .u32 (digs ((iterZ m 0 0)).natAbs)))] Gd.none f20_ rfl (Nat.le_of_ble_eq_true rfl) rfl ?_
  refine o_fieldIp Gd.none f82_ rfl (by exact Nat.le_of_ble_eq_true rfl) ?_
  refine o_loadIA [(Bv ((lineZ m (wordZ m 0 0)).mul)), (Dv ((lineZ m (wordZ m 0 0)).mul))] Gd.none f20_ rfl (Nat.le_of_ble_eq_true rfl) rfl ?_
  refine o_mv (Nv t) rfl ?_
  refine o_ct (c_wOf (((t : Nat) : Int)) (by first | decide | omega) (by first | decide | omega)) Gd.none f46_ rfl ?_
  refine o_ct (c_wMul (((lineZ m (wordZ m 0 0)).mul)) (((t : Nat) : Int)) (by first | omega | assumption | (simp only [Int.natAbs_neg]; omega)) (by first | omega | assumption | (simp only [Int.natAbs_neg]; omega))) Gd.none f72_ rfl ?_
  refine o_ct (c_wAdd ((iterZ m 0 0)) ((((lineZ m (wordZ m 0 0)).mul) * ((t : Nat) : Int))) (by first | omega | assumption | (simp only [Int.natAbs_neg]; omega)) (by first | omega | assumption | (simp only [Int.natAbs_neg]; omega))) Gd.none f40_ rfl ?_
  refine n_as (v' := (intW ((iterZ m 0 (0 + ((t : Nat) : Int) * m.mod ^ 0))))) (by exact congrArg intW (vis_iter hM 0 _ 0)) ?_
  refine o_fieldIp Gd.none f60_ rfl (by exact Nat.le_of_ble_eq_true rfl) ?_
  refine o_loadIS (Iv m.mod) Gd.none f11_ rfl rfl ?_
  refine n_as (v' := (Nv m.mod.toNat)) (nm_int (by omega)) ?_
  refine o_ct (c_wQR ((iterZ m 0 (0 + ((t : Nat) : Int) * m.mod ^ 0))) m.mod.toNat (by omega) (by omega) (by first | omega | assumption | (simp only [Int.natAbs_neg]; omega))) Gd.none f71_ rfl ?_
  refine o_mv (.tup [(intW (((iterZ m 0 (0 + ((t : Nat) : Int) * m.mod ^ 0)) / ((m.mod.toNat : Nat) : Int)))), (Iv ((iterZ m 0 (0 + ((t : Nat) : Int) * m.mod ^ 0)) % ((m.mod.toNat : Nat) : Int)))]) rfl ?_
  refine o_extract (intW (((iterZ m 0 (0 + ((t : Nat) : Int) * m.mod ^ 0)) / ((m.mod.toNat : Nat) : Int)))) Gd.none rfl rfl ?_
  refine o_extract (Iv ((iterZ m 0 (0 + ((t : Nat) : Int) * m.mod ^ 0)) % ((m.mod.toNat : Nat) : Int))) Gd.none rfl rfl ?_
  refine n_as (v' := (Iv ((iterZ m 0 (0 + ((t : Nat) : Int) * m.mod ^ 0)) % m.mod))) (by exact congrArg (fun z => AV.lit (.int .i64 z)) (by rw [hmm])) ?_
  refine o_alloc 1004 [Fv, Zv] Gd.none f15_ rfl rfl rfl ?_
  refine o_store [(1004, (oZ 79 .u32 (((iterZ m 0 (0 + ((t : Nat) : Int) * m.mod ^ 0)) / ((m.mod.toNat : Nat) : Int))))), (9009, (.pin [(.ref 2 0), (.ref 3 0), (.ref 4 0)] us)), (2, (.var 26 [(.row 20)])), (20, (.row 40 6 (gcells cL (F ++ ((visU m e 0 0 t).1))))), (3, (.var 22 [(.row 21)])), (21, (.row 3 1 (is .i64 (L ++ ((visU m e 0 0 t).2))))), (4, (.var 76 [(.clo 46 [(.ip [(Iv m.mod), (Lv m.mul), (Lv m.add)]), (.ref 2 0), (.ip [(Nv k)]), (.ref 3 0), (.ref 4 0)])]))] Gd.none f19_ rfl rfl rfl rfl rfl rfl ?_
  refine o_as (Iv ((iterZ m 0 (0 + ((t : Nat) : Int) * m.mod ^ 0)) % m.mod)) rfl ?_
  refine aops_end ⟨by kernel_rfl, ?_⟩
  refine hK10 _ ?_
  refine awp_regionSL 15 96 _ 46 [(.ip [(Iv m.mod), (Lv m.mul), (Lv m.add)]), (.ref 2 0), (.ip [(Nv k)]), (.ref 3 0), (.ref 4 0)] _ _ _ _ _ [(Iv (0 + ((t : Nat) : Int) * m.mod ^ 0)), (Iv (m.mod ^ (0 + 1))), (Lv (wordZ m (0 + ((t : Nat) : Int) * m.mod ^ 0) (0 + 1))), (.ip [(Iv m.mod), (Lv m.mul), (Lv m.add)]), (.ref 2 0), (.ip [(Nv k)]), (.ref 3 0), (.ref 4 0)] (.tup []) [(2, (.var 26 [(.row 20)])), (20, (.row 40 6 (gcells cL ((F ++ ((visU m e 0 0 t).1)) ++ ((visA m e (0 + 1) (0 + ((t : Nat) : Int) * m.mod ^ 0)).1))))), (3, (.var 22 [(.row 21)])), (21, (.row 3 1 (is .i64 ((L ++ ((visU m e 0 0 t).2)) ++ ((visA m e (0 + 1) (0 + ((t : Nat) : Int) * m.mod ^ 0)).2))))), (4, (.var 76 [(.clo 46 [(.ip [(Iv m.mod), (Lv m.mul), (Lv m.add)]), (.ref 2 0), (.ip [(Nv k)]), (.ref 3 0), (.ref 4 0)])])), (9009, (.pin [(.ref 2 0), (.ref 3 0), (.ref 4 0)] us))] rfl rfl rfl f144_ (by kernel_rfl) (by kernel_rfl) ?_
  refine o_loadS (.clo 46 [(.ip [(Iv m.mod), (Lv m.mul), (Lv m.add)]), (.ref 2 0), (.ip [(Nv k)]), (.ref 3 0), (.ref 4 0)]) Gd.none f142_ rfl rfl rfl ?_
  refine o_mv (Iv 0) rfl ?_
  refine o_mv (Nv t) rfl ?_
  refine o_mv (Iv (m.mod ^ 0)) rfl ?_
  refine o_mul (a := (((t : Nat) : Int))) (c := (m.mod ^ 0)) Gd.none rfl rfl (by exact wrap64 (by omega) (by omega)) ?_
  refine o_add (a := 0) (c := ((((t : Nat) : Int)) * (m.mod ^ 0))) Gd.none rfl rfl (by exact wrap64 (by omega) (by omega)) ?_
  refine n_as (v' := (Iv (0 + ((t : Nat) : Int) * m.mod ^ 0))) (by exact rfl) ?_
  refine o_mv (Iv (m.mod ^ 0)) rfl ?_
  refine o_fieldIp Gd.none f60_ rfl (by exact Nat.le_of_ble_eq_true rfl) ?_
  refine o_loadIS (Iv m.mod) Gd.none f11_ rfl rfl ?_
  refine o_mul (a := (m.mod ^ 0)) (c := m.mod) Gd.none rfl rfl (by exact wrap64 (by omega) (by omega)) ?_
  refine n_as (v' := (Iv (m.mod ^ (0 + 1)))) (by exact congrArg (fun z => AV.lit (.int .i64 z)) (Int.pow_succ _ _).symm) ?_
  refine o_mv Zv rfl ?_
  refine o_callG [] [Zv] _ Zv [(1004, (oZ 79 .u32 (((iterZ m 0 (0 + ((t : Nat) : Int) * m.mod ^ 0)) / ((m.mod.toNat : Nat) : Int))))), (9009, (.pin [(.ref 2 0), (.ref 3 0), (.ref 4 0)] us)), (2, (.var 26 [(.row 20)])), (20, (.row 40 6 (gcells cL (F ++ ((visU m e 0 0 t).1))))), (3, (.var 22 [(.row 21)])), (21, (.row 3 1 (is .i64 (L ++ ((visU m e 0 0 t).2))))), (4, (.var 76 [(.clo 46 [(.ip [(Iv m.mod), (Lv m.mul), (Lv m.add)]), (.ref 2 0), (.ip [(Nv k)]), (.ref 3 0), (.ref 4 0)])]))] Gd.none f143_ rfl trivial rfl rfl (LeL.cons (AV.le_refl _) LeL.nil) c_clone0 rfl ?_
  refine o_mv (Iv ((iterZ m 0 (0 + ((t : Nat) : Int) * m.mod ^ 0)) % m.mod)) rfl ?_
  refine o_buildSlice 1005 (is .i64 ([(iterZ m 0 (0 + ((t : Nat) : Int) * m.mod ^ 0)) % m.mod])) [(0, [(Iv ((iterZ m 0 (0 + ((t : Nat) : Int) * m.mod ^ 0)) % m.mod))])] Gd.none f10_ rfl f26_ rfl rfl rfl rfl rfl rfl rfl ?_
  refine o_appendNil 1006 (is .i64 ([(iterZ m 0 (0 + ((t : Nat) : Int) * m.mod ^ 0)) % m.mod])) [1005] Gd.none f10_ rfl f26_ rfl rfl (.inr ⟨1005, _, rfl, rfl, rfl⟩) (by simp [is]) (by simp [is]) rfl ?_
  refine aops_end ⟨by kernel_rfl, _, Wk.trans (Wk.freeze (id := 1006) (e := 3) (sz := 1) (cs := (is .i64 ([(iterZ m 0 (0 + ((t : Nat) : Int) * m.mod ^ 0)) % m.mod]))) rfl) (Wk.trans (Wk.slot (i := 95) (y := (Lv (wordZ m (0 + ((t : Nat) : Int) * m.mod ^ 0) (0 + 1)))) (AV.le_eq (by exact congrArg (fun l => AV.sl 1 (is .i64 l)) (vis_word hM 0 _ 0)))) (Wk.sub (σ' := ⟨[(0, (Iv 0)), (1, (Iv (m.mod ^ 0))), (2, Zv), (3, (.ip [(Iv m.mod), (Lv m.mul), (Lv m.add)])), (4, (.ref 2 0)), (5, (.ip [(Nv k)])), (6, (.ref 3 0)), (7, (.ref 4 0)), (11, (.ip [(Bv ((lineZ m (wordZ m 0 0)).mul)), (Dv ((lineZ m (wordZ m 0 0)).mul)), (Bv ((lineZ m (wordZ m 0 0)).add)), (Dv ((lineZ m (wordZ m 0 0)).add)), (Bv ((lineZ m (wordZ m 0 0)).div)), (Dv ((lineZ m (wordZ m 0 0)).div))])), (12, (.ip [(bp ((iterZ m 0 0) < 0)), (.sl 1 (ns .u32 (digs ((iterZ m 0 0)).natAbs)))])), (64, (Iv m.mod)), (65, (Nv t)), (66, (bp ((((t : Nat) : Int)) < m.mod))), (67, (Nv t)), (14, (Nv t)), (69, (intW ((iterZ m 0 0)))), (70, (.ip [(Bv ((lineZ m (wordZ m 0 0)).mul)), (Dv ((lineZ m (wordZ m 0 0)).mul)), (Bv ((lineZ m (wordZ m 0 0)).add)), (Dv ((lineZ m (wordZ m 0 0)).add)), (Bv ((lineZ m (wordZ m 0 0)).div)), (Dv ((lineZ m (wordZ m 0 0)).div))])), (71, (.agg [(Bv ((lineZ m (wordZ m 0 0)).mul)), (Dv ((lineZ m (wordZ m 0 0)).mul))])), (72, (Nv t)), (73, (intW (((t : Nat) : Int)))), (74, (intW ((((lineZ m (wordZ m 0 0)).mul) * ((t : Nat) : Int))))), (75, (intW ((iterZ m 0 (0 + ((t : Nat) : Int) * m.mod ^ 0))))), (76, (.ip [(Iv m.mod), (Lv m.mul), (Lv m.add)])), (77, (Nv m.mod.toNat)), (78, (.tup [(intW (((iterZ m 0 (0 + ((t : Nat) : Int) * m.mod ^ 0)) / ((m.mod.toNat : Nat) : Int)))), (Iv ((iterZ m 0 (0 + ((t : Nat) : Int) * m.mod ^ 0)) % ((m.mod.toNat : Nat) : Int)))])), (68, (.tup [(intW (((iterZ m 0 (0 + ((t : Nat) : Int) * m.mod ^ 0)) / ((m.mod.toNat : Nat) : Int)))), (Iv ((iterZ m 0 (0 + ((t : Nat) : Int) * m.mod ^ 0)) % ((m.mod.toNat : Nat) : Int)))])), (79, (intW (((iterZ m 0 (0 + ((t : Nat) : Int) * m.mod ^ 0)) / ((m.mod.toNat : Nat) : Int))))), (80, (Iv ((iterZ m 0 (0 + ((t : Nat) : Int) * m.mod ^ 0)) % m.mod))), (16, (Iv ((iterZ m 0 (0 + ((t : Nat) : Int) * m.mod ^ 0)) % m.mod))), (81, (.clo 46 [(.ip [(Iv m.mod), (Lv m.mul), (Lv m.add)]), (.ref 2 0), (.ip [(Nv k)]), (.ref 3 0), (.ref 4 0)])), (86, (Iv (0 + ((t : Nat) : Int) * m.mod ^ 0))), (90, (Iv (m.mod ^ (0 + 1)))), (95, (Lv (wordZ m (0 + ((t : Nat) : Int) * m.mod ^ 0) (0 + 1))))], [(2, (.var 26 [(.row 20)])), (20, (.row 40 6 (gcells cL (F ++ ((visU m e 0 0 t).1))))), (3, (.var 22 [(.row 21)])), (21, (.row 3 1 (is .i64 (L ++ ((visU m e 0 0 t).2))))), (4, (.var 76 [(.clo 46 [(.ip [(Iv m.mod), (Lv m.mul), (Lv m.add)]), (.ref 2 0), (.ip [(Nv k)]), (.ref 3 0), (.ref 4 0)])])), (9009, (.pin [(.ref 2 0), (.ref 3 0), (.ref 4 0)] us))]⟩) ⟨rfl, rfl, rfl, rfl, rfl, rfl, rfl, rfl, rfl, rfl, rfl, rfl, rfl, rfl, rfl, rfl, rfl, rfl, rfl, rfl, rfl, rfl, rfl, rfl, rfl, rfl, rfl, rfl, rfl, rfl, rfl, rfl, rfl, trivial⟩ ⟨rfl, rfl, rfl, rfl, rfl, rfl, trivial⟩)), rfl, rfl, scalls_of_r (K := [2, 3, 4]) (m := [(2, (.var 26 [(.row 20)])), (20, (.row 40 6 (gcells cL (F ++ ((visU m e 0 0 t).1))))), (3, (.var 22 [(.row 21)])), (21, (.row 3 1 (is .i64 (L ++ ((visU m e 0 0 t).2))))), (4, (.var 76 [(.clo 46 [(.ip [(Iv m.mod), (Lv m.mul), (Lv m.add)]), (.ref 2 0), (.ip [(Nv k)]), (.ref 3 0), (.ref 4 0)])]))]) (m' := [(2, (.var 26 [(.row 20)])), (20, (.row 40 6 (gcells cL ((F ++ ((visU m e 0 0 t).1)) ++ ((visA m e (0 + 1) (0 + ((t : Nat) : Int) * m.mod ^ 0)).1))))), (3, (.var 22 [(.row 21)])), (21, (.row 3 1 (is .i64 ((L ++ ((visU m e 0 0 t).2)) ++ ((visA m e (0 + 1) (0 + ((t : Nat) : Int) * m.mod ^ 0)).2))))), (4, (.var 76 [(.clo 46 [(.ip [(Iv m.mod), (Lv m.mul), (Lv m.add)]), (.ref 2 0), (.ip [(Nv k)]), (.ref 3 0), (.ref 4 0)])]))]) (e := [(9009, (.pin [(.ref 2 0), (.ref 3 0), (.ref 4 0)] us))]) (c_visit m k hM hk hpk e (0 + 1) (0 + ((t : Nat) : Int) * m.mod ^ 0) (F ++ ((visU m e 0 0 t).1)) (L ++ ((visU m e 0 0 t).2)) (by omega) (by omega) hq0 hq1 (by simp only [List.length_append]; omega) (by simp only [List.length_append]; omega)) rfl rfl, ?_⟩
  refine hK8 _ ?_
  refine awp_region rfl ?_
  refine n_add t 1 Gd.none rfl rfl (by simp only [topOf]; omega) ?_
  refine o_mv (Nv (t + 1)) rfl ?_
  refine aops_end ?_
  refine ⟨_, _, ?lt, ⟨t + 1, (by omega), rfl, rfl⟩, ?wk⟩
  case lt => omega
  case wk => exact Wk.sub ⟨rfl, rfl, rfl, rfl, rfl, rfl, rfl, rfl, rfl, rfl, rfl, (by first | rfl | exact nm_int (by omega)), trivial⟩ ⟨rfl, rfl, (by first | rfl | exact row_ns (by simp) | (first | exact row_gs' (by rw [vis_fall hf]) | exact row_is (by rw [vis_fall hf]; simp) | exact row_gs' (by rw [vis_left hf hd0]; simp) | exact row_is (by rw [vis_left hf hd0]) | exact row_gs' (List.append_assoc _ _ _) | exact row_is (List.append_assoc _ _ _) | exact row_gs' (List.append_nil _).symm | exact row_is (List.append_nil _).symm | exact row_gs' (by rw [hme, show m.mod.toNat = t by omega]) | exact row_is (by rw [hme, show m.mod.toNat = t by omega]))), rfl, (by first | rfl | exact row_ns (by simp) | (first | exact row_gs' (by rw [vis_fall hf]) | exact row_is (by rw [vis_fall hf]; simp) | exact row_gs' (by rw [vis_left hf hd0]; simp) | exact row_is (by rw [vis_left hf hd0]) | exact row_gs' (List.append_assoc _ _ _) | exact row_is (List.append_assoc _ _ _) | exact row_gs' (List.append_nil _).symm | exact row_is (List.append_nil _).symm | exact row_gs' (by rw [hme, show m.mod.toNat = t by omega]) | exact row_is (by rw [hme, show m.mod.toNat = t by omega]))), rfl, trivial⟩
 ·refine awp_exit ?_
  exact ⟨⟨[], [(9009, (.pin [(.ref 2 0), (.ref 3 0), (.ref 4 0)] us)), (2, (.var 26 [(.row 20)])), (20, (.row 40 6 (gcells cL (F ++ ((visA m d 0 0).1))))), (3, (.var 22 [(.row 21)])), (21, (.row 3 1 (is .i64 (L ++ ((visA m d 0 0).2))))), (4, (.var 76 [(.clo 46 [(.ip [(Iv m.mod), (Lv m.mul), (Lv m.add)]), (.ref 2 0), (.ip [(Nv k)]), (.ref 3 0), (.ref 4 0)])]))]⟩, Wk.sub trivial ⟨rfl, rfl, (by first | rfl | exact row_ns (by simp) | (first | exact row_gs' (by rw [vis_fall hf]) | exact row_is (by rw [vis_fall hf]; simp) | exact row_gs' (by rw [vis_left hf hd0]; simp) | exact row_is (by rw [vis_left hf hd0]) | exact row_gs' (List.append_assoc _ _ _) | exact row_is (List.append_assoc _ _ _) | exact row_gs' (List.append_nil _).symm | exact row_is (List.append_nil _).symm | exact row_gs' (by rw [hme, show m.mod.toNat = t by omega]) | exact row_is (by rw [hme, show m.mod.toNat = t by omega]))), rfl, (by first | rfl | exact row_ns (by simp) | (first | exact row_gs' (by rw [vis_fall hf]) | exact row_is (by rw [vis_fall hf]; simp) | exact row_gs' (by rw [vis_left hf hd0]; simp) | exact row_is (by rw [vis_left hf hd0]) | exact row_gs' (List.append_assoc _ _ _) | exact row_is (List.append_assoc _ _ _) | exact row_gs' (List.append_nil _).symm | exact row_is (List.append_nil _).symm | exact row_gs' (by rw [hme, show m.mod.toNat = t by omega]) | exact row_is (by rw [hme, show m.mod.toNat = t by omega]))), rfl, trivial⟩, ⟨[], trivial, rfl, fun id ob h => keep_pin h rfl, rfl⟩⟩

end Go.Proofs.YtjbaamfahkjhgaaGreatDoor

set_option linter.unusedVariables false
set_option linter.unusedSimpArgs false
namespace Go.Mth
open Go Go.Ab
def sieF (m : MapM) (k : Nat) : List Fal := srt (fun x : Fal => x.steps) (srt (fun x : Fal => x.rest) (visA m k 0 0).1)
def sieL (m : MapM) (k : Nat) : List Int := srt (fun x : Int => x) (visA m k 0 0).2
theorem toNat_pow {m : MapM} (hM : OkM m) {k : Nat} (h : m.mod ^ k ≤ 65536) : m.mod.toNat ^ k ≤ 65536 := by
  have h0 := hM.1
  have e : ((m.mod.toNat : Nat) : Int) = m.mod := Int.toNat_of_nonneg (by omega)
  have h1 : ((m.mod.toNat ^ k : Nat) : Int) = m.mod ^ k := by rw [Int.natCast_pow, e]
  omega
theorem chk_nat {m : MapM} (hM : OkM m) {k : Int} (hk : mayS m k) : chkE m k = 0 := chk_0 (okM_iff.2 hM) hk
theorem okM_col : OkM (kinM 3 1) := okM_iff.1 okM_ex
theorem free_col : freeM (kinM 3 1) := fun i hi => by
  have hi : i < 2 := hi
  have : i = 0 ∨ i = 1 := by omega
  rcases this with rfl | rfl <;> decide
theorem may_col3 : mayS (kinM 3 1) ((3 : Nat) : Int) := ⟨free_col, by decide, by decide⟩
theorem may_col4 : mayS (kinM 3 1) 4 := ⟨free_col, by decide, by decide⟩
theorem t0 : txt 0 = ⟨#[48]⟩ := by simp [txt, txtL, decs, strN]; rfl
theorem t1 : txt 1 = ⟨#[49]⟩ := by simp [txt, txtL, decs, strN]; rfl
theorem t2 : txt 2 = ⟨#[50]⟩ := by simp [txt, txtL, decs, strN]; rfl
theorem t3 : txt 3 = ⟨#[51]⟩ := by simp [txt, txtL, decs, strN]; rfl
theorem t4 : txt 4 = ⟨#[52]⟩ := by simp [txt, txtL, decs, strN]; rfl
theorem t5 : txt 5 = ⟨#[53]⟩ := by simp [txt, txtL, decs, strN]; rfl
theorem t9 : txt 9 = ⟨#[57]⟩ := by simp [txt, txtL, decs, strN]; rfl
theorem t16 : txt 16 = ⟨#[49, 54]⟩ := by simp [txt, txtL, decs, strN]; rfl
def ex1 : Fal := ⟨1, 0, ⟨#[49]⟩, ⟨#[48]⟩, ⟨#[50]⟩, ⟨#[48]⟩⟩
def ex2 : Fal := ⟨2, 1, ⟨#[51]⟩, ⟨#[49]⟩, ⟨#[52]⟩, ⟨#[49]⟩⟩
def ex3 : Fal := ⟨4, 3, ⟨#[57]⟩, ⟨#[53]⟩, ⟨#[49, 54]⟩, ⟨#[48]⟩⟩
theorem ex_vis : visA (kinM 3 1) 3 0 0 = ([falO 1 0 ⟨1, 0, 2⟩, falO 2 1 ⟨3, 1, 4⟩], [3, 7]) := rfl
theorem ex_f1 : falO 1 0 ⟨1, 0, 2⟩ = ex1 := by
  show (⟨1, 0, txt 1, txt 0, txt 2, txt 0⟩ : Fal) = _
  rw [t1, t0, t2]; rfl
theorem ex_f2 : falO 2 1 ⟨3, 1, 4⟩ = ex2 := by
  show (⟨2, 1, txt 3, txt 1, txt 4, txt 1⟩ : Fal) = _
  rw [t3, t1, t4]; rfl
theorem ex_F : sieF (kinM 3 1) 3 = [ex1, ex2] := by unfold sieF; rw [ex_vis, ex_f1, ex_f2]; rfl
theorem ex_L : sieL (kinM 3 1) 3 = [3, 7] := by unfold sieL; rw [ex_vis]; rfl
def exN : ByteArray := ⟨#[49,48,48,48,48,48,48,48,48,48,48,48,48,48,48,48,48,48,48,48,48,48,48,48,51]⟩
theorem ex_num : okS exN = true ∧ numS exN = 1000000000000000000000003 := by
  refine ⟨?_, ?_⟩
  · have h : ∀ i, i < 25 → 48 ≤ byt exN i ∧ byt exN i ≤ 57 := by decide
    exact okS_yes ⟨by decide, by decide, by decide, fun i _ h2 => h i h2⟩
  · unfold numS; rfl
theorem ex_fnd : fndF (kinM 3 1) 1000000000000000000000003 4 = falO 4 3 ⟨9, 5, 16⟩ ∧ fndB (kinM 3 1) 1000000000000000000000003 4 := by
  have h : ffal (kinM 3 1) 1000000000000000000000003 4 = 4 := by decide
  refine ⟨?_, by unfold fndB; rw [h]; decide⟩
  unfold fndF; rw [if_neg (by rw [h]; decide), h]; rfl
theorem ex_f3 : falO 4 3 ⟨9, 5, 16⟩ = ex3 := by
  show (⟨4, 3, txt 9, txt 5, txt 16, txt 0⟩ : Fal) = _
  rw [t9, t5, t16, t0]; rfl
theorem ex_fd : fdE (kinM 3 1) exN 4 = 0 ∧ fdF (kinM 3 1) exN 4 = ex3 ∧ fdB (kinM 3 1) exN 4 := by
  have h := fd_0 (a := exN) (m := kinM 3 1) ⟨okM_ex, ex_num.1⟩ may_col4
  rw [ex_num.2, show (4 : Int).toNat = 4 from rfl, ex_fnd.1, ex_f3] at h
  exact ⟨h.1, h.2.1, h.2.2.2 ex_fnd.2⟩
end Go.Mth

set_option linter.unusedVariables false
set_option linter.unusedSimpArgs false
namespace Go.Ab
open Go.RowKit
end Go.Ab

set_option linter.unusedVariables false
set_option linter.unusedSimpArgs false
namespace Go.Proofs.YtjbaamfahkjhgaaGreatDoor
open Go Go.Ab Go.Mth
theorem f145_ : callable cx.P 45 = true := by kernel_rfl
theorem f146_ : tyZero cx.P 26 = some [(Go.Value.slice none 0 0)] := by kernel_rfl
theorem f147_ : tyZero cx.P 22 = some [(Go.Value.slice none 0 0)] := by kernel_rfl
theorem f148_ : tyZero cx.P 76 = some [Go.Value.nilFunc] := by kernel_rfl
theorem f149_ : tySize cx.P 76 = some 1 := by kernel_rfl
theorem f150_ : callable cx.P 57 = true := by kernel_rfl
theorem f151_ : callable cx.P 56 = true := by kernel_rfl
theorem f152_ : callable cx.P 58 = true := by kernel_rfl
theorem f153_ : callable cx.P 60 = true := by kernel_rfl
theorem f154_ : callable cx.P 59 = true := by kernel_rfl
theorem c_sSieve (m : MapM) (k : Nat) (hM : OkM m) (hk : mayS m (k : Int)) (hF : (visA m k 0 0).1.length < 20) (hL : (visA m k 0 0).2.length < 20) : ECalls cx 10 [(mapV m), (Nv k)] (.tup [.sl 6 (gcells cL (sieF m k)), .sl 1 (is .i64 (sieL m k)), nm .i64 0]) := by
 refine ecalls_of_awp Tryz.func10 (c := _) rfl (Nat.le_of_ble_eq_true rfl) ?_
 show awp cx 28 _ (postF cx Tryz.f10 _) ⟨[(0, (mapV m)), (1, (Nv k))], []⟩
 have hM2 := hM
 obtain ⟨o1, o2, o3, o4, o5⟩ := hM2
 have hk1 : 1 ≤ k := by have := hk.2.1; omega
 have hpk : m.mod ^ k ≤ 65536 := hk.2.2
 have hk16 : k ≤ 16 := by have := may_16 hM (k := k) (by assumption); omega
 have hVl := vis_len hM k 0 0
 have hpd : m.mod.toNat ^ k ≤ 65536 := toNat_pow hM hpk
 refine awp_seq fun K0 hK0 => ?_
 refine awp_region rfl ?_
 refine o_box 2 [(Iv m.mod), (Lv m.mul), (Lv m.add)] Gd.none rfl rfl ?_
 refine o_box 3 [(Nv k)] Gd.none rfl rfl ?_
 refine o_as Zv rfl ?_
 refine o_as Zv rfl ?_
 refine o_as (Nv 0) rfl ?_
 refine aops_end ?_
 refine hK0 _ ?_
 refine awp_seq fun K1 hK1 => ?_
 refine awp_seq fun K2 hK2 => ?_
 refine awp_wk (σ' := ⟨[(0, (mapV m)), (1, (Nv k)), (2, (.ref 2 0)), (3, (.ref 3 0)), (4, Zv), (5, Zv), (6, (Nv 0))], [(2, (oM 24 m)), (3, (.var 3 [(Nv k)]))]⟩) (Wk.sub ⟨rfl, rfl, rfl, rfl, rfl, rfl, rfl, trivial⟩ ⟨rfl, rfl, trivial⟩) ?_
 refine awp_wk (σ' := ⟨[(0, (mapV m)), (1, (Nv k)), (2, (.ip [(Iv m.mod), (Lv m.mul), (Lv m.add)])), (3, (.ref 3 0)), (4, Zv), (5, Zv), (6, (Nv 0))], [(3, (.var 3 [(Nv k)]))]⟩) (Wk.see (id := 2) (t := 24) (cs := [(Iv m.mod), (Lv m.mul), (Lv m.add)]) rfl rfl) ?_
 refine awp_wk (σ' := ⟨[(0, (mapV m)), (1, (Nv k)), (2, (.ip [(Iv m.mod), (Lv m.mul), (Lv m.add)])), (3, (.ip [(Nv k)])), (4, Zv), (5, Zv), (6, (Nv 0))], []⟩) (Wk.see (id := 3) (t := 3) (cs := [(Nv k)]) rfl rfl) ?_
 refine awp_region rfl ?_
 refine o_loadIA [(Iv m.mod), (Lv m.mul), (Lv m.add)] Gd.none f64_ rfl (Nat.le_of_ble_eq_true rfl) rfl ?_
 refine o_loadIS (Nv k) Gd.none f11_ rfl rfl ?_
 refine o_ct (c_scheck m (((k : Nat) : Int)) (by first | assumption | omega)) Gd.none f145_ rfl ?_
 refine n_as (v' := (Nv 0)) (by exact congrArg (nm _) (chk_nat hM hk)) ?_
 refine o_as (Nv 0) rfl ?_
 refine aops_end ?_
 refine hK2 _ ?_
 refine awp_seq fun K3 hK3 => ?_
 refine awp_region rfl ?_
 refine o_mv (Nv 0) rfl ?_
 refine n_neq 0 0 Gd.none rfl rfl ?_
 refine n_as (v' := Fv) (by exact bpn (fun h => h rfl)) ?_
 refine aops_end ?_
 refine hK3 _ ?_
 refine awp_condB (b := false) rfl (fun hh => absurd (hh.symm.trans rfl) (by decide)) (fun _ => ?_)
 refine awp_skip ?_
 refine hK1 _ ?_
 refine awp_seq fun K4 hK4 => ?_
 refine awp_region rfl ?_
 refine o_alloc 2 [Zv] Gd.none f146_ rfl rfl rfl ?_
 refine aops_end ?_
 refine hK4 _ ?_
 refine awp_seq fun K5 hK5 => ?_
 refine awp_region rfl ?_
 refine o_alloc 3 [Zv] Gd.none f147_ rfl rfl rfl ?_
 refine aops_end ?_
 refine hK5 _ ?_
 refine awp_seq fun K6 hK6 => ?_
 refine awp_region rfl ?_
 refine o_alloc 4 [(.lit .nilFunc)] Gd.none f148_ rfl rfl rfl ?_
 refine aops_end ?_
 refine hK6 _ ?_
 refine awp_seq fun K7 hK7 => ?_
 refine awp_region rfl ?_
 refine o_makeFunc [(.ip [(Iv m.mod), (Lv m.mul), (Lv m.add)]), (.ref 2 0), (.ip [(Nv k)]), (.ref 3 0), (.ref 4 0)] Gd.none rfl ?_
 refine o_store [(4, (.var 76 [(.clo 46 [(.ip [(Iv m.mod), (Lv m.mul), (Lv m.add)]), (.ref 2 0), (.ip [(Nv k)]), (.ref 3 0), (.ref 4 0)])])), (3, (.var 22 [Zv])), (2, (.var 26 [Zv]))] Gd.none f149_ rfl rfl rfl rfl rfl rfl ?_
 refine aops_end ?_
 refine hK7 _ ?_
 refine awp_seq fun K8 hK8 => ?_
 refine awp_wk (Wk.nilIn (i := 2) (id := 20) (ty := 26) (e := 40) (sz := 6) rfl rfl (by decide)) ?_
 refine awp_wk (Wk.nilIn (i := 3) (id := 21) (ty := 22) (e := 3) (sz := 1) rfl rfl (by decide)) ?_
 refine awp_wk (σ' := ⟨[(8, (.ref 2 0)), (9, (.ref 3 0)), (10, (.ref 4 0))], [(2, (.var 26 [(.row 20)])), (20, (.row 40 6 (gcells cL ([])))), (3, (.var 22 [(.row 21)])), (21, (.row 3 1 (is .i64 ([])))), (4, (.var 76 [(.clo 46 [(.ip [(Iv m.mod), (Lv m.mul), (Lv m.add)]), (.ref 2 0), (.ip [(Nv k)]), (.ref 3 0), (.ref 4 0)])]))]⟩) (Wk.sub ⟨rfl, rfl, rfl, trivial⟩ ⟨rfl, rfl, rfl, rfl, rfl, trivial⟩) ?_
 refine awp_regionSW 1 19 _ 46 [(.ip [(Iv m.mod), (Lv m.mul), (Lv m.add)]), (.ref 2 0), (.ip [(Nv k)]), (.ref 3 0), (.ref 4 0)] _ _ _ _ _ [(Nv 0), (Nv 1), Zv, (.ip [(Iv m.mod), (Lv m.mul), (Lv m.add)]), (.ref 2 0), (.ip [(Nv k)]), (.ref 3 0), (.ref 4 0)] (.tup []) [(2, (.var 26 [(.row 20)])), (20, (.row 40 6 (gcells cL (([]) ++ ((visA m k 0 0).1))))), (3, (.var 22 [(.row 21)])), (21, (.row 3 1 (is .i64 (([]) ++ ((visA m k 0 0).2))))), (4, (.var 76 [(.clo 46 [(.ip [(Iv m.mod), (Lv m.mul), (Lv m.add)]), (.ref 2 0), (.ip [(Nv k)]), (.ref 3 0), (.ref 4 0)])]))] rfl rfl rfl f144_ ?_
 refine o_loadS (.clo 46 [(.ip [(Iv m.mod), (Lv m.mul), (Lv m.add)]), (.ref 2 0), (.ip [(Nv k)]), (.ref 3 0), (.ref 4 0)]) Gd.none f142_ rfl rfl rfl ?_
 refine aops_end ⟨_, Wk.sub (σ' := ⟨[(8, (.ref 2 0)), (9, (.ref 3 0)), (10, (.ref 4 0)), (18, (.clo 46 [(.ip [(Iv m.mod), (Lv m.mul), (Lv m.add)]), (.ref 2 0), (.ip [(Nv k)]), (.ref 3 0), (.ref 4 0)]))], [(2, (.var 26 [(.row 20)])), (20, (.row 40 6 (gcells cL ([])))), (3, (.var 22 [(.row 21)])), (21, (.row 3 1 (is .i64 ([])))), (4, (.var 76 [(.clo 46 [(.ip [(Iv m.mod), (Lv m.mul), (Lv m.add)]), (.ref 2 0), (.ip [(Nv k)]), (.ref 3 0), (.ref 4 0)])]))]⟩) ⟨rfl, rfl, rfl, rfl, trivial⟩ ⟨rfl, rfl, rfl, rfl, rfl, trivial⟩, rfl, rfl, scalls_of_r (K := [2, 3, 4]) (m := [(2, (.var 26 [(.row 20)])), (20, (.row 40 6 (gcells cL ([])))), (3, (.var 22 [(.row 21)])), (21, (.row 3 1 (is .i64 ([])))), (4, (.var 76 [(.clo 46 [(.ip [(Iv m.mod), (Lv m.mul), (Lv m.add)]), (.ref 2 0), (.ip [(Nv k)]), (.ref 3 0), (.ref 4 0)])]))]) (m' := [(2, (.var 26 [(.row 20)])), (20, (.row 40 6 (gcells cL (([]) ++ ((visA m k 0 0).1))))), (3, (.var 22 [(.row 21)])), (21, (.row 3 1 (is .i64 (([]) ++ ((visA m k 0 0).2))))), (4, (.var 76 [(.clo 46 [(.ip [(Iv m.mod), (Lv m.mul), (Lv m.add)]), (.ref 2 0), (.ip [(Nv k)]), (.ref 3 0), (.ref 4 0)])]))]) (e := []) (by have h := c_visit0 m k hM hk16 hpk k [] [] rfl hk1 (by simp; omega) (by simp; omega); rw [Int.pow_zero] at h; exact h) rfl rfl, ?_⟩
 refine hK8 _ ?_
 refine awp_seq fun K9 hK9 => ?_
 refine awp_regionSW 1 21 _ 56 [] _ _ _ _ _ [(.row 20), (.clo 57 [])] (.tup []) [(2, (.var 26 [(.row 20)])), (20, (.row 40 6 (gcells cL (srt (fun x : Fal => x.rest) (([]) ++ ((visA m k 0 0).1)))))), (3, (.var 22 [(.row 21)])), (21, (.row 3 1 (is .i64 (([]) ++ ((visA m k 0 0).2)))))] rfl rfl rfl f151_ ?_
 refine o_loadS (.row 20) Gd.none f138_ rfl rfl rfl ?_
 refine aops_end ⟨_, Wk.sub (σ' := ⟨[(19, (.tup [])), (8, (.ref 2 0)), (9, (.ref 3 0)), (20, (.row 20))], [(2, (.var 26 [(.row 20)])), (20, (.row 40 6 (gcells cL (([]) ++ ((visA m k 0 0).1))))), (3, (.var 22 [(.row 21)])), (21, (.row 3 1 (is .i64 (([]) ++ ((visA m k 0 0).2)))))]⟩) ⟨rfl, rfl, rfl, rfl, trivial⟩ ⟨rfl, rfl, rfl, rfl, trivial⟩, rfl, rfl, scalls_of_r (K := [2, 3, 20]) (m := [(2, (.var 26 [(.row 20)])), (20, (.row 40 6 (gcells cL (([]) ++ ((visA m k 0 0).1))))), (3, (.var 22 [(.row 21)])), (21, (.row 3 1 (is .i64 (([]) ++ ((visA m k 0 0).2)))))]) (m' := [(2, (.var 26 [(.row 20)])), (20, (.row 40 6 (gcells cL (srt (fun x : Fal => x.rest) (([]) ++ ((visA m k 0 0).1)))))), (3, (.var 22 [(.row 21)])), (21, (.row 3 1 (is .i64 (([]) ++ ((visA m k 0 0).2)))))]) (e := []) (c_ordf 57 (fun x : Fal => x.rest) f150_ c_key2 (([]) ++ ((visA m k 0 0).1)) (([]) ++ ((visA m k 0 0).2)) (by rw [List.nil_append]; exact hF)) rfl rfl, ?_⟩
 refine hK9 _ ?_
 refine awp_seq fun K10 hK10 => ?_
 refine awp_regionSW 1 23 _ 56 [] _ _ _ _ _ [(.row 20), (.clo 58 [])] (.tup []) [(2, (.var 26 [(.row 20)])), (20, (.row 40 6 (gcells cL (srt (fun x : Fal => x.steps) (srt (fun x : Fal => x.rest) (([]) ++ ((visA m k 0 0).1))))))), (3, (.var 22 [(.row 21)])), (21, (.row 3 1 (is .i64 (([]) ++ ((visA m k 0 0).2)))))] rfl rfl rfl f151_ ?_
 refine o_loadS (.row 20) Gd.none f138_ rfl rfl rfl ?_
 refine aops_end ⟨_, Wk.sub (σ' := ⟨[(21, (.tup [])), (19, (.tup [])), (8, (.ref 2 0)), (9, (.ref 3 0)), (20, (.row 20)), (22, (.row 20))], [(2, (.var 26 [(.row 20)])), (20, (.row 40 6 (gcells cL (srt (fun x : Fal => x.rest) (([]) ++ ((visA m k 0 0).1)))))), (3, (.var 22 [(.row 21)])), (21, (.row 3 1 (is .i64 (([]) ++ ((visA m k 0 0).2)))))]⟩) ⟨rfl, rfl, rfl, rfl, rfl, rfl, trivial⟩ ⟨rfl, rfl, rfl, rfl, trivial⟩, rfl, rfl, scalls_of_r (K := [2, 3, 20]) (m := [(2, (.var 26 [(.row 20)])), (20, (.row 40 6 (gcells cL (srt (fun x : Fal => x.rest) (([]) ++ ((visA m k 0 0).1)))))), (3, (.var 22 [(.row 21)])), (21, (.row 3 1 (is .i64 (([]) ++ ((visA m k 0 0).2)))))]) (m' := [(2, (.var 26 [(.row 20)])), (20, (.row 40 6 (gcells cL (srt (fun x : Fal => x.steps) (srt (fun x : Fal => x.rest) (([]) ++ ((visA m k 0 0).1))))))), (3, (.var 22 [(.row 21)])), (21, (.row 3 1 (is .i64 (([]) ++ ((visA m k 0 0).2)))))]) (e := []) (c_ordf 58 (fun x : Fal => x.steps) f152_ c_key3 (srt (fun x : Fal => x.rest) (([]) ++ ((visA m k 0 0).1))) (([]) ++ ((visA m k 0 0).2)) (by rw [srt_len, List.nil_append]; exact hF)) rfl rfl, ?_⟩
 refine hK10 _ ?_
 refine awp_seq fun K11 hK11 => ?_
 refine awp_regionSW 1 25 _ 59 [] _ _ _ _ _ [(.row 21), (.clo 60 [])] (.tup []) [(2, (.var 26 [(.row 20)])), (20, (.row 40 6 (gcells cL (srt (fun x : Fal => x.steps) (srt (fun x : Fal => x.rest) (([]) ++ ((visA m k 0 0).1))))))), (3, (.var 22 [(.row 21)])), (21, (.row 3 1 (is .i64 (srt (fun x : Int => x) (([]) ++ ((visA m k 0 0).2))))))] rfl rfl rfl f154_ ?_
 refine o_loadS (.row 21) Gd.none f1_ rfl rfl rfl ?_
 refine aops_end ⟨_, Wk.sub (σ' := ⟨[(23, (.tup [])), (21, (.tup [])), (19, (.tup [])), (8, (.ref 2 0)), (9, (.ref 3 0)), (24, (.row 21))], [(2, (.var 26 [(.row 20)])), (20, (.row 40 6 (gcells cL (srt (fun x : Fal => x.steps) (srt (fun x : Fal => x.rest) (([]) ++ ((visA m k 0 0).1))))))), (3, (.var 22 [(.row 21)])), (21, (.row 3 1 (is .i64 (([]) ++ ((visA m k 0 0).2)))))]⟩) ⟨rfl, rfl, rfl, rfl, rfl, rfl, trivial⟩ ⟨rfl, rfl, rfl, rfl, trivial⟩, rfl, rfl, scalls_of_r (K := [2, 3, 21]) (m := [(2, (.var 26 [(.row 20)])), (20, (.row 40 6 (gcells cL (srt (fun x : Fal => x.steps) (srt (fun x : Fal => x.rest) (([]) ++ ((visA m k 0 0).1))))))), (3, (.var 22 [(.row 21)])), (21, (.row 3 1 (is .i64 (([]) ++ ((visA m k 0 0).2)))))]) (m' := [(2, (.var 26 [(.row 20)])), (20, (.row 40 6 (gcells cL (srt (fun x : Fal => x.steps) (srt (fun x : Fal => x.rest) (([]) ++ ((visA m k 0 0).1))))))), (3, (.var 22 [(.row 21)])), (21, (.row 3 1 (is .i64 (srt (fun x : Int => x) (([]) ++ ((visA m k 0 0).2))))))]) (e := []) (c_ordi 60 (fun x : Int => x) f153_ c_key4 (([]) ++ ((visA m k 0 0).2)) (srt (fun x : Fal => x.steps) (srt (fun x : Fal => x.rest) (([]) ++ ((visA m k 0 0).1)))) (by rw [List.nil_append]; exact hL)) rfl rfl, ?_⟩
 refine hK11 _ ?_
 refine awp_seq fun K12 hK12 => ?_
 refine awp_regionD rfl ?_
 refine o_loadS (.row 20) Gd.none f138_ rfl rfl rfl ?_
 refine o_loadS (.row 21) Gd.none f1_ rfl rfl rfl ?_
 refine o_as (.row 20) rfl ?_
 refine o_as (.row 21) rfl ?_
 refine o_as (Nv 0) rfl ?_
 refine aops_end ⟨by kernel_rfl, ?_⟩
 refine hK12 _ ?_
 refine awp_wk (σ' := ⟨[(4, (.row 20)), (5, (.row 21)), (6, (Nv 0))], [(20, (.row 40 6 (gcells cL (srt (fun x : Fal => x.steps) (srt (fun x : Fal => x.rest) (([]) ++ ((visA m k 0 0).1))))))), (21, (.row 3 1 (is .i64 (srt (fun x : Int => x) (([]) ++ ((visA m k 0 0).2))))))]⟩) (Wk.sub ⟨rfl, rfl, rfl, trivial⟩ ⟨rfl, rfl, trivial⟩) ?_
 refine awp_wk (σ' := ⟨[(4, (.sl 6 (gcells cL (srt (fun x : Fal => x.steps) (srt (fun x : Fal => x.rest) (([]) ++ ((visA m k 0 0).1))))))), (5, (.row 21)), (6, (Nv 0))], [(21, (.row 3 1 (is .i64 (srt (fun x : Int => x) (([]) ++ ((visA m k 0 0).2))))))]⟩) (Wk.freeze (id := 20) (e := 40) (sz := 6) (cs := (gcells cL (srt (fun x : Fal => x.steps) (srt (fun x : Fal => x.rest) (([]) ++ ((visA m k 0 0).1)))))) rfl) ?_
 refine awp_wk (σ' := ⟨[(4, (.sl 6 (gcells cL (srt (fun x : Fal => x.steps) (srt (fun x : Fal => x.rest) (([]) ++ ((visA m k 0 0).1))))))), (5, (Lv (srt (fun x : Int => x) (([]) ++ ((visA m k 0 0).2))))), (6, (Nv 0))], []⟩) (Wk.freeze (id := 21) (e := 3) (sz := 1) (cs := (is .i64 (srt (fun x : Int => x) (([]) ++ ((visA m k 0 0).2))))) rfl) ?_
 refine awp_ret ?_
 refine post_ret ⟨[(.sl 6 (gcells cL (srt (fun x : Fal => x.steps) (srt (fun x : Fal => x.rest) (([]) ++ ((visA m k 0 0).1)))))), (Lv (srt (fun x : Int => x) (([]) ++ ((visA m k 0 0).2)))), (Nv 0)], ⟨(AV.le_refl _), (AV.le_refl _), (AV.le_refl _), trivial⟩, rfl, ?_⟩
 first | rfl | simp [sieF, sieL]

end Go.Proofs.YtjbaamfahkjhgaaGreatDoor

set_option linter.unusedVariables false
set_option linter.unusedSimpArgs false
namespace Go.Proofs.YtjbaamfahkjhgaaGreatDoor
open Go Go.Ab Go.Mth
theorem f155_ : callable cx.P 65 = true := by kernel_rfl
theorem f156_ : callable cx.P 66 = true := by kernel_rfl
theorem f157_ : callable cx.P 67 = true := by kernel_rfl
set_option maxRecDepth 100000 in
theorem c_sFind (m : MapM) (a : ByteArray) (k : Int) (ha : a.size ≤ 9223372036854775807) (hkb : k ≤ 9223372036854775807) : ECalls cx 17 [(mapV m), (Sv a), (Iv k)] (.tup [falV (fdF m a k), bp (fdB m a k), nm .i64 (fdE m a k)]) := by
 refine ecalls_of_awp Tryz.func17 (c := _) rfl (Nat.le_of_ble_eq_true rfl) ?_
 show awp cx 87 _ (postF cx Tryz.f17 _) ⟨[(0, (mapV m)), (1, (Sv a)), (2, (Iv k))], []⟩
 refine awp_seq fun K0 hK0 => ?_
 refine awp_region rfl ?_
 refine o_box 2 [(Iv m.mod), (Lv m.mul), (Lv m.add)] Gd.none rfl rfl ?_
 refine o_alloc 3 [(Nv 0), (Nv 0), (Sv Ev), (Sv Ev), (Sv Ev), (Sv Ev)] Gd.none f104_ rfl rfl rfl ?_
 refine o_as Fv rfl ?_
 refine o_as (Nv 0) rfl ?_
 refine aops_end ?_
 refine hK0 _ ?_
 refine awp_seq fun K1 hK1 => ?_
 refine awp_seq fun K2 hK2 => ?_
 refine awp_region rfl ?_
 refine o_loadA [(Iv m.mod), (Lv m.mul), (Lv m.add)] Gd.none f64_ rfl rfl rfl rfl rfl ?_
 refine o_ct (c_sValid m) Gd.none f102_ rfl ?_
 refine o_not (b := okM m) Gd.none rfl ?_
 refine o_mv (.lit (.bool (!(okM m)))) rfl ?_
 refine o_split (b := !(okM m)) 21 rfl (fun h1 => ?_) (fun h1 => ?_)
 ·have hm' : ¬ okM m = true := by simpa using h1
  refine o_skip rfl rfl h1 ?_
  refine o_skip rfl rfl h1 ?_
  refine o_skip rfl rfl h1 ?_
  refine o_pickT Tv Gd.none rfl h1 rfl ?_
  refine aops_end ?_
  refine hK2 _ ?_
  refine awp_condB (b := true) rfl (fun _ => ?_) (fun hh => absurd (hh.symm.trans rfl) (by decide))
  refine awp_seq fun K3 hK3 => ?_
  refine awp_region rfl ?_
  refine o_build [(Nv 0), (Nv 0), (Sv Ev), (Sv Ev), (Sv Ev), (Sv Ev)] [] Gd.none f107_ f104_ rfl rfl rfl ?_
  refine n_as (v' := (falV zFal)) (by exact rfl) ?_
  refine o_store [(3, (.var 40 [(Iv (zFal.steps)), (Iv (zFal.rest)), (Sv (zFal.lmul)), (Sv (zFal.ladd)), (Sv (zFal.ldiv)), (Sv (zFal.bound))])), (2, (oM 24 m))] Gd.none f108_ rfl rfl rfl rfl rfl rfl ?_
  refine o_as Fv rfl ?_
  refine o_as (Nv 1) rfl ?_
  refine aops_end ?_
  refine hK3 _ ?_
  refine awp_ret ?_
  refine post_ret ⟨[(.agg [(Iv (zFal.steps)), (Iv (zFal.rest)), (Sv (zFal.lmul)), (Sv (zFal.ladd)), (Sv (zFal.ldiv)), (Sv (zFal.bound))]), Fv, (Nv 1)], ⟨⟨3, (.var 40 [(Iv (zFal.steps)), (Iv (zFal.rest)), (Sv (zFal.lmul)), (Sv (zFal.ladd)), (Sv (zFal.ldiv)), (Sv (zFal.bound))]), rfl, rfl, rfl, Or.inl ⟨f109_, AV.le_refl _⟩⟩, (AV.le_refl _), (AV.le_refl _), trivial⟩, rfl, ?_⟩
  first | (have e := fd_1 (m := m) (a := a) (k := k) (fun q => hm' q.1); rw [e.1, e.2.1, bpn e.2.2]; rfl) | (have e := fd_1 (m := m) (a := a) (k := k) (fun q => ha' q.2); rw [e.1, e.2.1, bpn e.2.2]; rfl) | (have e := fd_2 (m := m) (a := a) (k := k) ⟨hm', ha'⟩ h3; rw [e.1, e.2.1, bpn e.2.2]; rfl) | (have e := fd_0 (m := m) (a := a) (k := k) ⟨hm', ha'⟩ hy; rw [e.1, e.2.1, ← hfm.1, hfy.1, bpy (e.2.2.2 (hfm.2.1 hfy.2))]; rfl) | (have e := fd_0 (m := m) (a := a) (k := k) ⟨hm', ha'⟩ hy; have e2 := fnd_no (m := m) (z := Z) (k := k.toNat) (by rw [show k.toNat = i by omega]; exact h0); rw [e.1, e.2.1, ← hfm.1, e2.1, bpn (fun q => e2.2 (hfm.2.2 (e.2.2.1 q)))]; rfl)
 ·have hm' : okM m = true := by simpa using h1
  have hM := okM_iff.1 hm'
  have hM2 := hM
  obtain ⟨o1, o2, o3, o4, o5⟩ := hM2
  refine o_move (Sv a) (Gd.yes rfl rfl h1) rfl ?_
  refine o_ct (c_nValid a (by first | assumption | decide | omega)) (Gd.yes rfl rfl h1) f155_ rfl ?_
  refine o_not (b := okS a) (Gd.yes rfl rfl h1) rfl ?_
  refine o_pickF (.lit (.bool (!(okS a)))) Gd.none rfl h1 rfl ?_
  refine aops_end ?_
  refine hK2 _ ?_
  refine awp_condB (b := !(okS a)) rfl (fun h2 => ?_) (fun h2 => ?_)
  ·have ha' : ¬ okS a = true := by simpa using h2
   refine awp_seq fun K4 hK4 => ?_
   refine awp_region rfl ?_
   refine o_build [(Nv 0), (Nv 0), (Sv Ev), (Sv Ev), (Sv Ev), (Sv Ev)] [] Gd.none f107_ f104_ rfl rfl rfl ?_
   refine n_as (v' := (falV zFal)) (by exact rfl) ?_
   refine o_store [(3, (.var 40 [(Iv (zFal.steps)), (Iv (zFal.rest)), (Sv (zFal.lmul)), (Sv (zFal.ladd)), (Sv (zFal.ldiv)), (Sv (zFal.bound))])), (2, (oM 24 m))] Gd.none f108_ rfl rfl rfl rfl rfl rfl ?_
   refine o_as Fv rfl ?_
   refine o_as (Nv 1) rfl ?_
   refine aops_end ?_
   refine hK4 _ ?_
   refine awp_ret ?_
   refine post_ret ⟨[(.agg [(Iv (zFal.steps)), (Iv (zFal.rest)), (Sv (zFal.lmul)), (Sv (zFal.ladd)), (Sv (zFal.ldiv)), (Sv (zFal.bound))]), Fv, (Nv 1)], ⟨⟨3, (.var 40 [(Iv (zFal.steps)), (Iv (zFal.rest)), (Sv (zFal.lmul)), (Sv (zFal.ladd)), (Sv (zFal.ldiv)), (Sv (zFal.bound))]), rfl, rfl, rfl, Or.inl ⟨f109_, AV.le_refl _⟩⟩, (AV.le_refl _), (AV.le_refl _), trivial⟩, rfl, ?_⟩
   first | (have e := fd_1 (m := m) (a := a) (k := k) (fun q => hm' q.1); rw [e.1, e.2.1, bpn e.2.2]; rfl) | (have e := fd_1 (m := m) (a := a) (k := k) (fun q => ha' q.2); rw [e.1, e.2.1, bpn e.2.2]; rfl) | (have e := fd_2 (m := m) (a := a) (k := k) ⟨hm', ha'⟩ h3; rw [e.1, e.2.1, bpn e.2.2]; rfl) | (have e := fd_0 (m := m) (a := a) (k := k) ⟨hm', ha'⟩ hy; rw [e.1, e.2.1, ← hfm.1, hfy.1, bpy (e.2.2.2 (hfm.2.1 hfy.2))]; rfl) | (have e := fd_0 (m := m) (a := a) (k := k) ⟨hm', ha'⟩ hy; have e2 := fnd_no (m := m) (z := Z) (k := k.toNat) (by rw [show k.toNat = i by omega]; exact h0); rw [e.1, e.2.1, ← hfm.1, e2.1, bpn (fun q => e2.2 (hfm.2.2 (e.2.2.1 q)))]; rfl)
  ·have ha' : okS a = true := by simpa using h2
   have la := len_numS (okS_iff.1 ha')
   refine awp_skip ?_
   refine hK1 _ ?_
   refine awp_seq fun K5 hK5 => ?_
   refine awp_seq fun K6 hK6 => ?_
   refine awp_region rfl ?_
   refine o_loadA [(Iv m.mod), (Lv m.mul), (Lv m.add)] Gd.none f64_ rfl rfl rfl rfl rfl ?_
   refine o_mv (Iv k) rfl ?_
   refine o_ct (c_scheck m k (by first | assumption | omega)) Gd.none f145_ rfl ?_
   refine o_as (Nv (chkE m k)) rfl ?_
   refine aops_end ?_
   refine hK6 _ ?_
   refine awp_seq fun K7 hK7 => ?_
   refine awp_region rfl ?_
   refine o_mv (Nv (chkE m k)) rfl ?_
   refine n_neq (chkE m k) 0 Gd.none rfl rfl ?_
   refine aops_end ?_
   refine hK7 _ ?_
   refine awp_condQ (q := (chkE m k) ≠ 0) rfl (fun h3 => ?_) (fun h3 => ?_)
   ·refine awp_seq fun K8 hK8 => ?_
    refine awp_region rfl ?_
    refine o_build [(Nv 0), (Nv 0), (Sv Ev), (Sv Ev), (Sv Ev), (Sv Ev)] [] Gd.none f107_ f104_ rfl rfl rfl ?_
    refine n_as (v' := (falV zFal)) (by exact rfl) ?_
    refine o_mv (Nv (chkE m k)) rfl ?_
    refine o_store [(3, (.var 40 [(Iv (zFal.steps)), (Iv (zFal.rest)), (Sv (zFal.lmul)), (Sv (zFal.ladd)), (Sv (zFal.ldiv)), (Sv (zFal.bound))])), (2, (oM 24 m))] Gd.none f108_ rfl rfl rfl rfl rfl rfl ?_
    refine o_as Fv rfl ?_
    refine o_as (Nv (chkE m k)) rfl ?_
    refine aops_end ?_
    refine hK8 _ ?_
    refine awp_ret ?_
    refine post_ret ⟨[(.agg [(Iv (zFal.steps)), (Iv (zFal.rest)), (Sv (zFal.lmul)), (Sv (zFal.ladd)), (Sv (zFal.ldiv)), (Sv (zFal.bound))]), Fv, (Nv (chkE m k))], ⟨⟨3, (.var 40 [(Iv (zFal.steps)), (Iv (zFal.rest)), (Sv (zFal.lmul)), (Sv (zFal.ladd)), (Sv (zFal.ldiv)), (Sv (zFal.bound))]), rfl, rfl, rfl, Or.inl ⟨f109_, AV.le_refl _⟩⟩, (AV.le_refl _), (AV.le_refl _), trivial⟩, rfl, ?_⟩
    first | (have e := fd_1 (m := m) (a := a) (k := k) (fun q => hm' q.1); rw [e.1, e.2.1, bpn e.2.2]; rfl) | (have e := fd_1 (m := m) (a := a) (k := k) (fun q => ha' q.2); rw [e.1, e.2.1, bpn e.2.2]; rfl) | (have e := fd_2 (m := m) (a := a) (k := k) ⟨hm', ha'⟩ h3; rw [e.1, e.2.1, bpn e.2.2]; rfl) | (have e := fd_0 (m := m) (a := a) (k := k) ⟨hm', ha'⟩ hy; rw [e.1, e.2.1, ← hfm.1, hfy.1, bpy (e.2.2.2 (hfm.2.1 hfy.2))]; rfl) | (have e := fd_0 (m := m) (a := a) (k := k) ⟨hm', ha'⟩ hy; have e2 := fnd_no (m := m) (z := Z) (k := k.toNat) (by rw [show k.toNat = i by omega]; exact h0); rw [e.1, e.2.1, ← hfm.1, e2.1, bpn (fun q => e2.2 (hfm.2.2 (e.2.2.1 q)))]; rfl)
   ·have hy : mayS m k := Decidable.byContradiction fun e => absurd (chk_2 hm' e) (by rw [Decidable.not_not.1 h3]; decide)
    have hk2 := hy.2.2
    have hk1 := hy.2.1
    have hk16 := may_16 hM hk2
    have hkp : 0 < m.mod ^ k.toNat := Int.pow_pos (by omega)
    obtain ⟨P, hP⟩ : ∃ P : Nat, ((P : Nat) : Int) = m.mod ^ k.toNat := ⟨_, Int.toNat_of_nonneg (Int.le_of_lt hkp)⟩
    obtain ⟨Z, hZ⟩ : ∃ Z : Int, Z = numS a % m.mod ^ k.toNat := ⟨_, rfl⟩
    have hZ0 : 0 ≤ Z := by rw [hZ]; exact Int.emod_nonneg _ (by omega)
    have hZ1 : Z < m.mod ^ k.toNat := by rw [hZ]; exact Int.emod_lt_of_pos _ hkp
    have hfm := fndF_mod hM (numS a) k.toNat
    rw [← hZ] at hfm
    have hzl := small_len (z := Z) (by omega)
    refine awp_skip ?_
    refine hK5 _ ?_
    refine awp_seq fun K9 hK9 => ?_
    refine awp_region rfl ?_
    refine o_as (Nv 1) rfl ?_
    refine n_as (v' := (Iv (m.mod ^ 0))) (by exact congrArg (fun z => AV.lit (.int .i64 z)) (Int.pow_zero _).symm) ?_
    refine aops_end ?_
    refine hK9 _ ?_
    refine awp_seq fun K10 hK10 => ?_
    refine awp_seq fun K11 hK11 => ?_
    refine awp_region rfl ?_
    refine o_mv (Iv k) rfl ?_
    refine o_mv (Nv 0) rfl ?_
    refine aops_end ?_
    refine hK11 _ ?_
    refine awp_block ?_
    refine awp_loopR (fun κ σ => ∃ (u : Nat), (u ≤ k.toNat) ∧ (k.toNat - u) = κ ∧ σ = ⟨[(1, (Sv a)), (2, (Iv k)), (3, (.ref 2 0)), (6, (.ref 3 0)), (10, (Iv (m.mod ^ u))), (34, (Iv k)), (35, (Nv u))], [(2, (oM 24 m)), (3, (.var 40 [(Nv 0), (Nv 0), (Sv Ev), (Sv Ev), (Sv Ev), (Sv Ev)]))]⟩) ⟨_, _, ⟨0, (by omega), rfl, rfl⟩, ?wk0⟩ ?rd0
    case wk0 =>
     exact Wk.sub ⟨rfl, rfl, rfl, rfl, (by first | rfl | exact int_eq (by omega) | exact int_nm (by omega)), rfl, (by first | rfl | exact nm_int (by omega)), trivial⟩ ⟨rfl, rfl, trivial⟩
    rintro κ _ ⟨u, hu, rfl, rfl⟩
    have hpp : 0 < m.mod ^ u := Int.pow_pos (by omega)
    have hb := pow_le_of hM (j := u) (k := k.toNat) (by omega)
    have hmb := Int.mul_le_mul (show m.mod ^ u ≤ 65536 by omega) o2 (show (0 : Int) ≤ m.mod by omega) (by decide)
    have hml := Int.mul_pos hpp (show 0 < m.mod by omega)
    refine awp_seq fun K12 hK12 => ?_
    refine awp_region rfl ?_
    refine o_lss (a := (((u : Nat) : Int))) (c := k) Gd.none rfl rfl ?_
    refine aops_end ?_
    refine hK12 _ ?_
    refine awp_seq fun K13 hK13 => ?_
    refine awp_condQ (q := (((u : Nat) : Int)) < k) rfl (fun h4 => ?_) (fun h4 => ?_)
    ·refine awp_skip ?_
     refine hK13 _ ?_
     refine awp_seq fun K14 hK14 => ?_
     refine awp_block ?_
     refine awp_region rfl ?_
     refine o_mv (Iv (m.mod ^ u)) rfl ?_
     refine o_fieldRef 0 Gd.none f60_ rfl rfl ?_
     refine o_loadS (Iv m.mod) Gd.none f11_ rfl rfl rfl ?_
     refine o_mul (a := (m.mod ^ u)) (c := m.mod) Gd.none rfl rfl (by exact wrap64 (by omega) (by omega)) ?_
     refine n_as (v' := (Iv (m.mod ^ (u + 1)))) (by exact congrArg (fun z => AV.lit (.int .i64 z)) (Int.pow_succ _ _).symm) ?_
     refine o_as (Iv (m.mod ^ (u + 1))) rfl ?_
     refine aops_end ?_
     refine hK14 _ ?_
     refine awp_region rfl ?_
     refine n_add u 1 Gd.none rfl rfl (by simp only [topOf]; omega) ?_
     refine o_mv (Nv (u + 1)) rfl ?_
     refine aops_end ?_
     refine ⟨_, _, ?lt, ⟨u + 1, (by omega), rfl, rfl⟩, ?wk⟩
     case lt => omega
     case wk => exact Wk.sub ⟨rfl, rfl, rfl, rfl, (by first | rfl | exact int_eq (by omega) | exact int_nm (by omega)), rfl, (by first | rfl | exact nm_int (by omega)), trivial⟩ ⟨rfl, rfl, trivial⟩
    ·refine awp_exit ?_
     refine hK10 _ ?_
     refine awp_seq fun K15 hK15 => ?_
     refine awp_region rfl ?_
     refine o_mv (Sv a) rfl ?_
     refine o_ct (c_wParse a (by first | assumption | exact okS_iff.1 (by assumption))) Gd.none f156_ rfl ?_
     refine o_mv (Iv (m.mod ^ u)) rfl ?_
     refine n_as (v' := (Nv P)) (nm_int (by rw [hP, show k.toNat = u by omega])) ?_
     refine o_ct (c_wQR ((numS a)) P (by omega) (by omega) (by first | omega | assumption | (simp only [Int.natAbs_neg]; omega))) Gd.none f71_ rfl ?_
     refine o_mv (.tup [(intW (((numS a) / ((P : Nat) : Int)))), (Iv ((numS a) % ((P : Nat) : Int)))]) rfl ?_
     refine o_extract (intW (((numS a) / ((P : Nat) : Int)))) Gd.none rfl rfl ?_
     refine o_extract (Iv ((numS a) % ((P : Nat) : Int))) Gd.none rfl rfl ?_
     refine n_as (v' := (Iv Z)) (by exact congrArg (fun z => AV.lit (.int .i64 z)) (by rw [hZ, hP])) ?_
     refine o_alloc 101 [Fv, Zv] Gd.none f15_ rfl rfl rfl ?_
     refine o_store [(101, (oZ 79 .u32 (((numS a) / ((P : Nat) : Int))))), (2, (oM 24 m)), (3, (.var 40 [(Nv 0), (Nv 0), (Sv Ev), (Sv Ev), (Sv Ev), (Sv Ev)]))] Gd.none f19_ rfl rfl rfl rfl rfl rfl ?_
     refine o_as (Iv Z) rfl ?_
     refine aops_end ?_
     refine hK15 _ ?_
     refine awp_seq fun K16 hK16 => ?_
     refine awp_region rfl ?_
     refine o_mv (Iv Z) rfl ?_
     refine o_ct (c_wOf Z (by first | decide | omega) (by first | decide | omega)) Gd.none f46_ rfl ?_
     refine o_alloc 102 [Fv, Zv] Gd.none f15_ rfl rfl rfl ?_
     refine o_store [(102, (oZ 79 .u32 Z)), (101, (oZ 79 .u32 (((numS a) / ((P : Nat) : Int))))), (2, (oM 24 m)), (3, (.var 40 [(Nv 0), (Nv 0), (Sv Ev), (Sv Ev), (Sv Ev), (Sv Ev)]))] Gd.none f19_ rfl rfl rfl rfl rfl rfl ?_
     refine aops_end ?_
     refine hK16 _ ?_
     refine awp_seq fun K17 hK17 => ?_
     refine awp_region rfl ?_
     refine o_as Zv rfl ?_
     refine aops_end ?_
     refine hK17 _ ?_
     refine awp_seq fun K18 hK18 => ?_
     refine awp_region rfl ?_
     refine o_as (Nv 1) rfl ?_
     refine n_as (v' := (Iv (m.mod ^ 0))) (by exact congrArg (fun z => AV.lit (.int .i64 z)) (Int.pow_zero _).symm) ?_
     refine aops_end ?_
     refine hK18 _ ?_
     refine awp_seq fun K19 hK19 => ?_
     refine awp_seq fun K20 hK20 => ?_
     refine awp_region rfl ?_
     refine o_mv (Iv k) rfl ?_
     refine o_mv (Nv 0) rfl ?_
     refine aops_end ?_
     refine hK20 _ ?_
     refine awp_block ?_
     refine awp_loopR (fun κ σ => ∃ (i : Nat), (i ≤ k.toNat) ∧ (ffal m Z i = 0) ∧ ((digs (iterZ m i Z).natAbs).length ≤ 1 + 4 * i) ∧ (k.toNat - i) = κ ∧ σ = ⟨[(2, (Iv k)), (3, (.ref 2 0)), (6, (.ref 3 0)), (10, (Iv (m.mod ^ i))), (12, (Iv Z)), (13, (.ref 4 0)), (14, (.row 50)), (51, (Iv k)), (52, (Nv i))], [(2, (oM 24 m)), (3, (.var 40 [(Nv 0), (Nv 0), (Sv Ev), (Sv Ev), (Sv Ev), (Sv Ev)])), (4, (oZ 79 .u32 ((iterZ m i Z)))), (50, (.row 3 1 (is .i64 (wordZ m Z i))))]⟩) ⟨_, _, ⟨0, (by omega), rfl, (show (digs Z.natAbs).length ≤ 1 + 4 * 0 by omega), rfl, rfl⟩, ?wk1⟩ ?rd1
     case wk1 =>
      exact Wk.trans (Wk.newNil (i := 14) (id := 603) (e := 3) (sz := 1) rfl rfl (by decide)) (Wk.trans (Wk.sub (σ' := ⟨[(2, (Iv k)), (3, (.ref 2 0)), (6, (.ref 3 0)), (10, (Iv (m.mod ^ 0))), (12, (Iv Z)), (13, (.ref 102 0)), (14, (.row 603)), (51, (Iv k)), (52, (Nv 0))], [(2, (oM 24 m)), (3, (.var 40 [(Nv 0), (Nv 0), (Sv Ev), (Sv Ev), (Sv Ev), (Sv Ev)])), (102, (oZ 79 .u32 Z)), (603, (.row 3 1 (is .i64 ([]))))]⟩) ⟨rfl, rfl, rfl, rfl, rfl, rfl, rfl, rfl, rfl, trivial⟩ ⟨rfl, rfl, rfl, rfl, trivial⟩) (Wk.trans (Wk.ren (id := 102) (id' := 4) rfl) (Wk.trans (Wk.ren (id := 603) (id' := 50) rfl) (Wk.sub ⟨rfl, rfl, rfl, (by first | rfl | exact int_eq (by omega) | exact int_nm (by omega)), rfl, (by first | rfl | simp), (by first | rfl | simp), rfl, (by first | rfl | exact nm_int (by omega)), trivial⟩ ⟨rfl, rfl, rfl, (by first | rfl | exact row_ns (by simp)), trivial⟩))))
     rintro κ _ ⟨i, hi, h0, hlz, rfl, rfl⟩
     have hpp : 0 < m.mod ^ i := Int.pow_pos (by omega)
     have hb := pow_le_of hM (j := i) (k := k.toNat) (by omega)
     have hmb := Int.mul_le_mul (show m.mod ^ i ≤ 65536 by omega) o2 (show (0 : Int) ≤ m.mod by omega) (by decide)
     have hml := Int.mul_pos hpp (show 0 < m.mod by omega)
     have hln := step_len' hM (iterZ m i Z)
     have hW1 := wordZ_is hM Z (i + 1)
     have hL1 := wordZ_len m Z (i + 1)
     have hL2 : ((wordZ m Z i) ++ ([(iterZ m i Z % m.mod)])).length = i + 1 := hL1
     obtain ⟨M1, M2, M3⟩ := line_len hM (wordZ m Z (i + 1)) hW1
     have hpq : 0 < m.mod ^ (i + 1) := Int.pow_pos (by omega)
     refine awp_seq fun K21 hK21 => ?_
     refine awp_region rfl ?_
     refine o_lss (a := (((i : Nat) : Int))) (c := k) Gd.none rfl rfl ?_
     refine aops_end ?_
     refine hK21 _ ?_
     refine awp_seq fun K22 hK22 => ?_
     refine awp_condQ (q := (((i : Nat) : Int)) < k) rfl (fun h5 => ?_) (fun h5 => ?_)
     ·refine awp_skip ?_
      refine hK22 _ ?_
      refine awp_seq fun K23 hK23 => ?_
      refine awp_block ?_
      refine awp_seq fun K24 hK24 => ?_
      refine awp_region rfl ?_
      refine o_loadA [(Iv m.mod), (Lv m.mul), (Lv m.add)] Gd.none f64_ rfl rfl rfl rfl rfl ?_
      refine o_loadA [(bp ((iterZ m i Z) < 0)), (.sl 1 (ns .u32 (digs ((iterZ m i Z)).natAbs)))] Gd.none f20_ rfl rfl rfl rfl rfl ?_
      refine o_ct (c_sNext m ((iterZ m i Z)) (by first | assumption | exact okM_iff.1 (by assumption)) (by first | omega | assumption | (simp only [Int.natAbs_neg]; omega))) Gd.none f157_ rfl ?_
      refine o_mv (.tup [(intW ((stepZ m (iterZ m i Z)))), (Iv ((iterZ m i Z) % m.mod))]) rfl ?_
      refine o_extract (intW ((stepZ m (iterZ m i Z)))) Gd.none rfl rfl ?_
      refine o_extract (Iv ((iterZ m i Z) % m.mod)) Gd.none rfl rfl ?_
      refine o_alloc 201 [Fv, Zv] Gd.none f15_ rfl rfl rfl ?_
      refine o_store [(201, (oZ 79 .u32 ((stepZ m (iterZ m i Z))))), (2, (oM 24 m)), (3, (.var 40 [(Nv 0), (Nv 0), (Sv Ev), (Sv Ev), (Sv Ev), (Sv Ev)])), (4, (oZ 79 .u32 ((iterZ m i Z)))), (50, (.row 3 1 (is .i64 (wordZ m Z i))))] Gd.none f19_ rfl rfl rfl rfl rfl rfl ?_
      refine o_as (Iv ((iterZ m i Z) % m.mod)) rfl ?_
      refine aops_end ?_
      refine hK24 _ ?_
      refine awp_seq fun K25 hK25 => ?_
      refine awp_region rfl ?_
      refine o_loadA [(bp ((stepZ m (iterZ m i Z)) < 0)), (.sl 1 (ns .u32 (digs ((stepZ m (iterZ m i Z))).natAbs)))] Gd.none f20_ rfl rfl rfl rfl rfl ?_
      refine o_store [(201, (oZ 79 .u32 ((stepZ m (iterZ m i Z))))), (2, (oM 24 m)), (3, (.var 40 [(Nv 0), (Nv 0), (Sv Ev), (Sv Ev), (Sv Ev), (Sv Ev)])), (4, (oZ 79 .u32 ((stepZ m (iterZ m i Z))))), (50, (.row 3 1 (is .i64 (wordZ m Z i))))] Gd.none f19_ rfl rfl rfl rfl rfl rfl ?_
      refine aops_end ?_
      refine hK25 _ ?_
      refine awp_seq fun K26 hK26 => ?_
      refine awp_region rfl ?_
      refine o_mv (.row 50) rfl ?_
      refine o_mv (Iv ((iterZ m i Z) % m.mod)) rfl ?_
      refine o_buildSlice 202 (is .i64 ([(iterZ m i Z) % m.mod])) [(0, [(Iv ((iterZ m i Z) % m.mod))])] Gd.none f10_ rfl f26_ rfl rfl rfl rfl rfl rfl rfl ?_
      refine i_append 203 (wordZ m Z i) ([(iterZ m i Z) % m.mod]) [(202, (.row 3 1 (is .i64 ([(iterZ m i Z) % m.mod])))), (201, (oZ 79 .u32 ((stepZ m (iterZ m i Z))))), (2, (oM 24 m)), (3, (.var 40 [(Nv 0), (Nv 0), (Sv Ev), (Sv Ev), (Sv Ev), (Sv Ev)])), (4, (oZ 79 .u32 ((stepZ m (iterZ m i Z)))))] Gd.none f10_ f26_ rfl rfl rfl rfl rfl (by simp only [wordZ_len, List.length_cons, List.length_nil]; omega) (by decide) rfl rfl ?_
      refine o_as (.row 203) rfl ?_
      refine aops_end ?_
      refine hK26 _ ?_
      refine awp_seq fun K27 hK27 => ?_
      refine awp_region rfl ?_
      refine o_mv (Iv (m.mod ^ i)) rfl ?_
      refine o_fieldRef 0 Gd.none f60_ rfl rfl ?_
      refine o_loadS (Iv m.mod) Gd.none f11_ rfl rfl rfl ?_
      refine o_mul (a := (m.mod ^ i)) (c := m.mod) Gd.none rfl rfl (by exact wrap64 (by omega) (by omega)) ?_
      refine n_as (v' := (Iv (m.mod ^ (i + 1)))) (by exact congrArg (fun z => AV.lit (.int .i64 z)) (Int.pow_succ _ _).symm) ?_
      refine o_as (Iv (m.mod ^ (i + 1))) rfl ?_
      refine aops_end ?_
      refine hK27 _ ?_
      refine awp_seq fun K28 hK28 => ?_
      refine awp_wk (σ' := ⟨[(2, (Iv k)), (3, (.ref 2 0)), (6, (.ref 3 0)), (10, (Iv (m.mod ^ (i + 1)))), (12, (Iv Z)), (13, (.ref 4 0)), (14, (.row 203)), (51, (Iv k)), (52, (Nv i)), (53, (bp ((((i : Nat) : Int)) < k))), (55, (mapV m)), (56, (intW ((iterZ m i Z)))), (57, (.tup [(intW ((stepZ m (iterZ m i Z)))), (Iv ((iterZ m i Z) % m.mod))])), (54, (.tup [(intW ((stepZ m (iterZ m i Z)))), (Iv ((iterZ m i Z) % m.mod))])), (58, (intW ((stepZ m (iterZ m i Z))))), (59, (Iv ((iterZ m i Z) % m.mod))), (15, (.ref 201 0)), (16, (Iv ((iterZ m i Z) % m.mod))), (60, (intW ((stepZ m (iterZ m i Z))))), (61, (.row 50)), (62, (Iv ((iterZ m i Z) % m.mod))), (63, (.row 202)), (64, (.row 203)), (65, (Iv (m.mod ^ i))), (66, (.ref 2 0)), (67, (Iv m.mod)), (68, (Iv (m.mod ^ (i + 1))))], [(203, (.row 3 1 (is .i64 ((wordZ m Z i) ++ ([(iterZ m i Z) % m.mod]))))), (202, (.row 3 1 (is .i64 ([(iterZ m i Z) % m.mod])))), (201, (oZ 79 .u32 ((stepZ m (iterZ m i Z))))), (2, (oM 24 m)), (3, (.var 40 [(Nv 0), (Nv 0), (Sv Ev), (Sv Ev), (Sv Ev), (Sv Ev)])), (4, (oZ 79 .u32 ((stepZ m (iterZ m i Z)))))]⟩) (Wk.sub ⟨rfl, rfl, rfl, rfl, rfl, rfl, rfl, rfl, rfl, rfl, rfl, rfl, rfl, rfl, rfl, rfl, rfl, rfl, rfl, rfl, rfl, rfl, rfl, rfl, rfl, rfl, rfl, trivial⟩ ⟨rfl, rfl, rfl, rfl, rfl, rfl, trivial⟩) ?_
      refine awp_regionSK 2 71 _ 47 [] _ _ _ _ _ [(mapV m), (.row 203)] (linW (lineZ m (wordZ m Z (i + 1)))) [(203, (.row 3 1 (is .i64 ((wordZ m Z i) ++ ([(iterZ m i Z) % m.mod]))))), (202, (.row 3 1 (is .i64 ([(iterZ m i Z) % m.mod])))), (201, (oZ 79 .u32 ((stepZ m (iterZ m i Z))))), (2, (oM 24 m)), (3, (.var 40 [(Nv 0), (Nv 0), (Sv Ev), (Sv Ev), (Sv Ev), (Sv Ev)])), (4, (oZ 79 .u32 ((stepZ m (iterZ m i Z)))))] rfl rfl f136_ ?_
      refine o_loadA [(Iv m.mod), (Lv m.mul), (Lv m.add)] Gd.none f64_ rfl rfl rfl rfl rfl ?_
      refine o_mv (.row 203) rfl ?_
      refine aops_end ⟨rfl, rfl, ?sc2, ?_⟩
      case sc2 =>
       refine scalls_of_awpB 9011 Tryz.func47 (c := _) rfl (Nat.le_of_ble_eq_true rfl) rfl rfl rfl (fun us2 => ?_)
       show awp cx 25 _ (postS cx Tryz.f47 (linW (lineZ m (wordZ m Z (i + 1)))) [(203, (.row 3 1 (is .i64 ((wordZ m Z i) ++ ([(iterZ m i Z) % m.mod]))))), (202, (.row 3 1 (is .i64 ([(iterZ m i Z) % m.mod])))), (201, (oZ 79 .u32 ((stepZ m (iterZ m i Z))))), (2, (oM 24 m)), (3, (.var 40 [(Nv 0), (Nv 0), (Sv Ev), (Sv Ev), (Sv Ev), (Sv Ev)])), (4, (oZ 79 .u32 ((stepZ m (iterZ m i Z)))))] 9011 [(.row 203), (mapV m), (Iv k), (.ref 2 0), (.ref 3 0), (Iv (m.mod ^ (i + 1))), (Iv Z), (.ref 4 0), (.row 203), (Iv k), (Nv i), (bp ((((i : Nat) : Int)) < k)), (mapV m), (intW ((iterZ m i Z))), (.tup [(intW ((stepZ m (iterZ m i Z)))), (Iv ((iterZ m i Z) % m.mod))]), (.tup [(intW ((stepZ m (iterZ m i Z)))), (Iv ((iterZ m i Z) % m.mod))]), (intW ((stepZ m (iterZ m i Z)))), (Iv ((iterZ m i Z) % m.mod)), (.ref 201 0), (Iv ((iterZ m i Z) % m.mod)), (intW ((stepZ m (iterZ m i Z)))), (.row 50), (Iv ((iterZ m i Z) % m.mod)), (.row 202), (.row 203), (Iv (m.mod ^ i)), (.ref 2 0), (Iv m.mod), (Iv (m.mod ^ (i + 1)))] us2) ⟨[(0, (mapV m)), (1, (.row 203))], [(9011, (.pin [(.row 203), (mapV m), (Iv k), (.ref 2 0), (.ref 3 0), (Iv (m.mod ^ (i + 1))), (Iv Z), (.ref 4 0), (.row 203), (Iv k), (Nv i), (bp ((((i : Nat) : Int)) < k)), (mapV m), (intW ((iterZ m i Z))), (.tup [(intW ((stepZ m (iterZ m i Z)))), (Iv ((iterZ m i Z) % m.mod))]), (.tup [(intW ((stepZ m (iterZ m i Z)))), (Iv ((iterZ m i Z) % m.mod))]), (intW ((stepZ m (iterZ m i Z)))), (Iv ((iterZ m i Z) % m.mod)), (.ref 201 0), (Iv ((iterZ m i Z) % m.mod)), (intW ((stepZ m (iterZ m i Z)))), (.row 50), (Iv ((iterZ m i Z) % m.mod)), (.row 202), (.row 203), (Iv (m.mod ^ i)), (.ref 2 0), (Iv m.mod), (Iv (m.mod ^ (i + 1)))] us2)), (203, (.row 3 1 (is .i64 ((wordZ m Z i) ++ ([(iterZ m i Z) % m.mod]))))), (202, (.row 3 1 (is .i64 ([(iterZ m i Z) % m.mod])))), (201, (oZ 79 .u32 ((stepZ m (iterZ m i Z))))), (2, (oM 24 m)), (3, (.var 40 [(Nv 0), (Nv 0), (Sv Ev), (Sv Ev), (Sv Ev), (Sv Ev)])), (4, (oZ 79 .u32 ((stepZ m (iterZ m i Z)))))]⟩
       refine awp_seq fun K29 hK29 => ?_
       refine awp_region rfl ?_
       refine o_box 204 [(Iv m.mod), (Lv m.mul), (Lv m.add)] Gd.none rfl rfl ?_
       refine o_alloc 205 [Fv, Zv, Fv, Zv, Fv, Zv] Gd.none f78_ rfl rfl rfl ?_
       refine aops_end ?_
       refine hK29 _ ?_
       refine awp_seq fun K30 hK30 => ?_
       refine awp_region rfl ?_
       refine o_ct (c_wOf ((1 : Int)) (by first | decide | omega) (by first | decide | omega)) Gd.none f46_ rfl ?_
       refine o_ct (c_wOf ((0 : Int)) (by first | decide | omega) (by first | decide | omega)) Gd.none f46_ rfl ?_
       refine o_ct (c_wOf ((1 : Int)) (by first | decide | omega) (by first | decide | omega)) Gd.none f46_ rfl ?_
       refine o_build [(bp ((1 : Int) < 0)), (.sl 1 (ns .u32 (digs ((1 : Int)).natAbs))), (bp ((0 : Int) < 0)), (.sl 1 (ns .u32 (digs ((0 : Int)).natAbs))), (bp ((1 : Int) < 0)), (.sl 1 (ns .u32 (digs ((1 : Int)).natAbs)))] [(0, [(bp ((1 : Int) < 0)), (.sl 1 (ns .u32 (digs ((1 : Int)).natAbs)))]), (1, [(bp ((0 : Int) < 0)), (.sl 1 (ns .u32 (digs ((0 : Int)).natAbs)))]), (2, [(bp ((1 : Int) < 0)), (.sl 1 (ns .u32 (digs ((1 : Int)).natAbs)))])] Gd.none f79_ f78_ rfl rfl rfl ?_
       refine o_alloc 206 [Fv, Zv, Fv, Zv, Fv, Zv] Gd.none f78_ rfl rfl rfl ?_
       refine o_store [(206, (.var 81 [(bp ((1 : Int) < 0)), (.sl 1 (ns .u32 (digs ((1 : Int)).natAbs))), (bp ((0 : Int) < 0)), (.sl 1 (ns .u32 (digs ((0 : Int)).natAbs))), (bp ((1 : Int) < 0)), (.sl 1 (ns .u32 (digs ((1 : Int)).natAbs)))])), (205, (.var 81 [Fv, Zv, Fv, Zv, Fv, Zv])), (204, (oM 24 m)), (9011, (.pin [(.row 203), (mapV m), (Iv k), (.ref 2 0), (.ref 3 0), (Iv (m.mod ^ (i + 1))), (Iv Z), (.ref 4 0), (.row 203), (Iv k), (Nv i), (bp ((((i : Nat) : Int)) < k)), (mapV m), (intW ((iterZ m i Z))), (.tup [(intW ((stepZ m (iterZ m i Z)))), (Iv ((iterZ m i Z) % m.mod))]), (.tup [(intW ((stepZ m (iterZ m i Z)))), (Iv ((iterZ m i Z) % m.mod))]), (intW ((stepZ m (iterZ m i Z)))), (Iv ((iterZ m i Z) % m.mod)), (.ref 201 0), (Iv ((iterZ m i Z) % m.mod)), (intW ((stepZ m (iterZ m i Z)))), (.row 50), (Iv ((iterZ m i Z) % m.mod)), (.row 202), (.row 203), (Iv (m.mod ^ i)), (.ref 2 0), (Iv m.mod), (Iv (m.mod ^ (i + 1)))] us2)), (203, (.row 3 1 (is .i64 ((wordZ m Z i) ++ ([(iterZ m i Z) % m.mod]))))), (202, (.row 3 1 (is .i64 ([(iterZ m i Z) % m.mod])))), (201, (oZ 79 .u32 ((stepZ m (iterZ m i Z))))), (2, (oM 24 m)), (3, (.var 40 [(Nv 0), (Nv 0), (Sv Ev), (Sv Ev), (Sv Ev), (Sv Ev)])), (4, (oZ 79 .u32 ((stepZ m (iterZ m i Z)))))] Gd.none f80_ rfl rfl rfl rfl rfl rfl ?_
       refine aops_end ?_
       refine hK30 _ ?_
       refine awp_seq fun K31 hK31 => ?_
       refine awp_region rfl ?_
       refine o_makeFunc [(.ref 204 0), (.ref 206 0)] Gd.none rfl ?_
       refine o_as (.clo 84 [(.ref 204 0), (.ref 206 0)]) rfl ?_
       refine aops_end ?_
       refine hK31 _ ?_
       refine awp_seq fun K32 hK32 => ?_
       refine awp_seq fun K33 hK33 => ?_
       refine awp_region rfl ?_
       refine o_mv (.row 203) rfl ?_
       refine o_lenRow (((wordZ m Z i) ++ ([(iterZ m i Z) % m.mod])).length) Gd.none f2_ rfl rfl (by simp [is]) ?_
       refine o_mv (Nv 0) rfl ?_
       refine aops_end ?_
       refine hK33 _ ?_
       refine awp_block ?_
       refine awp_loopR (fun κ σ => ∃ (j : Nat), ∃ (l : LinZ), (j ≤ ((wordZ m Z i) ++ ([(iterZ m i Z) % m.mod])).length) ∧ (l = lineZ m (((wordZ m Z i) ++ ([(iterZ m i Z) % m.mod])).take j)) ∧ (((wordZ m Z i) ++ ([(iterZ m i Z) % m.mod])).length - j) = κ ∧ σ = ⟨[(2, (.ref 204 0)), (4, (.ref 205 0)), (5, (.ref 206 0)), (6, (.clo 84 [(.ref 204 0), (.ref 206 0)])), (14, (.row 203)), (15, (Nv (((wordZ m Z i) ++ ([(iterZ m i Z) % m.mod])).length))), (16, (Nv j))], [(9011, (.pin [(.row 203), (mapV m), (Iv k), (.ref 2 0), (.ref 3 0), (Iv (m.mod ^ (i + 1))), (Iv Z), (.ref 4 0), (.row 203), (Iv k), (Nv i), (bp ((((i : Nat) : Int)) < k)), (mapV m), (intW ((iterZ m i Z))), (.tup [(intW ((stepZ m (iterZ m i Z)))), (Iv ((iterZ m i Z) % m.mod))]), (.tup [(intW ((stepZ m (iterZ m i Z)))), (Iv ((iterZ m i Z) % m.mod))]), (intW ((stepZ m (iterZ m i Z)))), (Iv ((iterZ m i Z) % m.mod)), (.ref 201 0), (Iv ((iterZ m i Z) % m.mod)), (intW ((stepZ m (iterZ m i Z)))), (.row 50), (Iv ((iterZ m i Z) % m.mod)), (.row 202), (.row 203), (Iv (m.mod ^ i)), (.ref 2 0), (Iv m.mod), (Iv (m.mod ^ (i + 1)))] us2)), (203, (.row 3 1 (is .i64 ((wordZ m Z i) ++ ([(iterZ m i Z) % m.mod]))))), (202, (.row 3 1 (is .i64 ([(iterZ m i Z) % m.mod])))), (201, (oZ 79 .u32 ((stepZ m (iterZ m i Z))))), (2, (oM 24 m)), (3, (.var 40 [(Nv 0), (Nv 0), (Sv Ev), (Sv Ev), (Sv Ev), (Sv Ev)])), (4, (oZ 79 .u32 ((stepZ m (iterZ m i Z))))), (204, (oM 24 m)), (205, (.var 81 [Fv, Zv, Fv, Zv, Fv, Zv])), (206, (.var 81 [(Bv (l.mul)), (Dv (l.mul)), (Bv (l.add)), (Dv (l.add)), (Bv (l.div)), (Dv (l.div))]))]⟩) ⟨_, _, ⟨0, oneZ, (by omega), rfl, rfl, rfl⟩, ?wk3⟩ ?rd3
       case wk3 =>
        exact Wk.sub ⟨rfl, rfl, rfl, rfl, rfl, rfl, (by first | rfl | exact nm_int (by omega)), trivial⟩ ⟨rfl, rfl, rfl, rfl, rfl, rfl, rfl, rfl, rfl, rfl, trivial⟩
       rintro κ _ ⟨j, l, hj, hl2, rfl, rfl⟩
       refine awp_seq fun K34 hK34 => ?_
       refine awp_region rfl ?_
       refine n_lss j (((wordZ m Z i) ++ ([(iterZ m i Z) % m.mod])).length) Gd.none rfl rfl ?_
       refine aops_end ?_
       refine hK34 _ ?_
       refine awp_seq fun K35 hK35 => ?_
       refine awp_condQ (q := j < (((wordZ m Z i) ++ ([(iterZ m i Z) % m.mod])).length)) rfl (fun h6 => ?_) (fun h6 => ?_)
       ·refine awp_skip ?_
        refine hK35 _ ?_
        refine awp_seq fun K36 hK36 => ?_
        refine awp_block ?_
        refine awp_seq fun K37 hK37 => ?_
        refine awp_region rfl ?_
        refine i_indexRow ((wordZ m Z i) ++ ([(iterZ m i Z) % m.mod])) j Gd.none f10_ rfl rfl rfl (by omega) ?_
        refine i_loadRow ((wordZ m Z i) ++ ([(iterZ m i Z) % m.mod])) j Gd.none f11_ rfl rfl (by omega) ?_
        refine n_as (v' := (Nv ((((wordZ m Z i) ++ ([(iterZ m i Z % m.mod)])).getD j 0).toNat))) (nm_int (by have hwj := isW_get (show IsW m ((wordZ m Z i) ++ ([(iterZ m i Z % m.mod)])) from hW1) (show j < ((wordZ m Z i) ++ ([(iterZ m i Z % m.mod)])).length by assumption); omega)) ?_
        refine o_as (Nv ((((wordZ m Z i) ++ ([(iterZ m i Z % m.mod)])).getD j 0).toNat)) rfl ?_
        refine aops_end ?_
        refine hK37 _ ?_
        refine awp_wk (σ' := ⟨[(2, (.ref 204 0)), (4, (.ref 205 0)), (5, (.ref 206 0)), (6, (.clo 84 [(.ref 204 0), (.ref 206 0)])), (14, (.row 203)), (15, (Nv (((wordZ m Z i) ++ ([(iterZ m i Z) % m.mod])).length))), (16, (Nv j)), (17, (bp (j < (((wordZ m Z i) ++ ([(iterZ m i Z) % m.mod])).length)))), (18, (.ref 203 j)), (19, (Nv ((((wordZ m Z i) ++ ([(iterZ m i Z % m.mod)])).getD j 0).toNat))), (8, (Nv ((((wordZ m Z i) ++ ([(iterZ m i Z % m.mod)])).getD j 0).toNat)))], [(9011, (.pin [(.row 203), (mapV m), (Iv k), (.ref 2 0), (.ref 3 0), (Iv (m.mod ^ (i + 1))), (Iv Z), (.ref 4 0), (.row 203), (Iv k), (Nv i), (bp ((((i : Nat) : Int)) < k)), (mapV m), (intW ((iterZ m i Z))), (.tup [(intW ((stepZ m (iterZ m i Z)))), (Iv ((iterZ m i Z) % m.mod))]), (.tup [(intW ((stepZ m (iterZ m i Z)))), (Iv ((iterZ m i Z) % m.mod))]), (intW ((stepZ m (iterZ m i Z)))), (Iv ((iterZ m i Z) % m.mod)), (.ref 201 0), (Iv ((iterZ m i Z) % m.mod)), (intW ((stepZ m (iterZ m i Z)))), (.row 50), (Iv ((iterZ m i Z) % m.mod)), (.row 202), (.row 203), (Iv (m.mod ^ i)), (.ref 2 0), (Iv m.mod), (Iv (m.mod ^ (i + 1)))] us2)), (203, (.row 3 1 (is .i64 ((wordZ m Z i) ++ ([(iterZ m i Z) % m.mod]))))), (202, (.row 3 1 (is .i64 ([(iterZ m i Z) % m.mod])))), (201, (oZ 79 .u32 ((stepZ m (iterZ m i Z))))), (2, (oM 24 m)), (3, (.var 40 [(Nv 0), (Nv 0), (Sv Ev), (Sv Ev), (Sv Ev), (Sv Ev)])), (4, (oZ 79 .u32 ((stepZ m (iterZ m i Z))))), (204, (oM 24 m)), (205, (.var 81 [Fv, Zv, Fv, Zv, Fv, Zv])), (206, (.var 81 [(Bv (l.mul)), (Dv (l.mul)), (Bv (l.add)), (Dv (l.add)), (Bv (l.div)), (Dv (l.div))]))]⟩) (Wk.sub ⟨rfl, rfl, rfl, rfl, rfl, rfl, rfl, rfl, rfl, rfl, rfl, trivial⟩ ⟨rfl, rfl, rfl, rfl, rfl, rfl, rfl, rfl, rfl, rfl, trivial⟩) ?_
        refine awp_regionSK 2 22 _ 84 [(.ref 204 0), (.ref 206 0)] _ _ _ _ _ [(Nv ((((wordZ m Z i) ++ ([(iterZ m i Z % m.mod)])).getD j 0).toNat)), (.ref 204 0), (.ref 206 0)] (linW (thenZ m l (((wordZ m Z i) ++ ([(iterZ m i Z % m.mod)])).getD j 0))) [(9011, (.pin [(.row 203), (mapV m), (Iv k), (.ref 2 0), (.ref 3 0), (Iv (m.mod ^ (i + 1))), (Iv Z), (.ref 4 0), (.row 203), (Iv k), (Nv i), (bp ((((i : Nat) : Int)) < k)), (mapV m), (intW ((iterZ m i Z))), (.tup [(intW ((stepZ m (iterZ m i Z)))), (Iv ((iterZ m i Z) % m.mod))]), (.tup [(intW ((stepZ m (iterZ m i Z)))), (Iv ((iterZ m i Z) % m.mod))]), (intW ((stepZ m (iterZ m i Z)))), (Iv ((iterZ m i Z) % m.mod)), (.ref 201 0), (Iv ((iterZ m i Z) % m.mod)), (intW ((stepZ m (iterZ m i Z)))), (.row 50), (Iv ((iterZ m i Z) % m.mod)), (.row 202), (.row 203), (Iv (m.mod ^ i)), (.ref 2 0), (Iv m.mod), (Iv (m.mod ^ (i + 1)))] us2)), (203, (.row 3 1 (is .i64 ((wordZ m Z i) ++ ([(iterZ m i Z) % m.mod]))))), (202, (.row 3 1 (is .i64 ([(iterZ m i Z) % m.mod])))), (201, (oZ 79 .u32 ((stepZ m (iterZ m i Z))))), (2, (oM 24 m)), (3, (.var 40 [(Nv 0), (Nv 0), (Sv Ev), (Sv Ev), (Sv Ev), (Sv Ev)])), (4, (oZ 79 .u32 ((stepZ m (iterZ m i Z))))), (204, (oM 24 m)), (205, (.var 81 [Fv, Zv, Fv, Zv, Fv, Zv])), (206, (.var 81 [(Bv (l.mul)), (Dv (l.mul)), (Bv (l.add)), (Dv (l.add)), (Bv (l.div)), (Dv (l.div))]))] rfl rfl f81_ ?_
        refine o_mv (.clo 84 [(.ref 204 0), (.ref 206 0)]) rfl ?_
        refine o_mv (Nv ((((wordZ m Z i) ++ ([(iterZ m i Z % m.mod)])).getD j 0).toNat)) rfl ?_
        refine aops_end ⟨rfl, rfl, ?sc4, ?_⟩
        case sc4 =>
         refine scalls_of_awpB 9013 Tryz.func84 (c := _) rfl (Nat.le_of_ble_eq_true rfl) rfl rfl rfl (fun us4 => ?_)
         show awp cx 37 _ (postS cx Tryz.f84 (linW (thenZ m l (((wordZ m Z i) ++ ([(iterZ m i Z % m.mod)])).getD j 0))) [(9011, (.pin [(.row 203), (mapV m), (Iv k), (.ref 2 0), (.ref 3 0), (Iv (m.mod ^ (i + 1))), (Iv Z), (.ref 4 0), (.row 203), (Iv k), (Nv i), (bp ((((i : Nat) : Int)) < k)), (mapV m), (intW ((iterZ m i Z))), (.tup [(intW ((stepZ m (iterZ m i Z)))), (Iv ((iterZ m i Z) % m.mod))]), (.tup [(intW ((stepZ m (iterZ m i Z)))), (Iv ((iterZ m i Z) % m.mod))]), (intW ((stepZ m (iterZ m i Z)))), (Iv ((iterZ m i Z) % m.mod)), (.ref 201 0), (Iv ((iterZ m i Z) % m.mod)), (intW ((stepZ m (iterZ m i Z)))), (.row 50), (Iv ((iterZ m i Z) % m.mod)), (.row 202), (.row 203), (Iv (m.mod ^ i)), (.ref 2 0), (Iv m.mod), (Iv (m.mod ^ (i + 1)))] us2)), (203, (.row 3 1 (is .i64 ((wordZ m Z i) ++ ([(iterZ m i Z) % m.mod]))))), (202, (.row 3 1 (is .i64 ([(iterZ m i Z) % m.mod])))), (201, (oZ 79 .u32 ((stepZ m (iterZ m i Z))))), (2, (oM 24 m)), (3, (.var 40 [(Nv 0), (Nv 0), (Sv Ev), (Sv Ev), (Sv Ev), (Sv Ev)])), (4, (oZ 79 .u32 ((stepZ m (iterZ m i Z))))), (204, (oM 24 m)), (205, (.var 81 [Fv, Zv, Fv, Zv, Fv, Zv])), (206, (.var 81 [(Bv (l.mul)), (Dv (l.mul)), (Bv (l.add)), (Dv (l.add)), (Bv (l.div)), (Dv (l.div))]))] 9013 [(Nv ((((wordZ m Z i) ++ ([(iterZ m i Z % m.mod)])).getD j 0).toNat)), (.clo 84 [(.ref 204 0), (.ref 206 0)]), (.ref 204 0), (.ref 205 0), (.ref 206 0), (.clo 84 [(.ref 204 0), (.ref 206 0)]), (.row 203), (Nv (((wordZ m Z i) ++ ([(iterZ m i Z) % m.mod])).length)), (Nv j), (bp (j < (((wordZ m Z i) ++ ([(iterZ m i Z) % m.mod])).length))), (.ref 203 j), (Nv ((((wordZ m Z i) ++ ([(iterZ m i Z % m.mod)])).getD j 0).toNat)), (Nv ((((wordZ m Z i) ++ ([(iterZ m i Z % m.mod)])).getD j 0).toNat))] us4) ⟨[(0, (Nv ((((wordZ m Z i) ++ ([(iterZ m i Z % m.mod)])).getD j 0).toNat))), (1, (.ref 204 0)), (2, (.ref 206 0))], [(9013, (.pin [(Nv ((((wordZ m Z i) ++ ([(iterZ m i Z % m.mod)])).getD j 0).toNat)), (.clo 84 [(.ref 204 0), (.ref 206 0)]), (.ref 204 0), (.ref 205 0), (.ref 206 0), (.clo 84 [(.ref 204 0), (.ref 206 0)]), (.row 203), (Nv (((wordZ m Z i) ++ ([(iterZ m i Z) % m.mod])).length)), (Nv j), (bp (j < (((wordZ m Z i) ++ ([(iterZ m i Z) % m.mod])).length))), (.ref 203 j), (Nv ((((wordZ m Z i) ++ ([(iterZ m i Z % m.mod)])).getD j 0).toNat)), (Nv ((((wordZ m Z i) ++ ([(iterZ m i Z % m.mod)])).getD j 0).toNat))] us4)), (9011, (.pin [(.row 203), (mapV m), (Iv k), (.ref 2 0), (.ref 3 0), (Iv (m.mod ^ (i + 1))), (Iv Z), (.ref 4 0), (.row 203), (Iv k), (Nv i), (bp ((((i : Nat) : Int)) < k)), (mapV m), (intW ((iterZ m i Z))), (.tup [(intW ((stepZ m (iterZ m i Z)))), (Iv ((iterZ m i Z) % m.mod))]), (.tup [(intW ((stepZ m (iterZ m i Z)))), (Iv ((iterZ m i Z) % m.mod))]), (intW ((stepZ m (iterZ m i Z)))), (Iv ((iterZ m i Z) % m.mod)), (.ref 201 0), (Iv ((iterZ m i Z) % m.mod)), (intW ((stepZ m (iterZ m i Z)))), (.row 50), (Iv ((iterZ m i Z) % m.mod)), (.row 202), (.row 203), (Iv (m.mod ^ i)), (.ref 2 0), (Iv m.mod), (Iv (m.mod ^ (i + 1)))] us2)), (203, (.row 3 1 (is .i64 ((wordZ m Z i) ++ ([(iterZ m i Z) % m.mod]))))), (202, (.row 3 1 (is .i64 ([(iterZ m i Z) % m.mod])))), (201, (oZ 79 .u32 ((stepZ m (iterZ m i Z))))), (2, (oM 24 m)), (3, (.var 40 [(Nv 0), (Nv 0), (Sv Ev), (Sv Ev), (Sv Ev), (Sv Ev)])), (4, (oZ 79 .u32 ((stepZ m (iterZ m i Z))))), (204, (oM 24 m)), (205, (.var 81 [Fv, Zv, Fv, Zv, Fv, Zv])), (206, (.var 81 [(Bv (l.mul)), (Dv (l.mul)), (Bv (l.add)), (Dv (l.add)), (Bv (l.div)), (Dv (l.div))]))]⟩
         have hwj := isW_get (show IsW m ((wordZ m Z i) ++ ([(iterZ m i Z % m.mod)])) from hW1) (show j < ((wordZ m Z i) ++ ([(iterZ m i Z % m.mod)])).length by assumption)
         have hor := o5 ((((wordZ m Z i) ++ ([(iterZ m i Z % m.mod)])).getD j 0).toNat) (by omega)
         obtain ⟨J1, J2, J3⟩ := line_len hM (((wordZ m Z i) ++ ([(iterZ m i Z % m.mod)])).take j) (isW_take (show IsW m ((wordZ m Z i) ++ ([(iterZ m i Z % m.mod)])) from hW1) j)
         have J4 : (((wordZ m Z i) ++ ([(iterZ m i Z % m.mod)])).take j).length ≤ 200 := by rw [List.length_take]; omega
         rw [← hl2] at J1 J2 J3
         have hq1 := small_len (z := ((m.mul).getD ((((wordZ m Z i) ++ ([(iterZ m i Z % m.mod)])).getD j 0).toNat) 0)) (by omega)
         have ha1 := small_len (z := ((m.add).getD ((((wordZ m Z i) ++ ([(iterZ m i Z % m.mod)])).getD j 0).toNat) 0)) (by omega)
         have hd1 := small_len (z := m.mod) (by omega)
         have hm1 := len_mulZ l.mul ((m.mul).getD ((((wordZ m Z i) ++ ([(iterZ m i Z % m.mod)])).getD j 0).toNat) 0)
         have hm2 := len_mulZ l.add ((m.mul).getD ((((wordZ m Z i) ++ ([(iterZ m i Z % m.mod)])).getD j 0).toNat) 0)
         have hm3 := len_mulZ l.div ((m.add).getD ((((wordZ m Z i) ++ ([(iterZ m i Z % m.mod)])).getD j 0).toNat) 0)
         refine awp_seq fun K38 hK38 => ?_
         refine awp_region rfl ?_
         refine o_alloc 401 [Fv, Zv, Fv, Zv, Fv, Zv] Gd.none f78_ rfl rfl rfl ?_
         refine aops_end ?_
         refine hK38 _ ?_
         refine awp_seq fun K39 hK39 => ?_
         refine awp_region rfl ?_
         refine o_fieldRef 1 Gd.none f61_ rfl rfl ?_
         refine o_loadS (Lv m.mul) Gd.none f1_ rfl rfl rfl ?_
         refine o_mv (Nv ((((wordZ m Z i) ++ ([(iterZ m i Z % m.mod)])).getD j 0).toNat)) rfl ?_
         refine i_index m.mul ((((wordZ m Z i) ++ ([(iterZ m i Z % m.mod)])).getD j 0).toNat) Gd.none f10_ rfl rfl (by omega) ?_
         refine i_loadI m.mul ((((wordZ m Z i) ++ ([(iterZ m i Z % m.mod)])).getD j 0).toNat) Gd.none f11_ rfl (by omega) ?_
         refine o_ct (c_wOf ((m.mul).getD ((((wordZ m Z i) ++ ([(iterZ m i Z % m.mod)])).getD j 0).toNat) 0) (by first | decide | omega) (by first | decide | omega)) Gd.none f46_ rfl ?_
         refine o_alloc 402 [Fv, Zv] Gd.none f15_ rfl rfl rfl ?_
         refine o_store [(402, (oZ 79 .u32 ((m.mul).getD ((((wordZ m Z i) ++ ([(iterZ m i Z % m.mod)])).getD j 0).toNat) 0))), (401, (.var 81 [Fv, Zv, Fv, Zv, Fv, Zv])), (9013, (.pin [(Nv ((((wordZ m Z i) ++ ([(iterZ m i Z % m.mod)])).getD j 0).toNat)), (.clo 84 [(.ref 204 0), (.ref 206 0)]), (.ref 204 0), (.ref 205 0), (.ref 206 0), (.clo 84 [(.ref 204 0), (.ref 206 0)]), (.row 203), (Nv (((wordZ m Z i) ++ ([(iterZ m i Z) % m.mod])).length)), (Nv j), (bp (j < (((wordZ m Z i) ++ ([(iterZ m i Z) % m.mod])).length))), (.ref 203 j), (Nv ((((wordZ m Z i) ++ ([(iterZ m i Z % m.mod)])).getD j 0).toNat)), (Nv ((((wordZ m Z i) ++ ([(iterZ m i Z % m.mod)])).getD j 0).toNat))] us4)), (9011, (.pin [(.row 203), (mapV m), (Iv k), (.ref 2 0), (.ref 3 0), (Iv (m.mod ^ (i + 1))), (Iv Z), (.ref 4 0), (.row 203), (Iv k), (Nv i), (bp ((((i : Nat) : Int)) < k)), (mapV m), (intW ((iterZ m i Z))), (.tup [(intW ((stepZ m (iterZ m i Z)))), (Iv ((iterZ m i Z) % m.mod))]), (.tup [(intW ((stepZ m (iterZ m i Z)))), (Iv ((iterZ m i Z) % m.mod))]), (intW ((stepZ m (iterZ m i Z)))), (Iv ((iterZ m i Z) % m.mod)), (.ref 201 0), (Iv ((iterZ m i Z) % m.mod)), (intW ((stepZ m (iterZ m i Z)))), (.row 50), (Iv ((iterZ m i Z) % m.mod)), (.row 202), (.row 203), (Iv (m.mod ^ i)), (.ref 2 0), (Iv m.mod), (Iv (m.mod ^ (i + 1)))] us2)), (203, (.row 3 1 (is .i64 ((wordZ m Z i) ++ ([(iterZ m i Z) % m.mod]))))), (202, (.row 3 1 (is .i64 ([(iterZ m i Z) % m.mod])))), (201, (oZ 79 .u32 ((stepZ m (iterZ m i Z))))), (2, (oM 24 m)), (3, (.var 40 [(Nv 0), (Nv 0), (Sv Ev), (Sv Ev), (Sv Ev), (Sv Ev)])), (4, (oZ 79 .u32 ((stepZ m (iterZ m i Z))))), (204, (oM 24 m)), (205, (.var 81 [Fv, Zv, Fv, Zv, Fv, Zv])), (206, (.var 81 [(Bv (l.mul)), (Dv (l.mul)), (Bv (l.add)), (Dv (l.add)), (Bv (l.div)), (Dv (l.div))]))] Gd.none f19_ rfl rfl rfl rfl rfl rfl ?_
         refine aops_end ?_
         refine hK39 _ ?_
         refine awp_seq fun K40 hK40 => ?_
         refine awp_regionD rfl ?_
         refine o_fieldRef 0 Gd.none f82_ rfl rfl ?_
         refine o_loadA [(Bv (l.mul)), (Dv (l.mul))] Gd.none f20_ rfl rfl rfl rfl rfl ?_
         refine o_loadA [(bp ((m.mul).getD ((((wordZ m Z i) ++ ([(iterZ m i Z % m.mod)])).getD j 0).toNat) 0 < 0)), (.sl 1 (ns .u32 (digs ((m.mul).getD ((((wordZ m Z i) ++ ([(iterZ m i Z % m.mod)])).getD j 0).toNat) 0).natAbs)))] Gd.none f20_ rfl rfl rfl rfl rfl ?_
         refine o_ct (c_wMul ((l.mul)) ((m.mul).getD ((((wordZ m Z i) ++ ([(iterZ m i Z % m.mod)])).getD j 0).toNat) 0) (by first | omega | assumption | (simp only [Int.natAbs_neg]; omega)) (by first | omega | assumption | (simp only [Int.natAbs_neg]; omega))) Gd.none f72_ rfl ?_
         refine o_fieldRef 2 Gd.none f83_ rfl rfl ?_
         refine o_loadA [(Bv (l.add)), (Dv (l.add))] Gd.none f20_ rfl rfl rfl rfl rfl ?_
         refine o_loadA [(bp ((m.mul).getD ((((wordZ m Z i) ++ ([(iterZ m i Z % m.mod)])).getD j 0).toNat) 0 < 0)), (.sl 1 (ns .u32 (digs ((m.mul).getD ((((wordZ m Z i) ++ ([(iterZ m i Z % m.mod)])).getD j 0).toNat) 0).natAbs)))] Gd.none f20_ rfl rfl rfl rfl rfl ?_
         refine o_ct (c_wMul ((l.add)) ((m.mul).getD ((((wordZ m Z i) ++ ([(iterZ m i Z % m.mod)])).getD j 0).toNat) 0) (by first | omega | assumption | (simp only [Int.natAbs_neg]; omega)) (by first | omega | assumption | (simp only [Int.natAbs_neg]; omega))) Gd.none f72_ rfl ?_
         refine o_fieldRef 4 Gd.none f84_ rfl rfl ?_
         refine o_loadA [(Bv (l.div)), (Dv (l.div))] Gd.none f20_ rfl rfl rfl rfl rfl ?_
         refine o_fieldRef 2 Gd.none f62_ rfl rfl ?_
         refine o_loadS (Lv m.add) Gd.none f1_ rfl rfl rfl ?_
         refine o_mv (Nv ((((wordZ m Z i) ++ ([(iterZ m i Z % m.mod)])).getD j 0).toNat)) rfl ?_
         refine i_index m.add ((((wordZ m Z i) ++ ([(iterZ m i Z % m.mod)])).getD j 0).toNat) Gd.none f10_ rfl rfl (by omega) ?_
         refine i_loadI m.add ((((wordZ m Z i) ++ ([(iterZ m i Z % m.mod)])).getD j 0).toNat) Gd.none f11_ rfl (by omega) ?_
         refine o_ct (c_wOf ((m.add).getD ((((wordZ m Z i) ++ ([(iterZ m i Z % m.mod)])).getD j 0).toNat) 0) (by first | decide | omega) (by first | decide | omega)) Gd.none f46_ rfl ?_
         refine o_ct (c_wMul ((l.div)) ((m.add).getD ((((wordZ m Z i) ++ ([(iterZ m i Z % m.mod)])).getD j 0).toNat) 0) (by first | omega | assumption | (simp only [Int.natAbs_neg]; omega)) (by first | omega | assumption | (simp only [Int.natAbs_neg]; omega))) Gd.none f72_ rfl ?_
         refine o_ct (c_wAdd (((l.add) * (m.mul).getD ((((wordZ m Z i) ++ ([(iterZ m i Z % m.mod)])).getD j 0).toNat) 0)) (((l.div) * (m.add).getD ((((wordZ m Z i) ++ ([(iterZ m i Z % m.mod)])).getD j 0).toNat) 0)) (by first | omega | assumption | (simp only [Int.natAbs_neg]; omega)) (by first | omega | assumption | (simp only [Int.natAbs_neg]; omega))) Gd.none f40_ rfl ?_
         refine o_fieldRef 4 Gd.none f84_ rfl rfl ?_
         refine o_loadA [(Bv (l.div)), (Dv (l.div))] Gd.none f20_ rfl rfl rfl rfl rfl ?_
         refine o_fieldRef 0 Gd.none f60_ rfl rfl ?_
         refine o_loadS (Iv m.mod) Gd.none f11_ rfl rfl rfl ?_
         refine o_ct (c_wOf m.mod (by first | decide | omega) (by first | decide | omega)) Gd.none f46_ rfl ?_
         refine o_ct (c_wMul ((l.div)) m.mod (by first | omega | assumption | (simp only [Int.natAbs_neg]; omega)) (by first | omega | assumption | (simp only [Int.natAbs_neg]; omega))) Gd.none f72_ rfl ?_
         refine o_build [(bp (((l.mul) * (m.mul).getD ((((wordZ m Z i) ++ ([(iterZ m i Z % m.mod)])).getD j 0).toNat) 0) < 0)), (.sl 1 (ns .u32 (digs (((l.mul) * (m.mul).getD ((((wordZ m Z i) ++ ([(iterZ m i Z % m.mod)])).getD j 0).toNat) 0)).natAbs))), (bp ((((l.add) * (m.mul).getD ((((wordZ m Z i) ++ ([(iterZ m i Z % m.mod)])).getD j 0).toNat) 0) + ((l.div) * (m.add).getD ((((wordZ m Z i) ++ ([(iterZ m i Z % m.mod)])).getD j 0).toNat) 0)) < 0)), (.sl 1 (ns .u32 (digs ((((l.add) * (m.mul).getD ((((wordZ m Z i) ++ ([(iterZ m i Z % m.mod)])).getD j 0).toNat) 0) + ((l.div) * (m.add).getD ((((wordZ m Z i) ++ ([(iterZ m i Z % m.mod)])).getD j 0).toNat) 0))).natAbs))), (bp (((l.div) * m.mod) < 0)), (.sl 1 (ns .u32 (digs (((l.div) * m.mod)).natAbs)))] [(0, [(bp (((l.mul) * (m.mul).getD ((((wordZ m Z i) ++ ([(iterZ m i Z % m.mod)])).getD j 0).toNat) 0) < 0)), (.sl 1 (ns .u32 (digs (((l.mul) * (m.mul).getD ((((wordZ m Z i) ++ ([(iterZ m i Z % m.mod)])).getD j 0).toNat) 0)).natAbs)))]), (1, [(bp ((((l.add) * (m.mul).getD ((((wordZ m Z i) ++ ([(iterZ m i Z % m.mod)])).getD j 0).toNat) 0) + ((l.div) * (m.add).getD ((((wordZ m Z i) ++ ([(iterZ m i Z % m.mod)])).getD j 0).toNat) 0)) < 0)), (.sl 1 (ns .u32 (digs ((((l.add) * (m.mul).getD ((((wordZ m Z i) ++ ([(iterZ m i Z % m.mod)])).getD j 0).toNat) 0) + ((l.div) * (m.add).getD ((((wordZ m Z i) ++ ([(iterZ m i Z % m.mod)])).getD j 0).toNat) 0))).natAbs)))]), (2, [(bp (((l.div) * m.mod) < 0)), (.sl 1 (ns .u32 (digs (((l.div) * m.mod)).natAbs)))])] Gd.none f79_ f78_ rfl rfl rfl ?_
         refine o_store [(402, (oZ 79 .u32 ((m.mul).getD ((((wordZ m Z i) ++ ([(iterZ m i Z % m.mod)])).getD j 0).toNat) 0))), (401, (.var 81 [(bp (((l.mul) * (m.mul).getD ((((wordZ m Z i) ++ ([(iterZ m i Z % m.mod)])).getD j 0).toNat) 0) < 0)), (.sl 1 (ns .u32 (digs (((l.mul) * (m.mul).getD ((((wordZ m Z i) ++ ([(iterZ m i Z % m.mod)])).getD j 0).toNat) 0)).natAbs))), (bp ((((l.add) * (m.mul).getD ((((wordZ m Z i) ++ ([(iterZ m i Z % m.mod)])).getD j 0).toNat) 0) + ((l.div) * (m.add).getD ((((wordZ m Z i) ++ ([(iterZ m i Z % m.mod)])).getD j 0).toNat) 0)) < 0)), (.sl 1 (ns .u32 (digs ((((l.add) * (m.mul).getD ((((wordZ m Z i) ++ ([(iterZ m i Z % m.mod)])).getD j 0).toNat) 0) + ((l.div) * (m.add).getD ((((wordZ m Z i) ++ ([(iterZ m i Z % m.mod)])).getD j 0).toNat) 0))).natAbs))), (bp (((l.div) * m.mod) < 0)), (.sl 1 (ns .u32 (digs (((l.div) * m.mod)).natAbs)))])), (9013, (.pin [(Nv ((((wordZ m Z i) ++ ([(iterZ m i Z % m.mod)])).getD j 0).toNat)), (.clo 84 [(.ref 204 0), (.ref 206 0)]), (.ref 204 0), (.ref 205 0), (.ref 206 0), (.clo 84 [(.ref 204 0), (.ref 206 0)]), (.row 203), (Nv (((wordZ m Z i) ++ ([(iterZ m i Z) % m.mod])).length)), (Nv j), (bp (j < (((wordZ m Z i) ++ ([(iterZ m i Z) % m.mod])).length))), (.ref 203 j), (Nv ((((wordZ m Z i) ++ ([(iterZ m i Z % m.mod)])).getD j 0).toNat)), (Nv ((((wordZ m Z i) ++ ([(iterZ m i Z % m.mod)])).getD j 0).toNat))] us4)), (9011, (.pin [(.row 203), (mapV m), (Iv k), (.ref 2 0), (.ref 3 0), (Iv (m.mod ^ (i + 1))), (Iv Z), (.ref 4 0), (.row 203), (Iv k), (Nv i), (bp ((((i : Nat) : Int)) < k)), (mapV m), (intW ((iterZ m i Z))), (.tup [(intW ((stepZ m (iterZ m i Z)))), (Iv ((iterZ m i Z) % m.mod))]), (.tup [(intW ((stepZ m (iterZ m i Z)))), (Iv ((iterZ m i Z) % m.mod))]), (intW ((stepZ m (iterZ m i Z)))), (Iv ((iterZ m i Z) % m.mod)), (.ref 201 0), (Iv ((iterZ m i Z) % m.mod)), (intW ((stepZ m (iterZ m i Z)))), (.row 50), (Iv ((iterZ m i Z) % m.mod)), (.row 202), (.row 203), (Iv (m.mod ^ i)), (.ref 2 0), (Iv m.mod), (Iv (m.mod ^ (i + 1)))] us2)), (203, (.row 3 1 (is .i64 ((wordZ m Z i) ++ ([(iterZ m i Z) % m.mod]))))), (202, (.row 3 1 (is .i64 ([(iterZ m i Z) % m.mod])))), (201, (oZ 79 .u32 ((stepZ m (iterZ m i Z))))), (2, (oM 24 m)), (3, (.var 40 [(Nv 0), (Nv 0), (Sv Ev), (Sv Ev), (Sv Ev), (Sv Ev)])), (4, (oZ 79 .u32 ((stepZ m (iterZ m i Z))))), (204, (oM 24 m)), (205, (.var 81 [Fv, Zv, Fv, Zv, Fv, Zv])), (206, (.var 81 [(Bv (l.mul)), (Dv (l.mul)), (Bv (l.add)), (Dv (l.add)), (Bv (l.div)), (Dv (l.div))]))] Gd.none f80_ rfl rfl rfl rfl rfl rfl ?_
         refine aops_end ⟨by kernel_rfl, ?_⟩
         refine hK40 _ ?_
         refine awp_wk (σ' := ⟨[(4, (.ref 401 0))], [(9013, (.pin [(Nv ((((wordZ m Z i) ++ ([(iterZ m i Z % m.mod)])).getD j 0).toNat)), (.clo 84 [(.ref 204 0), (.ref 206 0)]), (.ref 204 0), (.ref 205 0), (.ref 206 0), (.clo 84 [(.ref 204 0), (.ref 206 0)]), (.row 203), (Nv (((wordZ m Z i) ++ ([(iterZ m i Z) % m.mod])).length)), (Nv j), (bp (j < (((wordZ m Z i) ++ ([(iterZ m i Z) % m.mod])).length))), (.ref 203 j), (Nv ((((wordZ m Z i) ++ ([(iterZ m i Z % m.mod)])).getD j 0).toNat)), (Nv ((((wordZ m Z i) ++ ([(iterZ m i Z % m.mod)])).getD j 0).toNat))] us4)), (9011, (.pin [(.row 203), (mapV m), (Iv k), (.ref 2 0), (.ref 3 0), (Iv (m.mod ^ (i + 1))), (Iv Z), (.ref 4 0), (.row 203), (Iv k), (Nv i), (bp ((((i : Nat) : Int)) < k)), (mapV m), (intW ((iterZ m i Z))), (.tup [(intW ((stepZ m (iterZ m i Z)))), (Iv ((iterZ m i Z) % m.mod))]), (.tup [(intW ((stepZ m (iterZ m i Z)))), (Iv ((iterZ m i Z) % m.mod))]), (intW ((stepZ m (iterZ m i Z)))), (Iv ((iterZ m i Z) % m.mod)), (.ref 201 0), (Iv ((iterZ m i Z) % m.mod)), (intW ((stepZ m (iterZ m i Z)))), (.row 50), (Iv ((iterZ m i Z) % m.mod)), (.row 202), (.row 203), (Iv (m.mod ^ i)), (.ref 2 0), (Iv m.mod), (Iv (m.mod ^ (i + 1)))] us2)), (203, (.row 3 1 (is .i64 ((wordZ m Z i) ++ ([(iterZ m i Z) % m.mod]))))), (202, (.row 3 1 (is .i64 ([(iterZ m i Z) % m.mod])))), (201, (oZ 79 .u32 ((stepZ m (iterZ m i Z))))), (2, (oM 24 m)), (3, (.var 40 [(Nv 0), (Nv 0), (Sv Ev), (Sv Ev), (Sv Ev), (Sv Ev)])), (4, (oZ 79 .u32 ((stepZ m (iterZ m i Z))))), (204, (oM 24 m)), (205, (.var 81 [Fv, Zv, Fv, Zv, Fv, Zv])), (206, (.var 81 [(Bv (l.mul)), (Dv (l.mul)), (Bv (l.add)), (Dv (l.add)), (Bv (l.div)), (Dv (l.div))])), (401, (.var 81 [(bp (((l.mul) * (m.mul).getD ((((wordZ m Z i) ++ ([(iterZ m i Z % m.mod)])).getD j 0).toNat) 0) < 0)), (.sl 1 (ns .u32 (digs (((l.mul) * (m.mul).getD ((((wordZ m Z i) ++ ([(iterZ m i Z % m.mod)])).getD j 0).toNat) 0)).natAbs))), (bp ((((l.add) * (m.mul).getD ((((wordZ m Z i) ++ ([(iterZ m i Z % m.mod)])).getD j 0).toNat) 0) + ((l.div) * (m.add).getD ((((wordZ m Z i) ++ ([(iterZ m i Z % m.mod)])).getD j 0).toNat) 0)) < 0)), (.sl 1 (ns .u32 (digs ((((l.add) * (m.mul).getD ((((wordZ m Z i) ++ ([(iterZ m i Z % m.mod)])).getD j 0).toNat) 0) + ((l.div) * (m.add).getD ((((wordZ m Z i) ++ ([(iterZ m i Z % m.mod)])).getD j 0).toNat) 0))).natAbs))), (bp (((l.div) * m.mod) < 0)), (.sl 1 (ns .u32 (digs (((l.div) * m.mod)).natAbs)))]))]⟩) (Wk.sub ⟨rfl, trivial⟩ ⟨rfl, rfl, rfl, rfl, rfl, rfl, rfl, rfl, rfl, rfl, rfl, rfl, trivial⟩) ?_
         refine awp_ret ?_
         try dsimp only [thenK, inBlk]
         refine postS_ret (extra := [(401, (.var 81 [(bp (((l.mul) * (m.mul).getD ((((wordZ m Z i) ++ ([(iterZ m i Z % m.mod)])).getD j 0).toNat) 0) < 0)), (.sl 1 (ns .u32 (digs (((l.mul) * (m.mul).getD ((((wordZ m Z i) ++ ([(iterZ m i Z % m.mod)])).getD j 0).toNat) 0)).natAbs))), (bp ((((l.add) * (m.mul).getD ((((wordZ m Z i) ++ ([(iterZ m i Z % m.mod)])).getD j 0).toNat) 0) + ((l.div) * (m.add).getD ((((wordZ m Z i) ++ ([(iterZ m i Z % m.mod)])).getD j 0).toNat) 0)) < 0)), (.sl 1 (ns .u32 (digs ((((l.add) * (m.mul).getD ((((wordZ m Z i) ++ ([(iterZ m i Z % m.mod)])).getD j 0).toNat) 0) + ((l.div) * (m.add).getD ((((wordZ m Z i) ++ ([(iterZ m i Z % m.mod)])).getD j 0).toNat) 0))).natAbs))), (bp (((l.div) * m.mod) < 0)), (.sl 1 (ns .u32 (digs (((l.div) * m.mod)).natAbs)))]))]) ?_ rfl
         refine ⟨[(.agg [(bp (((l.mul) * (m.mul).getD ((((wordZ m Z i) ++ ([(iterZ m i Z % m.mod)])).getD j 0).toNat) 0) < 0)), (.sl 1 (ns .u32 (digs (((l.mul) * (m.mul).getD ((((wordZ m Z i) ++ ([(iterZ m i Z % m.mod)])).getD j 0).toNat) 0)).natAbs))), (bp ((((l.add) * (m.mul).getD ((((wordZ m Z i) ++ ([(iterZ m i Z % m.mod)])).getD j 0).toNat) 0) + ((l.div) * (m.add).getD ((((wordZ m Z i) ++ ([(iterZ m i Z % m.mod)])).getD j 0).toNat) 0)) < 0)), (.sl 1 (ns .u32 (digs ((((l.add) * (m.mul).getD ((((wordZ m Z i) ++ ([(iterZ m i Z % m.mod)])).getD j 0).toNat) 0) + ((l.div) * (m.add).getD ((((wordZ m Z i) ++ ([(iterZ m i Z % m.mod)])).getD j 0).toNat) 0))).natAbs))), (bp (((l.div) * m.mod) < 0)), (.sl 1 (ns .u32 (digs (((l.div) * m.mod)).natAbs)))])], ⟨⟨401, (.var 81 [(bp (((l.mul) * (m.mul).getD ((((wordZ m Z i) ++ ([(iterZ m i Z % m.mod)])).getD j 0).toNat) 0) < 0)), (.sl 1 (ns .u32 (digs (((l.mul) * (m.mul).getD ((((wordZ m Z i) ++ ([(iterZ m i Z % m.mod)])).getD j 0).toNat) 0)).natAbs))), (bp ((((l.add) * (m.mul).getD ((((wordZ m Z i) ++ ([(iterZ m i Z % m.mod)])).getD j 0).toNat) 0) + ((l.div) * (m.add).getD ((((wordZ m Z i) ++ ([(iterZ m i Z % m.mod)])).getD j 0).toNat) 0)) < 0)), (.sl 1 (ns .u32 (digs ((((l.add) * (m.mul).getD ((((wordZ m Z i) ++ ([(iterZ m i Z % m.mod)])).getD j 0).toNat) 0) + ((l.div) * (m.add).getD ((((wordZ m Z i) ++ ([(iterZ m i Z % m.mod)])).getD j 0).toNat) 0))).natAbs))), (bp (((l.div) * m.mod) < 0)), (.sl 1 (ns .u32 (digs (((l.div) * m.mod)).natAbs)))]), rfl, rfl, rfl, Or.inl ⟨f85_, AV.le_refl _⟩⟩, trivial⟩, ?_⟩
         exact linK_eq (Int.mul_comm _ _) (congr (congrArg HAdd.hAdd (Int.mul_comm _ _)) (Int.mul_comm _ _)) rfl
        refine o_store [(9011, (.pin [(.row 203), (mapV m), (Iv k), (.ref 2 0), (.ref 3 0), (Iv (m.mod ^ (i + 1))), (Iv Z), (.ref 4 0), (.row 203), (Iv k), (Nv i), (bp ((((i : Nat) : Int)) < k)), (mapV m), (intW ((iterZ m i Z))), (.tup [(intW ((stepZ m (iterZ m i Z)))), (Iv ((iterZ m i Z) % m.mod))]), (.tup [(intW ((stepZ m (iterZ m i Z)))), (Iv ((iterZ m i Z) % m.mod))]), (intW ((stepZ m (iterZ m i Z)))), (Iv ((iterZ m i Z) % m.mod)), (.ref 201 0), (Iv ((iterZ m i Z) % m.mod)), (intW ((stepZ m (iterZ m i Z)))), (.row 50), (Iv ((iterZ m i Z) % m.mod)), (.row 202), (.row 203), (Iv (m.mod ^ i)), (.ref 2 0), (Iv m.mod), (Iv (m.mod ^ (i + 1)))] us2)), (203, (.row 3 1 (is .i64 ((wordZ m Z i) ++ ([(iterZ m i Z) % m.mod]))))), (202, (.row 3 1 (is .i64 ([(iterZ m i Z) % m.mod])))), (201, (oZ 79 .u32 ((stepZ m (iterZ m i Z))))), (2, (oM 24 m)), (3, (.var 40 [(Nv 0), (Nv 0), (Sv Ev), (Sv Ev), (Sv Ev), (Sv Ev)])), (4, (oZ 79 .u32 ((stepZ m (iterZ m i Z))))), (204, (oM 24 m)), (205, (.var 81 [Fv, Zv, Fv, Zv, Fv, Zv])), (206, (.var 81 [(Bv ((thenZ m l (((wordZ m Z i) ++ ([(iterZ m i Z % m.mod)])).getD j 0)).mul)), (Dv ((thenZ m l (((wordZ m Z i) ++ ([(iterZ m i Z % m.mod)])).getD j 0)).mul)), (Bv ((thenZ m l (((wordZ m Z i) ++ ([(iterZ m i Z % m.mod)])).getD j 0)).add)), (Dv ((thenZ m l (((wordZ m Z i) ++ ([(iterZ m i Z % m.mod)])).getD j 0)).add)), (Bv ((thenZ m l (((wordZ m Z i) ++ ([(iterZ m i Z % m.mod)])).getD j 0)).div)), (Dv ((thenZ m l (((wordZ m Z i) ++ ([(iterZ m i Z % m.mod)])).getD j 0)).div))]))] Gd.none f80_ rfl rfl rfl rfl rfl rfl ?_
        refine aops_end ?_
        refine hK36 _ ?_
        refine awp_region rfl ?_
        refine n_add j 1 Gd.none rfl rfl (by simp only [topOf]; omega) ?_
        refine o_mv (Nv (j + 1)) rfl ?_
        refine aops_end ?_
        refine ⟨_, _, ?lt, ⟨j + 1, (thenZ m l (((wordZ m Z i) ++ ([(iterZ m i Z) % m.mod])).getD j 0)), (by omega), (by rw [hl2]; exact lineZ_next (by assumption)), rfl, rfl⟩, ?wk⟩
        case lt => omega
        case wk => exact Wk.sub ⟨rfl, rfl, rfl, rfl, rfl, rfl, (by first | rfl | exact nm_int (by omega)), trivial⟩ ⟨rfl, rfl, rfl, rfl, rfl, rfl, rfl, rfl, rfl, rfl, trivial⟩
       ·refine awp_exit ?_
        refine hK32 _ ?_
        refine awp_seq fun K41 hK41 => ?_
        refine awp_region rfl ?_
        refine o_loadA [(Bv (l.mul)), (Dv (l.mul)), (Bv (l.add)), (Dv (l.add)), (Bv (l.div)), (Dv (l.div))] Gd.none f85_ rfl rfl rfl rfl rfl ?_
        refine o_store [(9011, (.pin [(.row 203), (mapV m), (Iv k), (.ref 2 0), (.ref 3 0), (Iv (m.mod ^ (i + 1))), (Iv Z), (.ref 4 0), (.row 203), (Iv k), (Nv i), (bp ((((i : Nat) : Int)) < k)), (mapV m), (intW ((iterZ m i Z))), (.tup [(intW ((stepZ m (iterZ m i Z)))), (Iv ((iterZ m i Z) % m.mod))]), (.tup [(intW ((stepZ m (iterZ m i Z)))), (Iv ((iterZ m i Z) % m.mod))]), (intW ((stepZ m (iterZ m i Z)))), (Iv ((iterZ m i Z) % m.mod)), (.ref 201 0), (Iv ((iterZ m i Z) % m.mod)), (intW ((stepZ m (iterZ m i Z)))), (.row 50), (Iv ((iterZ m i Z) % m.mod)), (.row 202), (.row 203), (Iv (m.mod ^ i)), (.ref 2 0), (Iv m.mod), (Iv (m.mod ^ (i + 1)))] us2)), (203, (.row 3 1 (is .i64 ((wordZ m Z i) ++ ([(iterZ m i Z) % m.mod]))))), (202, (.row 3 1 (is .i64 ([(iterZ m i Z) % m.mod])))), (201, (oZ 79 .u32 ((stepZ m (iterZ m i Z))))), (2, (oM 24 m)), (3, (.var 40 [(Nv 0), (Nv 0), (Sv Ev), (Sv Ev), (Sv Ev), (Sv Ev)])), (4, (oZ 79 .u32 ((stepZ m (iterZ m i Z))))), (204, (oM 24 m)), (205, (.var 81 [(Bv (l.mul)), (Dv (l.mul)), (Bv (l.add)), (Dv (l.add)), (Bv (l.div)), (Dv (l.div))])), (206, (.var 81 [(Bv (l.mul)), (Dv (l.mul)), (Bv (l.add)), (Dv (l.add)), (Bv (l.div)), (Dv (l.div))]))] Gd.none f80_ rfl rfl rfl rfl rfl rfl ?_
        refine aops_end ?_
        refine hK41 _ ?_
        refine awp_wk (σ' := ⟨[(4, (.ref 205 0))], [(9011, (.pin [(.row 203), (mapV m), (Iv k), (.ref 2 0), (.ref 3 0), (Iv (m.mod ^ (i + 1))), (Iv Z), (.ref 4 0), (.row 203), (Iv k), (Nv i), (bp ((((i : Nat) : Int)) < k)), (mapV m), (intW ((iterZ m i Z))), (.tup [(intW ((stepZ m (iterZ m i Z)))), (Iv ((iterZ m i Z) % m.mod))]), (.tup [(intW ((stepZ m (iterZ m i Z)))), (Iv ((iterZ m i Z) % m.mod))]), (intW ((stepZ m (iterZ m i Z)))), (Iv ((iterZ m i Z) % m.mod)), (.ref 201 0), (Iv ((iterZ m i Z) % m.mod)), (intW ((stepZ m (iterZ m i Z)))), (.row 50), (Iv ((iterZ m i Z) % m.mod)), (.row 202), (.row 203), (Iv (m.mod ^ i)), (.ref 2 0), (Iv m.mod), (Iv (m.mod ^ (i + 1)))] us2)), (203, (.row 3 1 (is .i64 ((wordZ m Z i) ++ ([(iterZ m i Z) % m.mod]))))), (202, (.row 3 1 (is .i64 ([(iterZ m i Z) % m.mod])))), (201, (oZ 79 .u32 ((stepZ m (iterZ m i Z))))), (2, (oM 24 m)), (3, (.var 40 [(Nv 0), (Nv 0), (Sv Ev), (Sv Ev), (Sv Ev), (Sv Ev)])), (4, (oZ 79 .u32 ((stepZ m (iterZ m i Z))))), (205, (.var 81 [(Bv (l.mul)), (Dv (l.mul)), (Bv (l.add)), (Dv (l.add)), (Bv (l.div)), (Dv (l.div))]))]⟩) (Wk.sub ⟨rfl, trivial⟩ ⟨rfl, rfl, rfl, rfl, rfl, rfl, rfl, rfl, trivial⟩) ?_
        refine awp_ret ?_
        try dsimp only [thenK, inBlk]
        refine postS_ret (extra := [(205, (.var 81 [(Bv (l.mul)), (Dv (l.mul)), (Bv (l.add)), (Dv (l.add)), (Bv (l.div)), (Dv (l.div))]))]) ?_ rfl
        refine ⟨[(.agg [(Bv (l.mul)), (Dv (l.mul)), (Bv (l.add)), (Dv (l.add)), (Bv (l.div)), (Dv (l.div))])], ⟨⟨205, (.var 81 [(Bv (l.mul)), (Dv (l.mul)), (Bv (l.add)), (Dv (l.add)), (Bv (l.div)), (Dv (l.div))]), rfl, rfl, rfl, Or.inl ⟨f85_, AV.le_refl _⟩⟩, trivial⟩, ?_⟩
        have e9 : j = ((wordZ m Z i) ++ ([(iterZ m i Z % m.mod)])).length := (by omega); exact congrArg linW (by rw [hl2, e9, List.take_length]; rfl)
      refine o_alloc 204 [Fv, Zv, Fv, Zv, Fv, Zv] Gd.none f78_ rfl rfl rfl ?_
      refine o_store [(204, (.var 81 [(Bv ((lineZ m (wordZ m Z (i + 1))).mul)), (Dv ((lineZ m (wordZ m Z (i + 1))).mul)), (Bv ((lineZ m (wordZ m Z (i + 1))).add)), (Dv ((lineZ m (wordZ m Z (i + 1))).add)), (Bv ((lineZ m (wordZ m Z (i + 1))).div)), (Dv ((lineZ m (wordZ m Z (i + 1))).div))])), (203, (.row 3 1 (is .i64 ((wordZ m Z i) ++ ([(iterZ m i Z) % m.mod]))))), (202, (.row 3 1 (is .i64 ([(iterZ m i Z) % m.mod])))), (201, (oZ 79 .u32 ((stepZ m (iterZ m i Z))))), (2, (oM 24 m)), (3, (.var 40 [(Nv 0), (Nv 0), (Sv Ev), (Sv Ev), (Sv Ev), (Sv Ev)])), (4, (oZ 79 .u32 ((stepZ m (iterZ m i Z)))))] Gd.none f80_ rfl rfl rfl rfl rfl rfl ?_
      refine aops_end ?_
      refine hK28 _ ?_
      refine awp_seq fun K42 hK42 => ?_
      refine awp_region rfl ?_
      refine o_fieldRef 0 Gd.none f82_ rfl rfl ?_
      refine o_loadA [(Bv ((lineZ m (wordZ m Z (i + 1))).mul)), (Dv ((lineZ m (wordZ m Z (i + 1))).mul))] Gd.none f20_ rfl rfl rfl rfl rfl ?_
      refine o_fieldRef 4 Gd.none f84_ rfl rfl ?_
      refine o_loadA [(Bv ((lineZ m (wordZ m Z (i + 1))).div)), (Dv ((lineZ m (wordZ m Z (i + 1))).div))] Gd.none f20_ rfl rfl rfl rfl rfl ?_
      refine o_ct (c_wCmp (((lineZ m (wordZ m Z (i + 1))).mul)) (((lineZ m (wordZ m Z (i + 1))).div))) Gd.none f137_ rfl ?_
      refine o_lss (a := (cmpZ (((lineZ m (wordZ m Z (i + 1))).mul)) (((lineZ m (wordZ m Z (i + 1))).div)))) (c := (((0 : Nat) : Int))) Gd.none rfl rfl ?_
      refine aops_end ?_
      refine hK42 _ ?_
      refine awp_condQ (q := (cmpZ (((lineZ m (wordZ m Z (i + 1))).mul)) (((lineZ m (wordZ m Z (i + 1))).div))) < (((0 : Nat) : Int))) rfl (fun h7 => ?_) (fun h7 => ?_)
      ·refine awp_seq fun K43 hK43 => ?_
       have hfw : fallsW m (wordZ m Z (i + 1)) := lcmp.1 (by assumption)
       have hdm : 0 < (lineZ m (wordZ m Z (i + 1))).div - (lineZ m (wordZ m Z (i + 1))).mul := by unfold fallsW at hfw; omega
       have hfy := fnd_yes h0 hfw (k := k.toNat) (by omega)
       refine awp_regionD rfl ?_
       refine o_mv (.row 203) rfl ?_
       refine o_lenRow (((wordZ m Z i) ++ ([(iterZ m i Z) % m.mod])).length) Gd.none f2_ rfl rfl (by simp [is]) ?_
       refine n_as (v' := (Nv (i + 1))) (by exact congrArg (nm _) (by rw [List.length_append, wordZ_len]; rfl)) ?_
       refine o_mv (Iv Z) rfl ?_
       refine o_mv (Iv (m.mod ^ (i + 1))) rfl ?_
       refine o_remT (a := Z) (c := (m.mod ^ (i + 1))) Gd.none rfl rfl (by omega) ?_
       refine n_as (v' := (Iv (Z % m.mod ^ (i + 1)))) (by exact congrArg (fun z => AV.lit (.int .i64 z)) (Int.tmod_eq_emod_of_nonneg hZ0)) ?_
       refine o_loadA [(Bv ((lineZ m (wordZ m Z (i + 1))).mul)), (Dv ((lineZ m (wordZ m Z (i + 1))).mul)), (Bv ((lineZ m (wordZ m Z (i + 1))).add)), (Dv ((lineZ m (wordZ m Z (i + 1))).add)), (Bv ((lineZ m (wordZ m Z (i + 1))).div)), (Dv ((lineZ m (wordZ m Z (i + 1))).div))] Gd.none f85_ rfl rfl rfl rfl rfl ?_
       refine o_ct (c_sfall (((i + 1 : Nat) : Int)) (Z % m.mod ^ (i + 1)) (lineZ m (wordZ m Z (i + 1))) (by first | omega | assumption) (by first | omega | assumption) (by first | omega | assumption) (by omega)) Gd.none f139_ rfl ?_
       refine o_store [(204, (.var 81 [(Bv ((lineZ m (wordZ m Z (i + 1))).mul)), (Dv ((lineZ m (wordZ m Z (i + 1))).mul)), (Bv ((lineZ m (wordZ m Z (i + 1))).add)), (Dv ((lineZ m (wordZ m Z (i + 1))).add)), (Bv ((lineZ m (wordZ m Z (i + 1))).div)), (Dv ((lineZ m (wordZ m Z (i + 1))).div))])), (203, (.row 3 1 (is .i64 ((wordZ m Z i) ++ ([(iterZ m i Z) % m.mod]))))), (202, (.row 3 1 (is .i64 ([(iterZ m i Z) % m.mod])))), (201, (oZ 79 .u32 ((stepZ m (iterZ m i Z))))), (2, (oM 24 m)), (3, (.var 40 [(Iv ((falO (((i + 1 : Nat) : Int)) (Z % m.mod ^ (i + 1)) (lineZ m (wordZ m Z (i + 1)))).steps)), (Iv ((falO (((i + 1 : Nat) : Int)) (Z % m.mod ^ (i + 1)) (lineZ m (wordZ m Z (i + 1)))).rest)), (Sv ((falO (((i + 1 : Nat) : Int)) (Z % m.mod ^ (i + 1)) (lineZ m (wordZ m Z (i + 1)))).lmul)), (Sv ((falO (((i + 1 : Nat) : Int)) (Z % m.mod ^ (i + 1)) (lineZ m (wordZ m Z (i + 1)))).ladd)), (Sv ((falO (((i + 1 : Nat) : Int)) (Z % m.mod ^ (i + 1)) (lineZ m (wordZ m Z (i + 1)))).ldiv)), (Sv ((falO (((i + 1 : Nat) : Int)) (Z % m.mod ^ (i + 1)) (lineZ m (wordZ m Z (i + 1)))).bound))])), (4, (oZ 79 .u32 ((stepZ m (iterZ m i Z)))))] Gd.none f108_ rfl rfl rfl rfl rfl rfl ?_
       refine o_as Tv rfl ?_
       refine o_as (Nv 0) rfl ?_
       refine aops_end ⟨by kernel_rfl, ?_⟩
       refine hK43 _ ?_
       refine awp_ret ?_
       refine post_ret ⟨[(.agg [(Iv ((falO (((i + 1 : Nat) : Int)) (Z % m.mod ^ (i + 1)) (lineZ m (wordZ m Z (i + 1)))).steps)), (Iv ((falO (((i + 1 : Nat) : Int)) (Z % m.mod ^ (i + 1)) (lineZ m (wordZ m Z (i + 1)))).rest)), (Sv ((falO (((i + 1 : Nat) : Int)) (Z % m.mod ^ (i + 1)) (lineZ m (wordZ m Z (i + 1)))).lmul)), (Sv ((falO (((i + 1 : Nat) : Int)) (Z % m.mod ^ (i + 1)) (lineZ m (wordZ m Z (i + 1)))).ladd)), (Sv ((falO (((i + 1 : Nat) : Int)) (Z % m.mod ^ (i + 1)) (lineZ m (wordZ m Z (i + 1)))).ldiv)), (Sv ((falO (((i + 1 : Nat) : Int)) (Z % m.mod ^ (i + 1)) (lineZ m (wordZ m Z (i + 1)))).bound))]), Tv, (Nv 0)], ⟨⟨3, (.var 40 [(Iv ((falO (((i + 1 : Nat) : Int)) (Z % m.mod ^ (i + 1)) (lineZ m (wordZ m Z (i + 1)))).steps)), (Iv ((falO (((i + 1 : Nat) : Int)) (Z % m.mod ^ (i + 1)) (lineZ m (wordZ m Z (i + 1)))).rest)), (Sv ((falO (((i + 1 : Nat) : Int)) (Z % m.mod ^ (i + 1)) (lineZ m (wordZ m Z (i + 1)))).lmul)), (Sv ((falO (((i + 1 : Nat) : Int)) (Z % m.mod ^ (i + 1)) (lineZ m (wordZ m Z (i + 1)))).ladd)), (Sv ((falO (((i + 1 : Nat) : Int)) (Z % m.mod ^ (i + 1)) (lineZ m (wordZ m Z (i + 1)))).ldiv)), (Sv ((falO (((i + 1 : Nat) : Int)) (Z % m.mod ^ (i + 1)) (lineZ m (wordZ m Z (i + 1)))).bound))]), rfl, rfl, rfl, Or.inl ⟨f109_, AV.le_refl _⟩⟩, (AV.le_refl _), (AV.le_refl _), trivial⟩, rfl, ?_⟩
       first | (have e := fd_1 (m := m) (a := a) (k := k) (fun q => hm' q.1); rw [e.1, e.2.1, bpn e.2.2]; rfl) | (have e := fd_1 (m := m) (a := a) (k := k) (fun q => ha' q.2); rw [e.1, e.2.1, bpn e.2.2]; rfl) | (have e := fd_2 (m := m) (a := a) (k := k) ⟨hm', ha'⟩ h3; rw [e.1, e.2.1, bpn e.2.2]; rfl) | (have e := fd_0 (m := m) (a := a) (k := k) ⟨hm', ha'⟩ hy; rw [e.1, e.2.1, ← hfm.1, hfy.1, bpy (e.2.2.2 (hfm.2.1 hfy.2))]; rfl) | (have e := fd_0 (m := m) (a := a) (k := k) ⟨hm', ha'⟩ hy; have e2 := fnd_no (m := m) (z := Z) (k := k.toNat) (by rw [show k.toNat = i by omega]; exact h0); rw [e.1, e.2.1, ← hfm.1, e2.1, bpn (fun q => e2.2 (hfm.2.2 (e.2.2.1 q)))]; rfl)
      ·refine awp_skip ?_
       refine hK23 _ ?_
       refine awp_region rfl ?_
       refine n_add i 1 Gd.none rfl rfl (by simp only [topOf]; omega) ?_
       refine o_mv (Nv (i + 1)) rfl ?_
       refine aops_end ?_
       refine ⟨_, _, ?lt, ⟨i + 1, (by omega), (ffal_next h0 (fun e => absurd (lcmp.2 e) (by assumption))), (show (digs (stepZ m (iterZ m i Z)).natAbs).length ≤ 1 + 4 * (i + 1) by omega), rfl, rfl⟩, ?wk⟩
       case lt => omega
       case wk => exact Wk.trans (Wk.sub (σ' := ⟨[(2, (Iv k)), (3, (.ref 2 0)), (6, (.ref 3 0)), (10, (Iv (m.mod ^ (i + 1)))), (12, (Iv Z)), (13, (.ref 4 0)), (14, (.row 203)), (51, (Iv k)), (52, (Nv (i + 1)))], [(2, (oM 24 m)), (3, (.var 40 [(Nv 0), (Nv 0), (Sv Ev), (Sv Ev), (Sv Ev), (Sv Ev)])), (4, (oZ 79 .u32 ((stepZ m (iterZ m i Z))))), (203, (.row 3 1 (is .i64 ((wordZ m Z i) ++ ([(iterZ m i Z) % m.mod])))))]⟩) ⟨rfl, rfl, rfl, rfl, rfl, rfl, rfl, rfl, rfl, trivial⟩ ⟨rfl, rfl, rfl, rfl, trivial⟩) (Wk.trans (Wk.ren (id := 203) (id' := 50) rfl) (Wk.sub ⟨rfl, rfl, rfl, (by first | rfl | exact int_eq (by omega) | exact int_nm (by omega)), rfl, rfl, (by first | rfl | simp), rfl, (by first | rfl | exact nm_int (by omega)), trivial⟩ ⟨rfl, rfl, rfl, (by first | rfl | exact row_ns (by simp)), trivial⟩))
     ·refine awp_exit ?_
      refine hK19 _ ?_
      refine awp_seq fun K44 hK44 => ?_
      refine awp_region rfl ?_
      refine o_build [(Nv 0), (Nv 0), (Sv Ev), (Sv Ev), (Sv Ev), (Sv Ev)] [] Gd.none f107_ f104_ rfl rfl rfl ?_
      refine n_as (v' := (falV zFal)) (by exact rfl) ?_
      refine o_store [(2, (oM 24 m)), (3, (.var 40 [(Iv (zFal.steps)), (Iv (zFal.rest)), (Sv (zFal.lmul)), (Sv (zFal.ladd)), (Sv (zFal.ldiv)), (Sv (zFal.bound))])), (4, (oZ 79 .u32 ((iterZ m i Z)))), (50, (.row 3 1 (is .i64 (wordZ m Z i))))] Gd.none f108_ rfl rfl rfl rfl rfl rfl ?_
      refine o_as Fv rfl ?_
      refine o_as (Nv 0) rfl ?_
      refine aops_end ?_
      refine hK44 _ ?_
      refine awp_ret ?_
      refine post_ret ⟨[(.agg [(Iv (zFal.steps)), (Iv (zFal.rest)), (Sv (zFal.lmul)), (Sv (zFal.ladd)), (Sv (zFal.ldiv)), (Sv (zFal.bound))]), Fv, (Nv 0)], ⟨⟨3, (.var 40 [(Iv (zFal.steps)), (Iv (zFal.rest)), (Sv (zFal.lmul)), (Sv (zFal.ladd)), (Sv (zFal.ldiv)), (Sv (zFal.bound))]), rfl, rfl, rfl, Or.inl ⟨f109_, AV.le_refl _⟩⟩, (AV.le_refl _), (AV.le_refl _), trivial⟩, rfl, ?_⟩
      first | (have e := fd_1 (m := m) (a := a) (k := k) (fun q => hm' q.1); rw [e.1, e.2.1, bpn e.2.2]; rfl) | (have e := fd_1 (m := m) (a := a) (k := k) (fun q => ha' q.2); rw [e.1, e.2.1, bpn e.2.2]; rfl) | (have e := fd_2 (m := m) (a := a) (k := k) ⟨hm', ha'⟩ h3; rw [e.1, e.2.1, bpn e.2.2]; rfl) | (have e := fd_0 (m := m) (a := a) (k := k) ⟨hm', ha'⟩ hy; rw [e.1, e.2.1, ← hfm.1, hfy.1, bpy (e.2.2.2 (hfm.2.1 hfy.2))]; rfl) | (have e := fd_0 (m := m) (a := a) (k := k) ⟨hm', ha'⟩ hy; have e2 := fnd_no (m := m) (z := Z) (k := k.toNat) (by rw [show k.toNat = i by omega]; exact h0); rw [e.1, e.2.1, ← hfm.1, e2.1, bpn (fun q => e2.2 (hfm.2.2 (e.2.2.1 q)))]; rfl)

end Go.Proofs.YtjbaamfahkjhgaaGreatDoor

set_option linter.unusedVariables false
set_option linter.unusedSimpArgs false
namespace Go.Proofs.YtjbaamfahkjhgaaGreatDoor
open Go Go.Ab Go.Mth
theorem f158_ : callable cx.P 61 = true := by kernel_rfl
theorem f159_ : callable cx.P 10 = true := by kernel_rfl
theorem f160_ : callable cx.P 17 = true := by kernel_rfl
theorem f161_ : tyField cx.P 40 3 = some (5, 9) := by kernel_rfl
theorem f162_ : tySc cx.P 9 = true := by kernel_rfl
theorem c_awake4  : ECalls cx 13 [] (.lit (.bool true)) := by
 refine ecalls_of_awp Tryz.func13 (c := _) rfl (Nat.le_of_ble_eq_true rfl) ?_
 show awp cx 68 _ (postF cx Tryz.f13 _) ⟨[], []⟩
 refine awp_seq fun K0 hK0 => ?_
 refine awp_region rfl ?_
 refine o_as Fv rfl ?_
 refine aops_end ?_
 refine hK0 _ ?_
 refine awp_seq fun K1 hK1 => ?_
 refine awp_region rfl ?_
 refine o_ct c_gCollatz Gd.none f158_ rfl ?_
 refine o_alloc 2 [(Nv 0), Zv, Zv] Gd.none f68_ rfl rfl rfl ?_
 refine o_store [(2, (oM 24 (kinM 3 1)))] Gd.none f70_ rfl rfl rfl rfl rfl rfl ?_
 refine aops_end ?_
 refine hK1 _ ?_
 refine awp_seq fun K2 hK2 => ?_
 refine awp_region rfl ?_
 refine o_loadA [(Iv ((kinM 3 1).mod)), (Lv ((kinM 3 1).mul)), (Lv ((kinM 3 1).add))] Gd.none f64_ rfl rfl rfl rfl rfl ?_
 refine o_call [(mapV (kinM 3 1)), (Nv 3)] (.tup [(.sl 6 (gcells cL ([ex1, ex2]))), (Lv ([3, 7])), (Nv 0)]) Gd.none f159_ rfl (by have h := c_sSieve (kinM 3 1) 3 okM_col may_col3 (by rw [ex_vis]; decide) (by rw [ex_vis]; decide); rw [ex_F, ex_L] at h; exact h) ?_
 refine o_mv (.tup [(.sl 6 (gcells cL ([ex1, ex2]))), (Lv ([3, 7])), (Nv 0)]) rfl ?_
 refine o_extract (.sl 6 (gcells cL ([ex1, ex2]))) Gd.none rfl rfl ?_
 refine o_extract (Lv ([3, 7])) Gd.none rfl rfl ?_
 refine o_extract (Nv 0) Gd.none rfl rfl ?_
 refine o_as (.sl 6 (gcells cL ([ex1, ex2]))) rfl ?_
 refine o_as (Lv ([3, 7])) rfl ?_
 refine o_as (Nv 0) rfl ?_
 refine aops_end ?_
 refine hK2 _ ?_
 refine awp_seq fun K3 hK3 => ?_
 refine awp_region rfl ?_
 refine o_loadA [(Iv ((kinM 3 1).mod)), (Lv ((kinM 3 1).mul)), (Lv ((kinM 3 1).add))] Gd.none f64_ rfl rfl rfl rfl rfl ?_
 refine o_call [(mapV (kinM 3 1)), (Sv (({data := #[49, 48, 48, 48, 48, 48, 48, 48, 48, 48, 48, 48, 48, 48, 48, 48, 48, 48, 48, 48, 48, 48, 48, 48, 51]} : ByteArray))), (Nv 4)] (.tup [(falV ex3), Tv, (Nv 0)]) Gd.none f160_ rfl (by have h := c_sFind (kinM 3 1) exN 4 (by decide) (by decide); rw [ex_fd.1, ex_fd.2.1, bpy ex_fd.2.2] at h; exact h) ?_
 refine o_mv (.tup [(falV ex3), Tv, (Nv 0)]) rfl ?_
 refine o_extract (falV ex3) Gd.none rfl rfl ?_
 refine o_extract Tv Gd.none rfl rfl ?_
 refine o_extract (Nv 0) Gd.none rfl rfl ?_
 refine o_alloc 3 [(Nv 0), (Nv 0), (Sv Ev), (Sv Ev), (Sv Ev), (Sv Ev)] Gd.none f104_ rfl rfl rfl ?_
 refine o_store [(3, (.var 40 [(Iv (ex3.steps)), (Iv (ex3.rest)), (Sv (ex3.lmul)), (Sv (ex3.ladd)), (Sv (ex3.ldiv)), (Sv (ex3.bound))])), (2, (oM 24 (kinM 3 1)))] Gd.none f108_ rfl rfl rfl rfl rfl rfl ?_
 refine o_as Tv rfl ?_
 refine o_as (Nv 0) rfl ?_
 refine aops_end ?_
 refine hK3 _ ?_
 refine awp_seq fun K4 hK4 => ?_
 refine awp_region rfl ?_
 refine o_mv (Nv 0) rfl ?_
 refine n_eql 0 0 Gd.none rfl rfl ?_
 refine n_as (v' := Tv) (by exact bpy (by first | rfl | decide)) ?_
 refine o_mv Tv rfl ?_
 refine o_move (.sl 6 (gcells cL ([ex1, ex2]))) (Gd.yes rfl rfl rfl) rfl ?_
 refine g_len cL ([ex1, ex2]) cL_len (Gd.yes rfl rfl rfl) f127_ rfl ?_
 refine n_eql (([ex1, ex2]).length) 2 (Gd.yes rfl rfl rfl) rfl rfl ?_
 refine n_as (v' := Tv) (by exact bpy (by first | rfl | decide)) ?_
 refine o_pickT Tv Gd.none rfl rfl rfl ?_
 refine o_mv Tv rfl ?_
 refine o_move (.sl 6 (gcells cL ([ex1, ex2]))) (Gd.yes rfl rfl rfl) rfl ?_
 refine g_index cL ([ex1, ex2]) 0 cL_len rfl (Gd.yes rfl rfl rfl) f120_ rfl rfl (by decide) ?_
 refine g_field cL ([ex1, ex2]) 0 cL_len (Gd.yes rfl rfl rfl) f135_ rfl (by decide) rfl ?_
 refine g_loadS cL ([ex1, ex2]) 0 default (Iv (((([ex1, ex2]).getD 0 default)).steps)) cL_len (Gd.yes rfl rfl rfl) f11_ rfl (by decide) rfl ?_
 refine o_eql (a := (((([ex1, ex2]).getD 0 default)).steps)) (c := (((1 : Nat) : Int))) (Gd.yes rfl rfl rfl) rfl rfl ?_
 refine n_as (v' := Tv) (by exact bpy (by first | rfl | decide)) ?_
 refine o_pickT Tv Gd.none rfl rfl rfl ?_
 refine o_mv Tv rfl ?_
 refine o_move (.sl 6 (gcells cL ([ex1, ex2]))) (Gd.yes rfl rfl rfl) rfl ?_
 refine g_index cL ([ex1, ex2]) 0 cL_len rfl (Gd.yes rfl rfl rfl) f120_ rfl rfl (by decide) ?_
 refine g_field cL ([ex1, ex2]) 0 cL_len (Gd.yes rfl rfl rfl) f161_ rfl (by decide) rfl ?_
 refine g_loadS cL ([ex1, ex2]) 0 default (Sv (((([ex1, ex2]).getD 0 default)).bound)) cL_len (Gd.yes rfl rfl rfl) f162_ rfl (by decide) rfl ?_
 refine o_eqlS (a := (((([ex1, ex2]).getD 0 default)).bound)) (c := (({data := #[48]} : ByteArray))) (Gd.yes rfl rfl rfl) rfl rfl ?_
 refine n_as (v' := Tv) (by exact bpy (by first | rfl | decide)) ?_
 refine o_pickT Tv Gd.none rfl rfl rfl ?_
 refine o_mv Tv rfl ?_
 refine o_move (.sl 6 (gcells cL ([ex1, ex2]))) (Gd.yes rfl rfl rfl) rfl ?_
 refine g_index cL ([ex1, ex2]) 1 cL_len rfl (Gd.yes rfl rfl rfl) f120_ rfl rfl (by decide) ?_
 refine g_loadA cL ([ex1, ex2]) 1 default cL_len (Gd.yes rfl rfl rfl) f109_ rfl (by decide) ?_
 refine o_build [(Sv (({data := #[51]} : ByteArray))), (Sv (({data := #[49]} : ByteArray))), (Sv (({data := #[52]} : ByteArray)))] [(0, [(Sv (({data := #[51]} : ByteArray)))]), (1, [(Sv (({data := #[49]} : ByteArray)))]), (2, [(Sv (({data := #[52]} : ByteArray)))])] (Gd.yes rfl rfl rfl) f88_ f86_ rfl rfl rfl ?_
 refine o_build [(Nv 2), (Nv 1), (Sv (({data := #[51]} : ByteArray))), (Sv (({data := #[49]} : ByteArray))), (Sv (({data := #[52]} : ByteArray))), (Sv (({data := #[49]} : ByteArray)))] [(0, [(Nv 2)]), (1, [(Nv 1)]), (2, [(Sv (({data := #[51]} : ByteArray))), (Sv (({data := #[49]} : ByteArray))), (Sv (({data := #[52]} : ByteArray)))]), (3, [(Sv (({data := #[49]} : ByteArray)))])] (Gd.yes rfl rfl rfl) f107_ f104_ rfl rfl rfl ?_
 refine o_eqlA [.int .i64 (((([ex1, ex2]).getD 1 default)).steps), .int .i64 (((([ex1, ex2]).getD 1 default)).rest), .string (((([ex1, ex2]).getD 1 default)).lmul), .string (((([ex1, ex2]).getD 1 default)).ladd), .string (((([ex1, ex2]).getD 1 default)).ldiv), .string (((([ex1, ex2]).getD 1 default)).bound)] [.int .i64 ((2 : Nat) : Int), .int .i64 ((1 : Nat) : Int), .string (({data := #[51]} : ByteArray)), .string (({data := #[49]} : ByteArray)), .string (({data := #[52]} : ByteArray)), .string (({data := #[49]} : ByteArray))] ((((([ex1, ex2]).getD 1 default)).steps) = ((2 : Nat) : Int) ∧ (((([ex1, ex2]).getD 1 default)).rest) = ((1 : Nat) : Int) ∧ (((([ex1, ex2]).getD 1 default)).lmul) = (({data := #[51]} : ByteArray)) ∧ (((([ex1, ex2]).getD 1 default)).ladd) = (({data := #[49]} : ByteArray)) ∧ (((([ex1, ex2]).getD 1 default)).ldiv) = (({data := #[52]} : ByteArray)) ∧ (((([ex1, ex2]).getD 1 default)).bound) = (({data := #[49]} : ByteArray))) (Gd.yes rfl rfl rfl) rfl rfl (eq_api_Fall _ _ _ _ _ _ _ _ _ _ _ _) ?_
 refine n_as (v' := Tv) (by exact bpy (by first | rfl | decide)) ?_
 refine o_pickT Tv Gd.none rfl rfl rfl ?_
 refine o_mv Tv rfl ?_
 refine o_move (Lv ([3, 7])) (Gd.yes rfl rfl rfl) rfl ?_
 refine o_buildSlice 4 (is .i64 ([((3 : Nat) : Int), ((7 : Nat) : Int)])) [(0, [(Nv 3)]), (1, [(Nv 7)])] (Gd.yes rfl rfl rfl) f10_ rfl f26_ rfl rfl rfl rfl rfl rfl rfl ?_
 refine o_callG [(4, 1, (is .i64 ([((3 : Nat) : Int), ((7 : Nat) : Int)])))] [(Lv ([3, 7])), (Lv ([((3 : Nat) : Int), ((7 : Nat) : Int)]))] _ (bp ([3, 7] = [((3 : Nat) : Int), ((7 : Nat) : Int)])) [(3, (.var 40 [(Iv (ex3.steps)), (Iv (ex3.rest)), (Sv (ex3.lmul)), (Sv (ex3.ladd)), (Sv (ex3.ldiv)), (Sv (ex3.bound))])), (2, (oM 24 (kinM 3 1)))] (Gd.yes rfl rfl rfl) f67_ rfl ⟨⟨_, rfl⟩, trivial⟩ rfl rfl (LeL.cons (AV.le_refl _) (LeL.cons (AV.le_refl _) LeL.nil)) (c_gAlike ([3, 7]) ([((3 : Nat) : Int), ((7 : Nat) : Int)])) rfl ?_
 refine n_as (v' := Tv) (by exact bpy (by first | rfl | decide)) ?_
 refine o_pickT Tv Gd.none rfl rfl rfl ?_
 refine o_mv Tv rfl ?_
 refine o_move (Nv 0) (Gd.yes rfl rfl rfl) rfl ?_
 refine n_eql 0 0 (Gd.yes rfl rfl rfl) rfl rfl ?_
 refine n_as (v' := Tv) (by exact bpy (by first | rfl | decide)) ?_
 refine o_pickT Tv Gd.none rfl rfl rfl ?_
 refine o_mv Tv rfl ?_
 refine o_move Tv (Gd.yes rfl rfl rfl) rfl ?_
 refine o_pickT Tv Gd.none rfl rfl rfl ?_
 refine o_mv Tv rfl ?_
 refine o_loadA [(Iv (ex3.steps)), (Iv (ex3.rest)), (Sv (ex3.lmul)), (Sv (ex3.ladd)), (Sv (ex3.ldiv)), (Sv (ex3.bound))] (Gd.yes rfl rfl rfl) f109_ rfl rfl rfl rfl rfl ?_
 refine o_build [(Sv (({data := #[57]} : ByteArray))), (Sv (({data := #[53]} : ByteArray))), (Sv (({data := #[49, 54]} : ByteArray)))] [(0, [(Sv (({data := #[57]} : ByteArray)))]), (1, [(Sv (({data := #[53]} : ByteArray)))]), (2, [(Sv (({data := #[49, 54]} : ByteArray)))])] (Gd.yes rfl rfl rfl) f88_ f86_ rfl rfl rfl ?_
 refine o_build [(Nv 4), (Nv 3), (Sv (({data := #[57]} : ByteArray))), (Sv (({data := #[53]} : ByteArray))), (Sv (({data := #[49, 54]} : ByteArray))), (Sv (({data := #[48]} : ByteArray)))] [(0, [(Nv 4)]), (1, [(Nv 3)]), (2, [(Sv (({data := #[57]} : ByteArray))), (Sv (({data := #[53]} : ByteArray))), (Sv (({data := #[49, 54]} : ByteArray)))]), (3, [(Sv (({data := #[48]} : ByteArray)))])] (Gd.yes rfl rfl rfl) f107_ f104_ rfl rfl rfl ?_
 refine o_eqlA [.int .i64 (ex3.steps), .int .i64 (ex3.rest), .string (ex3.lmul), .string (ex3.ladd), .string (ex3.ldiv), .string (ex3.bound)] [.int .i64 ((4 : Nat) : Int), .int .i64 ((3 : Nat) : Int), .string (({data := #[57]} : ByteArray)), .string (({data := #[53]} : ByteArray)), .string (({data := #[49, 54]} : ByteArray)), .string (({data := #[48]} : ByteArray))] ((ex3.steps) = ((4 : Nat) : Int) ∧ (ex3.rest) = ((3 : Nat) : Int) ∧ (ex3.lmul) = (({data := #[57]} : ByteArray)) ∧ (ex3.ladd) = (({data := #[53]} : ByteArray)) ∧ (ex3.ldiv) = (({data := #[49, 54]} : ByteArray)) ∧ (ex3.bound) = (({data := #[48]} : ByteArray))) (Gd.yes rfl rfl rfl) rfl rfl (eq_api_Fall _ _ _ _ _ _ _ _ _ _ _ _) ?_
 refine n_as (v' := Tv) (by exact bpy (by first | rfl | decide)) ?_
 refine o_pickT Tv Gd.none rfl rfl rfl ?_
 refine o_as Tv rfl ?_
 refine aops_end ?_
 refine hK4 _ ?_
 refine awp_ret ?_
 refine post_ret ⟨[Tv], ⟨(AV.le_refl _), trivial⟩, rfl, ?_⟩
 rfl

end Go.Proofs.YtjbaamfahkjhgaaGreatDoor

set_option linter.unusedVariables false
set_option linter.unusedSimpArgs false
namespace Go.Proofs.YtjbaamfahkjhgaaGreatDoor
open Go Go.Ab Go.Mth
theorem f163_ : callable cx.P 9 = true := by kernel_rfl
theorem f164_ : callable cx.P 11 = true := by kernel_rfl
theorem f165_ : callable cx.P 13 = true := by kernel_rfl
theorem f166_ : callable cx.P 18 = true := by kernel_rfl
theorem f167_ : callable cx.P 14 = true := by kernel_rfl
theorem f168_ : callable cx.P 20 = true := by kernel_rfl
theorem f169_ : callable cx.P 19 = true := by kernel_rfl
theorem c_SieveFinds (m : MapM) (n : ByteArray) (k : Int) (hn : n.size ≤ 9223372036854775807) (h1m : m.mul.length ≤ 17592186044416) (h2m : m.add.length ≤ 17592186044416) (hkb : -9223372036854775808 ≤ k ∧ k ≤ 9223372036854775807) : ECalls cx 4 [(mapV m), (Sv n), (Iv k)] (.lit (.bool true)) := by
 refine ecalls_of_awp Tryz.func4 (c := _) rfl (Nat.le_of_ble_eq_true rfl) ?_
 show awp cx 93 _ (postF cx Tryz.f4 _) ⟨[(0, (mapV m)), (1, (Sv n)), (2, (Iv k))], []⟩
 refine awp_seq fun K0 hK0 => ?_
 refine awp_region rfl ?_
 refine o_box 2 [(Iv m.mod), (Lv m.mul), (Lv m.add)] Gd.none rfl rfl ?_
 refine o_as Fv rfl ?_
 refine aops_end ?_
 refine hK0 _ ?_
 refine awp_seq fun K1 hK1 => ?_
 refine awp_region rfl ?_
 refine o_loadA [(Iv m.mod), (Lv m.mul), (Lv m.add)] Gd.none f64_ rfl rfl rfl rfl rfl ?_
 refine o_ct (c_gTwin m (by omega) (by omega)) Gd.none f163_ rfl ?_
 refine o_alloc 3 [(Nv 0), Zv, Zv] Gd.none f68_ rfl rfl rfl ?_
 refine o_store [(3, (oM 24 m)), (2, (oM 24 m))] Gd.none f70_ rfl rfl rfl rfl rfl rfl ?_
 refine aops_end ?_
 refine hK1 _ ?_
 refine awp_seq fun K2 hK2 => ?_
 refine awp_region rfl ?_
 refine o_loadA [(Iv m.mod), (Lv m.mul), (Lv m.add)] Gd.none f64_ rfl rfl rfl rfl rfl ?_
 refine o_mv (Sv n) rfl ?_
 refine o_mv (Iv k) rfl ?_
 refine o_ct (c_sFind m n k (by first | assumption | decide | omega) (by first | assumption | decide | omega)) Gd.none f160_ rfl ?_
 refine o_mv (.tup [(falV (fdF m n k)), (bp (fdB m n k)), (Nv (fdE m n k))]) rfl ?_
 refine o_extract (falV (fdF m n k)) Gd.none rfl rfl ?_
 refine o_extract (bp (fdB m n k)) Gd.none rfl rfl ?_
 refine o_extract (Nv (fdE m n k)) Gd.none rfl rfl ?_
 refine o_alloc 4 [(Nv 0), (Nv 0), (Sv Ev), (Sv Ev), (Sv Ev), (Sv Ev)] Gd.none f104_ rfl rfl rfl ?_
 refine o_store [(4, (.var 40 [(Iv ((fdF m n k).steps)), (Iv ((fdF m n k).rest)), (Sv ((fdF m n k).lmul)), (Sv ((fdF m n k).ladd)), (Sv ((fdF m n k).ldiv)), (Sv ((fdF m n k).bound))])), (3, (oM 24 m)), (2, (oM 24 m))] Gd.none f108_ rfl rfl rfl rfl rfl rfl ?_
 refine o_as (bp (fdB m n k)) rfl ?_
 refine o_as (Nv (fdE m n k)) rfl ?_
 refine aops_end ?_
 refine hK2 _ ?_
 refine awp_seq fun K3 hK3 => ?_
 refine awp_block ?_
 refine awp_seq fun K4 hK4 => ?_
 refine awp_region rfl ?_
 refine o_loadA [(Iv m.mod), (Lv m.mul), (Lv m.add)] Gd.none f64_ rfl rfl rfl rfl rfl ?_
 refine o_loadA [(Iv m.mod), (Lv m.mul), (Lv m.add)] Gd.none f64_ rfl rfl rfl rfl rfl ?_
 refine o_ct (c_gSame m m) Gd.none f164_ rfl ?_
 refine o_notP (q := m = m) Gd.none rfl ?_
 refine o_as (bp (¬ (m = m))) rfl ?_
 refine aops_end ?_
 refine hK4 _ ?_
 refine awp_condB (b := decide (¬ (m = m))) rfl (fun hh => absurd (hh.symm.trans (decide_eq_false (fun h => h rfl))) (by decide)) (fun _ => ?_)
 refine awp_seq fun K5 hK5 => ?_
 refine awp_region rfl ?_
 refine o_loadA [(Iv m.mod), (Lv m.mul), (Lv m.add)] Gd.none f64_ rfl rfl rfl rfl rfl ?_
 refine o_ct (c_gValid m) Gd.none f118_ rfl ?_
 refine o_not (b := okM m) Gd.none rfl ?_
 refine o_mv (.lit (.bool (!(okM m)))) rfl ?_
 refine o_split (b := !(okM m)) 32 rfl (fun h1 => ?_) (fun h1 => ?_)
 ·refine o_skip rfl rfl h1 ?_
  refine o_skip rfl rfl h1 ?_
  refine o_skip rfl rfl h1 ?_
  refine o_pickT Tv Gd.none rfl h1 rfl ?_
  refine o_as Tv rfl ?_
  refine aops_end ?_
  refine hK5 _ ?_
  refine awp_condB (b := true) rfl (fun _ => ?_) (fun hh => absurd (hh.symm.trans rfl) (by decide))
  refine awp_seq fun K6 hK6 => ?_
  have hd := fd_1 (m := m) (a := n) (k := k) (fun e => by have q := h1; rw [e.1] at q; exact absurd q (by decide))
  refine awp_region rfl ?_
  refine o_loadA [(Iv ((fdF m n k).steps)), (Iv ((fdF m n k).rest)), (Sv ((fdF m n k).lmul)), (Sv ((fdF m n k).ladd)), (Sv ((fdF m n k).ldiv)), (Sv ((fdF m n k).bound))] Gd.none f109_ rfl rfl rfl rfl rfl ?_
  refine o_build [(Nv 0), (Nv 0), (Sv Ev), (Sv Ev), (Sv Ev), (Sv Ev)] [] Gd.none f107_ f104_ rfl rfl rfl ?_
  refine o_eqlA [.int .i64 ((fdF m n k).steps), .int .i64 ((fdF m n k).rest), .string ((fdF m n k).lmul), .string ((fdF m n k).ladd), .string ((fdF m n k).ldiv), .string ((fdF m n k).bound)] [.int .i64 ((0 : Nat) : Int), .int .i64 ((0 : Nat) : Int), .string Ev, .string Ev, .string Ev, .string Ev] (((fdF m n k).steps) = ((0 : Nat) : Int) ∧ ((fdF m n k).rest) = ((0 : Nat) : Int) ∧ ((fdF m n k).lmul) = Ev ∧ ((fdF m n k).ladd) = Ev ∧ ((fdF m n k).ldiv) = Ev ∧ ((fdF m n k).bound) = Ev) Gd.none rfl rfl (eq_api_Fall _ _ _ _ _ _ _ _ _ _ _ _) ?_
  refine n_as (v' := Tv) (by exact bpy (by rw [hd.2.1]; exact ⟨rfl, rfl, rfl, rfl, rfl, rfl⟩)) ?_
  refine o_mv Tv rfl ?_
  refine o_move (bp (fdB m n k)) (Gd.yes rfl rfl rfl) rfl ?_
  refine n_as (v' := Fv) (by exact bpn hd.2.2) ?_
  refine o_not (b := false) (Gd.yes rfl rfl rfl) rfl ?_
  refine o_pickT Tv Gd.none rfl rfl rfl ?_
  refine o_mv Tv rfl ?_
  refine o_move (Nv (fdE m n k)) (Gd.yes rfl rfl rfl) rfl ?_
  refine n_as (v' := (Nv 1)) (by exact congrArg (nm _) hd.1) ?_
  refine n_eql 1 1 (Gd.yes rfl rfl rfl) rfl rfl ?_
  refine n_as (v' := Tv) (by exact bpy rfl) ?_
  refine o_pickT Tv Gd.none rfl rfl rfl ?_
  refine o_mv Tv rfl ?_
  refine o_ct c_awake4 (Gd.yes rfl rfl rfl) f165_ rfl ?_
  refine o_pickT Tv Gd.none rfl rfl rfl ?_
  refine o_as Tv rfl ?_
  refine aops_end ?_
  refine hK6 _ ?_
  refine awp_ret ?_
  refine post_ret ⟨[Tv], ⟨(AV.le_refl _), trivial⟩, rfl, ?_⟩
  first | rfl | trace_state; fail
 ·refine o_move (Sv n) (Gd.yes rfl rfl h1) rfl ?_
  refine o_ct (c_rValid n (by first | assumption | decide | omega)) (Gd.yes rfl rfl h1) f166_ rfl ?_
  refine o_not (b := okS n) (Gd.yes rfl rfl h1) rfl ?_
  refine o_pickF (.lit (.bool (!(okS n)))) Gd.none rfl h1 rfl ?_
  refine o_as (.lit (.bool (!(okS n)))) rfl ?_
  refine aops_end ?_
  refine hK5 _ ?_
  refine awp_condB (b := !(okS n)) rfl (fun h2 => ?_) (fun h2 => ?_)
  ·refine awp_seq fun K7 hK7 => ?_
   have hd := fd_1 (m := m) (a := n) (k := k) (fun e => by have q := h2; rw [e.2] at q; exact absurd q (by decide))
   refine awp_region rfl ?_
   refine o_loadA [(Iv ((fdF m n k).steps)), (Iv ((fdF m n k).rest)), (Sv ((fdF m n k).lmul)), (Sv ((fdF m n k).ladd)), (Sv ((fdF m n k).ldiv)), (Sv ((fdF m n k).bound))] Gd.none f109_ rfl rfl rfl rfl rfl ?_
   refine o_build [(Nv 0), (Nv 0), (Sv Ev), (Sv Ev), (Sv Ev), (Sv Ev)] [] Gd.none f107_ f104_ rfl rfl rfl ?_
   refine o_eqlA [.int .i64 ((fdF m n k).steps), .int .i64 ((fdF m n k).rest), .string ((fdF m n k).lmul), .string ((fdF m n k).ladd), .string ((fdF m n k).ldiv), .string ((fdF m n k).bound)] [.int .i64 ((0 : Nat) : Int), .int .i64 ((0 : Nat) : Int), .string Ev, .string Ev, .string Ev, .string Ev] (((fdF m n k).steps) = ((0 : Nat) : Int) ∧ ((fdF m n k).rest) = ((0 : Nat) : Int) ∧ ((fdF m n k).lmul) = Ev ∧ ((fdF m n k).ladd) = Ev ∧ ((fdF m n k).ldiv) = Ev ∧ ((fdF m n k).bound) = Ev) Gd.none rfl rfl (eq_api_Fall _ _ _ _ _ _ _ _ _ _ _ _) ?_
   refine n_as (v' := Tv) (by exact bpy (by rw [hd.2.1]; exact ⟨rfl, rfl, rfl, rfl, rfl, rfl⟩)) ?_
   refine o_mv Tv rfl ?_
   refine o_move (bp (fdB m n k)) (Gd.yes rfl rfl rfl) rfl ?_
   refine n_as (v' := Fv) (by exact bpn hd.2.2) ?_
   refine o_not (b := false) (Gd.yes rfl rfl rfl) rfl ?_
   refine o_pickT Tv Gd.none rfl rfl rfl ?_
   refine o_mv Tv rfl ?_
   refine o_move (Nv (fdE m n k)) (Gd.yes rfl rfl rfl) rfl ?_
   refine n_as (v' := (Nv 1)) (by exact congrArg (nm _) hd.1) ?_
   refine n_eql 1 1 (Gd.yes rfl rfl rfl) rfl rfl ?_
   refine n_as (v' := Tv) (by exact bpy rfl) ?_
   refine o_pickT Tv Gd.none rfl rfl rfl ?_
   refine o_mv Tv rfl ?_
   refine o_ct c_awake4 (Gd.yes rfl rfl rfl) f165_ rfl ?_
   refine o_pickT Tv Gd.none rfl rfl rfl ?_
   refine o_as Tv rfl ?_
   refine aops_end ?_
   refine hK7 _ ?_
   refine awp_ret ?_
   refine post_ret ⟨[Tv], ⟨(AV.le_refl _), trivial⟩, rfl, ?_⟩
   first | rfl | trace_state; fail
  ·refine awp_seq fun K8 hK8 => ?_
   refine awp_region rfl ?_
   refine o_loadA [(Iv m.mod), (Lv m.mul), (Lv m.add)] Gd.none f64_ rfl rfl rfl rfl rfl ?_
   refine o_mv (Iv k) rfl ?_
   refine o_ct (c_may m k (by first | assumption | omega)) Gd.none f167_ rfl ?_
   refine o_notP (q := okM m = true ∧ mayS m k) Gd.none rfl ?_
   refine o_as (bp (¬ (okM m = true ∧ mayS m k))) rfl ?_
   refine aops_end ?_
   refine hK8 _ ?_
   refine awp_condQ (q := ¬ (okM m = true ∧ mayS m k)) rfl (fun h3 => ?_) (fun h3 => ?_)
   ·refine awp_seq fun K9 hK9 => ?_
    have hM : okM m = true := by have q := h1; simpa using q
    have ho : okS n = true := by have q := h2; simpa using q
    have hnm : ¬ mayS m k := fun e => absurd (show okM m = true ∧ mayS m k from ⟨hM, e⟩) (by assumption)
    have hc := chk_2 (m := m) (k := k) hM hnm
    have hd := fd_2 (m := m) (a := n) (k := k) ⟨hM, ho⟩ (by rw [hc]; decide)
    rw [hc] at hd
    refine awp_region rfl ?_
    refine o_loadA [(Iv ((fdF m n k).steps)), (Iv ((fdF m n k).rest)), (Sv ((fdF m n k).lmul)), (Sv ((fdF m n k).ladd)), (Sv ((fdF m n k).ldiv)), (Sv ((fdF m n k).bound))] Gd.none f109_ rfl rfl rfl rfl rfl ?_
    refine o_build [(Nv 0), (Nv 0), (Sv Ev), (Sv Ev), (Sv Ev), (Sv Ev)] [] Gd.none f107_ f104_ rfl rfl rfl ?_
    refine o_eqlA [.int .i64 ((fdF m n k).steps), .int .i64 ((fdF m n k).rest), .string ((fdF m n k).lmul), .string ((fdF m n k).ladd), .string ((fdF m n k).ldiv), .string ((fdF m n k).bound)] [.int .i64 ((0 : Nat) : Int), .int .i64 ((0 : Nat) : Int), .string Ev, .string Ev, .string Ev, .string Ev] (((fdF m n k).steps) = ((0 : Nat) : Int) ∧ ((fdF m n k).rest) = ((0 : Nat) : Int) ∧ ((fdF m n k).lmul) = Ev ∧ ((fdF m n k).ladd) = Ev ∧ ((fdF m n k).ldiv) = Ev ∧ ((fdF m n k).bound) = Ev) Gd.none rfl rfl (eq_api_Fall _ _ _ _ _ _ _ _ _ _ _ _) ?_
    refine n_as (v' := Tv) (by exact bpy (by rw [hd.2.1]; exact ⟨rfl, rfl, rfl, rfl, rfl, rfl⟩)) ?_
    refine o_mv Tv rfl ?_
    refine o_move (bp (fdB m n k)) (Gd.yes rfl rfl rfl) rfl ?_
    refine n_as (v' := Fv) (by exact bpn hd.2.2) ?_
    refine o_not (b := false) (Gd.yes rfl rfl rfl) rfl ?_
    refine o_pickT Tv Gd.none rfl rfl rfl ?_
    refine o_mv Tv rfl ?_
    refine o_move (Nv (fdE m n k)) (Gd.yes rfl rfl rfl) rfl ?_
    refine n_as (v' := (Nv 2)) (by exact congrArg (nm _) hd.1) ?_
    refine n_eql 2 2 (Gd.yes rfl rfl rfl) rfl rfl ?_
    refine n_as (v' := Tv) (by exact bpy rfl) ?_
    refine o_pickT Tv Gd.none rfl rfl rfl ?_
    refine o_mv Tv rfl ?_
    refine o_ct c_awake4 (Gd.yes rfl rfl rfl) f165_ rfl ?_
    refine o_pickT Tv Gd.none rfl rfl rfl ?_
    refine o_as Tv rfl ?_
    refine aops_end ?_
    refine hK9 _ ?_
    refine awp_ret ?_
    refine post_ret ⟨[Tv], ⟨(AV.le_refl _), trivial⟩, rfl, ?_⟩
    first | rfl | trace_state; fail
   ·refine awp_skip ?_
    refine hK3 _ ?_
    refine awp_seq fun K10 hK10 => ?_
    have hM : okM m = true := by have q := h1; simpa using q
    have ho : okS n = true := by have q := h2; simpa using q
    have hmy : mayS m k := (Decidable.not_not.1 (show ¬ ¬ (okM m = true ∧ mayS m k) by assumption)).2
    have hd := fd_0 (m := m) (a := n) (k := k) ⟨hM, ho⟩ hmy
    have hOM := okM_iff.1 hM
    have hnl := len_numS (okS_iff.1 ho)
    refine awp_regionD rfl ?_
    refine o_loadA [(Iv m.mod), (Lv m.mul), (Lv m.add)] Gd.none f64_ rfl rfl rfl rfl rfl ?_
    refine o_mv (Sv n) rfl ?_
    refine o_ct (c_rParse n (by first | assumption | exact okS_iff.1 (by assumption))) Gd.none f168_ rfl ?_
    refine o_mv (Iv k) rfl ?_
    refine o_ct (c_vFind m (numS n) k (by first | assumption | exact okM_iff.1 (by assumption)) (by assumption) (by first | omega | assumption | (simp only [Int.natAbs_neg]; omega))) Gd.none f169_ rfl ?_
    refine o_mv (.tup [(falV (fndF m (numS n) k.toNat)), (bp (fndB m (numS n) k.toNat))]) rfl ?_
    refine o_extract (falV (fndF m (numS n) k.toNat)) Gd.none rfl rfl ?_
    refine o_extract (bp (fndB m (numS n) k.toNat)) Gd.none rfl rfl ?_
    refine o_alloc 5 [(Nv 0), (Nv 0), (Sv Ev), (Sv Ev), (Sv Ev), (Sv Ev)] Gd.none f104_ rfl rfl rfl ?_
    refine o_store [(5, (.var 40 [(Iv ((fndF m (numS n) k.toNat).steps)), (Iv ((fndF m (numS n) k.toNat).rest)), (Sv ((fndF m (numS n) k.toNat).lmul)), (Sv ((fndF m (numS n) k.toNat).ladd)), (Sv ((fndF m (numS n) k.toNat).ldiv)), (Sv ((fndF m (numS n) k.toNat).bound))])), (4, (.var 40 [(Iv ((fdF m n k).steps)), (Iv ((fdF m n k).rest)), (Sv ((fdF m n k).lmul)), (Sv ((fdF m n k).ladd)), (Sv ((fdF m n k).ldiv)), (Sv ((fdF m n k).bound))])), (3, (oM 24 m)), (2, (oM 24 m))] Gd.none f108_ rfl rfl rfl rfl rfl rfl ?_
    refine o_as (bp (fndB m (numS n) k.toNat)) rfl ?_
    refine aops_end ⟨by kernel_rfl, ?_⟩
    refine hK10 _ ?_
    refine awp_seq fun K11 hK11 => ?_
    refine awp_region rfl ?_
    refine o_mv (Nv (fdE m n k)) rfl ?_
    refine n_as (v' := (Nv 0)) (by exact congrArg (nm _) hd.1) ?_
    refine n_eql 0 0 Gd.none rfl rfl ?_
    refine n_as (v' := Tv) (by exact bpy rfl) ?_
    refine o_mv Tv rfl ?_
    refine o_move (bp (fdB m n k)) (Gd.yes rfl rfl rfl) rfl ?_
    refine n_as (v' := (bp (fndB m (numS n) k.toNat))) (by exact bpc hd.2.2) ?_
    refine o_move (bp (fndB m (numS n) k.toNat)) (Gd.yes rfl rfl rfl) rfl ?_
    refine o_eqlB (a := (decide (fndB m (numS n) k.toNat))) (c := (decide (fndB m (numS n) k.toNat))) (Gd.yes rfl rfl rfl) rfl rfl f30_ ?_
    refine n_as (v' := Tv) (by exact bpy rfl) ?_
    refine o_pickT Tv Gd.none rfl rfl rfl ?_
    refine o_mv Tv rfl ?_
    refine o_loadA [(Iv ((fdF m n k).steps)), (Iv ((fdF m n k).rest)), (Sv ((fdF m n k).lmul)), (Sv ((fdF m n k).ladd)), (Sv ((fdF m n k).ldiv)), (Sv ((fdF m n k).bound))] (Gd.yes rfl rfl rfl) f109_ rfl rfl rfl rfl rfl ?_
    refine o_loadA [(Iv ((fndF m (numS n) k.toNat).steps)), (Iv ((fndF m (numS n) k.toNat).rest)), (Sv ((fndF m (numS n) k.toNat).lmul)), (Sv ((fndF m (numS n) k.toNat).ladd)), (Sv ((fndF m (numS n) k.toNat).ldiv)), (Sv ((fndF m (numS n) k.toNat).bound))] (Gd.yes rfl rfl rfl) f109_ rfl rfl rfl rfl rfl ?_
    refine o_eqlA [.int .i64 ((fdF m n k).steps), .int .i64 ((fdF m n k).rest), .string ((fdF m n k).lmul), .string ((fdF m n k).ladd), .string ((fdF m n k).ldiv), .string ((fdF m n k).bound)] [.int .i64 ((fndF m (numS n) k.toNat).steps), .int .i64 ((fndF m (numS n) k.toNat).rest), .string ((fndF m (numS n) k.toNat).lmul), .string ((fndF m (numS n) k.toNat).ladd), .string ((fndF m (numS n) k.toNat).ldiv), .string ((fndF m (numS n) k.toNat).bound)] (((fdF m n k).steps) = ((fndF m (numS n) k.toNat).steps) ∧ ((fdF m n k).rest) = ((fndF m (numS n) k.toNat).rest) ∧ ((fdF m n k).lmul) = ((fndF m (numS n) k.toNat).lmul) ∧ ((fdF m n k).ladd) = ((fndF m (numS n) k.toNat).ladd) ∧ ((fdF m n k).ldiv) = ((fndF m (numS n) k.toNat).ldiv) ∧ ((fdF m n k).bound) = ((fndF m (numS n) k.toNat).bound)) (Gd.yes rfl rfl rfl) rfl rfl (eq_api_Fall _ _ _ _ _ _ _ _ _ _ _ _) ?_
    refine n_as (v' := Tv) (by exact bpy (by rw [hd.2.1]; exact ⟨rfl, rfl, rfl, rfl, rfl, rfl⟩)) ?_
    refine o_pickT Tv Gd.none rfl rfl rfl ?_
    refine o_mv Tv rfl ?_
    refine o_ct c_awake4 (Gd.yes rfl rfl rfl) f165_ rfl ?_
    refine o_pickT Tv Gd.none rfl rfl rfl ?_
    refine o_as Tv rfl ?_
    refine aops_end ?_
    refine hK11 _ ?_
    refine awp_ret ?_
    refine post_ret ⟨[Tv], ⟨(AV.le_refl _), trivial⟩, rfl, ?_⟩
    first | rfl | trace_state; fail

end Go.Proofs.YtjbaamfahkjhgaaGreatDoor

set_option linter.unusedVariables false
namespace Go.Proofs.YtjbaamfahkjhgaaGreatDoor.sieveFinds
open Go Go.Ab Go.Mth Go.ChangeShapes Go.WideShapes Go.ChangeAt Go.RowKit
theorem reads (os : Os) {H : Type} (enc : TypeId × Value → H) : ∃ places, DataW.whole enc Tryz.prog ((World.laidAll Tryz.prog os laid5).forCall (fun _ _ => 0) ⟨#[], #[.agg #[.int .i64 0, .slice none 0 0, .slice none 0 0], .string ByteArray.empty, .int .i64 0], []⟩).memory Tryz.f4.params.toList Rows.sieveFindsSpec.vars false (#[.agg #[.int .i64 0, .slice none 0 0, .slice none 0 0], .string ByteArray.empty, .int .i64 0] : Array Value).toList 8 = some ([.agg [.lit (.int .i64 0), .nil, .nil], .lit (.string []), .lit (.int .i64 0)], [], places) := ⟨[], by kernel_rfl⟩
theorem met (os : Os) : laidMetH Tryz.prog laid5 ((World.laidAll Tryz.prog os laid5).forCall (fun _ _ => 0) ⟨#[], #[.agg #[.int .i64 0, .slice none 0 0, .slice none 0 0], .string ByteArray.empty, .int .i64 0], []⟩).memory := (MakeChecks.laidMetH_plain _ _ _ (by kernel_rfl)).mpr (laidMet_laidAll _ (by kernel_rfl) (by kernel_rfl))
theorem specs {H : Type} (ds : List (DataW H)) (h : ds.length = 3) : (Rows.sieveFindsSpec.fn H ds).results = [.lit (.bool true)] ∧ (Rows.sieveFindsSpec.fn H ds).args = ds ∧ (Rows.sieveFindsSpec.fn H ds).vars = [] := by
  rcases ds with _ | ⟨d0, _ | ⟨d1, _ | ⟨d2, _ | ⟨e, t⟩⟩⟩⟩ <;> simp at h <;> exact ⟨rfl, rfl, rfl⟩
set_option maxRecDepth 100000 in
theorem opened {H : Type} (enc : TypeId × Value → H) (W : World) (base : Nat) (args : Array Value) (ds : List (DataW H)) (ps : List MemPlace) (hval : ∀ (j : Nat) t v, (#[24, 9, 3] : Array TypeId)[j]? = some t → args[j]? = some v → Value.okWide Tryz.prog W .any base t v)
    (hA : DataW.TrodAll enc Tryz.prog W 0 (fun _ => true) true [24, 9, 3] args.toList ds ps) (hsz : (DataW.weightsEach Tryz.prog [24, 9, 3] ds).all (· ≤ reachBytes) = true) : ∃ xs, RepL (memOf W) xs noLoc args.toList ∧ ECalls cx 4 xs (.lit (.bool true)) := by
  obtain ⟨v0, vs0, d0, ds0, p0, q0, hargs, rfl, rfl, h0, r0⟩ := trodAll_cons hA
  obtain ⟨v1, vs1, d1, ds1, p1, q1, rfl, rfl, rfl, h1, r1⟩ := trodAll_cons r0
  obtain ⟨v2, vs2, d2, ds2, p2, q2, rfl, rfl, rfl, h2, r2⟩ := trodAll_cons r1
  obtain ⟨rfl, rfl, rfl⟩ := trodAll_nil r2
  obtain rfl : args = #[v0, v1, v2] := by cases args; simp_all
  obtain ⟨m0, e0, b0, c0⟩ := rep_map (hval 0 24 v0 rfl rfl) h0 (fun n hn => by simpa using List.all_eq_true.1 hsz n (DataW.weights_mem_each (j := 0) rfl rfl n hn))
  obtain ⟨a1, e1, b1⟩ := rep_str (hval 1 9 v1 rfl rfl) h1
  obtain ⟨k2, e2, b2⟩ := rep_int (hval 2 3 v2 rfl rfl) h2
  exact ⟨[mapV m0, .lit (.string a1), .lit (.int .i64 k2)], RepL.cons e0 (RepL.cons e1 (RepL.cons e2 (by simp only [RepL]))), c_SieveFinds m0 a1 k2 b1 b0 c0 b2⟩
set_option maxRecDepth 100000 in
theorem lifted (os : Os) (started : os.Started) (H : Type) (enc : TypeId × Value → H) (F : Stop.Interp) :
    ReturnsInHanded {} Tryz.checked os 4 .any ((OpenSpec.ofChange Rows.sieveFindsSpec).preRow enc Tryz.prog Tryz.f4 Rows.sieveFindsRow.domain false Rows.sieveFindsRow.laid) (((OpenSpec.ofChange Rows.sieveFindsSpec).at F).post enc Tryz.prog Tryz.f4 false true false false) := by
  obtain ⟨places, hx⟩ := reads os enc
  refine lifted_of (C := Tryz.checked) started cx rfl ownT (by kernel_rfl) Tryz.func4 (witness_laid #[.agg #[.int .i64 0, .slice none 0 0, .slice none 0 0], .string ByteArray.empty, .int .i64 0] (by kernel_rfl) (by kernel_rfl) (by kernel_rfl) (OpenSpec.preRow_of_cond 8 hx (by kernel_rfl) (fun k hk => by cases hk) (by kernel_rfl) (met os))) laidOutT (by kernel_rfl) (tb := 4) (by kernel_rfl) u4T rfl (fun ds h => specs ds (h.trans (by kernel_rfl))) (fun W h => tabG_of h) ?_
  intro W base args ds ps hval hA hsz
  exact opened enc W base args ds ps hval hA hsz
theorem said : Rows.SieveFindsSaid :=
  OpenClaim.holds_of_cond 4 Tryz.f4 rfl rfl rfl rfl rfl rfl rfl ⟨rfl, rfl, rfl, rfl, rfl⟩ rfl rfl rfl rfl rfl (by kernel_rfl) Tryz.func4 (by kernel_rfl)
    (of_decide_eq_true (by kernel_rfl)) (by unfold Func.isWrapper; first | (rw [if_pos (by decide +kernel)]; kernel_rfl) | (rw [if_neg (by decide +kernel)]; exact ⟨rfl, rfl⟩))
    (fun os started H enc _ F => by rw [OpenClaim.pre_eq_preRow]; exact lifted os started H enc F)
theorem plain (f : FuncId) (fn : Func) (hf : Tryz.pinned.checked.prog.funcNamed "katabasis/katabasislaw04.SieveFinds" = some f) (hfn : Tryz.pinned.checked.prog.funcs[f]? = some fn) :
    true = Tryz.pinned.checked.prog.looks [] ∧ ∀ (j : Nat) t, fn.params[j]? = some t → Tryz.pinned.checked.prog.wantsStandIn t = false := by
  obtain rfl : f = 4 := Option.some.inj ((show Tryz.prog.funcNamed "katabasis/katabasislaw04.SieveFinds" = some 4 by kernel_rfl).symm.trans hf) |>.symm
  obtain rfl : fn = Tryz.f4 := (Option.some.inj (Tryz.func4.symm.trans hfn)).symm
  refine ⟨by kernel_rfl, fun j t ht => ?_⟩
  rw [Tryz.params4] at ht
  have : t = 24 ∨ t = 9 ∨ t = 3 := by have h := Array.mem_of_getElem? ht; simp at h; first | exact h | (rcases h with h | h | h | h <;> simp [h]) | (rcases h with h | h | h <;> simp [h]) | (rcases h with h | h <;> simp [h])
  rcases this with rfl | rfl | rfl
  · exact (show Tryz.prog.wantsStandIn 24 = false by kernel_rfl)
  · exact (show Tryz.prog.wantsStandIn 9 = false by kernel_rfl)
  · exact (show Tryz.prog.wantsStandIn 3 = false by kernel_rfl)
end Go.Proofs.YtjbaamfahkjhgaaGreatDoor.sieveFinds
namespace Go.Proofs.YtjbaamfahkjhgaaGreatDoor
open Go
theorem sieveFinds_holds : Rows.SieveFindsCardSaid :=
  Claim7.holds_tied_plain_at .later [] _ _ _ _ sieveFinds.said (fun _ h => by cases h) (by kernel_rfl) (fun _ h => by cases h) sieveFinds_row_tie rfl ⟨rfl, rfl⟩ (by kernel_rfl) rfl sieveFinds.plain (by kernel_rfl)
#print axioms sieveFinds_holds
end Go.Proofs.YtjbaamfahkjhgaaGreatDoor

