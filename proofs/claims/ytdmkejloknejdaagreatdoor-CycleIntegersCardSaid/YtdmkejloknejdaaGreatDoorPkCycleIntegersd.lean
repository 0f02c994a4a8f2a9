/- What the proof of a row of this seat leans on (part 4 of 5): a library of abstract values, walks of functions, and plain laws. -/
import Derived.Shelf.LaysM
import Derived.Shelf.LaysC
import Derived.Shelf.SlSortCmp.Whole1
import Derived.Shelf.SlSortCmp.NoneTotal
import Derived.Ground.SlsfProg
import Derived.Test.YtdmkejloknejdaaGreatDoorProg
import Derived.Lib.QuietBelow
import Derived.Test.YtdmkejloknejdaaGreatDoorPkCycleIntegersc
set_option linter.unusedVariables false
set_option linter.unusedSimpArgs false
namespace Go.Mth
open Go.Ab
def linK (k : IntKind) (l : LinZ) : AV := .agg [bp (l.mul < 0), .sl 1 (ns k (digs l.mul.natAbs)), bp (l.add < 0), .sl 1 (ns k (digs l.add.natAbs)), bp (l.div < 0), .sl 1 (ns k (digs l.div.natAbs))]
def linW (l : LinZ) : AV := linK .u32 l
def linR (l : LinZ) : AV := linK .i64 l
theorem linK_eq {k : IntKind} {l : LinZ} {a b c : Int} (h1 : l.mul = a) (h2 : l.add = b) (h3 : l.div = c) : linK k l = .agg [bp (a < 0), .sl 1 (ns k (digs a.natAbs)), bp (b < 0), .sl 1 (ns k (digs b.natAbs)), bp (c < 0), .sl 1 (ns k (digs c.natAbs))] := by subst h1; subst h2; subst h3; rfl
structure LineS where
 mul : ByteArray
 add : ByteArray
 div : ByteArray
def lineV (l : LineS) : AV := .agg [.lit (.string l.mul), .lit (.string l.add), .lit (.string l.div)]
def noS : ByteArray := { data := #[] }
def lineT (l : LinZ) : LineS := ⟨txt l.mul, txt l.add, txt l.div⟩
def OkW (m : MapM) (w : List Int) : Prop := IsW m w ∧ w.length ≤ 200
noncomputable instance (m : MapM) (w : List Int) : Decidable (OkW m w) := Classical.propDecidable _
def FitK (m : MapM) (z : Int) (k : Nat) : Prop := ∀ j, j < k → Fit (iterZ m j z)
noncomputable instance (m : MapM) (z : Int) (k : Nat) : Decidable (FitK m z k) := Classical.propDecidable _
noncomputable def wordE (m : MapM) (a : ByteArray) (K : Int) : Nat := if okM m = true ∧ okS a = true then if 0 ≤ K ∧ K ≤ 200 then if FitK m (numS a) K.toNat then 0 else 3 else 2 else 1
noncomputable def wordL (m : MapM) (a : ByteArray) (K : Int) : List Int := if wordE m a K = 0 then wordZ m (numS a) K.toNat else []
noncomputable def lineE (m : MapM) (w : List Int) : Nat := if okM m = true then if OkW m w then 0 else 2 else 1
noncomputable def lineS (m : MapM) (w : List Int) : LineS := if okM m = true ∧ OkW m w then lineT (lineZ m w) else ⟨noS, noS, noS⟩
noncomputable def restE (m : MapM) (w : List Int) : Nat := if okM m = true then if OkW m w ∧ freeM m then 0 else 2 else 1
noncomputable def restS (m : MapM) (w : List Int) : ByteArray := if okM m = true ∧ OkW m w ∧ freeM m then txt (restZ m w).1 else noS
noncomputable def restD (m : MapM) (w : List Int) : ByteArray := if okM m = true ∧ OkW m w ∧ freeM m then txt (m.mod ^ w.length) else noS
noncomputable def okL (l : LineS) : Bool := okS l.mul && okS l.add && okS l.div
noncomputable def appV (l : LineS) (a : ByteArray) : Int := numS l.mul * numS a + numS l.add
noncomputable def appE (l : LineS) (a : ByteArray) : Nat := if okL l = true ∧ okS a = true then if 0 < numS l.div then if Fit (appV l a) then 0 else 3 else 2 else 1
def AppB (l : LineS) (a : ByteArray) : Prop := okL l = true ∧ okS a = true ∧ 0 < numS l.div ∧ Fit (appV l a) ∧ appV l a % numS l.div = 0
noncomputable instance (l : LineS) (a : ByteArray) : Decidable (AppB l a) := Classical.propDecidable _
noncomputable def appS (l : LineS) (a : ByteArray) : ByteArray := if AppB l a then txt (appV l a / numS l.div) else noS
theorem line_len {m : MapM} (hm : OkM m) : ∀ w : List Int, IsW m w → (digs (lineZ m w).mul.natAbs).length ≤ 3 * w.length + 3 ∧ (digs (lineZ m w).add.natAbs).length ≤ 3 * w.length + 3 ∧ (digs (lineZ m w).div.natAbs).length ≤ 3 * w.length + 3 := by
 refine snoc_ind (P := fun w => IsW m w → (digs (lineZ m w).mul.natAbs).length ≤ 3 * w.length + 3 ∧ (digs (lineZ m w).add.natAbs).length ≤ 3 * w.length + 3 ∧ (digs (lineZ m w).div.natAbs).length ≤ 3 * w.length + 3) (fun _ => ?_) fun w r ih hw => ?_
 ·have h1 := small_len (z := 1) (by decide)
  have h0 : (digs (0 : Int).natAbs).length = 0 := by simp [digs_zero]
  refine ⟨?_, ?_, ?_⟩
  ·show (digs (1 : Int).natAbs).length ≤ _; omega
  ·show (digs (0 : Int).natAbs).length ≤ _; omega
  ·show (digs (1 : Int).natAbs).length ≤ _; omega
 ·obtain ⟨i1, i2, i3⟩ := ih fun x hx => hw x (by simp [hx])
  obtain ⟨o1, o2, o3, o4, o5⟩ := hm
  obtain ⟨hr0, hr1⟩ := hw r (by simp)
  have hr := o5 r.toNat (by omega)
  have hq := small_len (z := mulM m r) (by unfold mulM; omega)
  have ha := small_len (z := addM m r) (by unfold addM; omega)
  have hd := small_len (z := m.mod) (by omega)
  have e1 := len_mulZ (mulM m r) (lineZ m w).mul
  have e2 := len_mulZ (mulM m r) (lineZ m w).add
  have e3 := len_mulZ (addM m r) (lineZ m w).div
  have e4 := len_mulZ (lineZ m w).div m.mod
  have e5 := len_addZ (mulM m r * (lineZ m w).add) (addM m r * (lineZ m w).div)
  rw [lineZ_snoc, List.length_append, List.length_singleton]
  refine ⟨?_, ?_, ?_⟩
  ·show (digs (mulM m r * (lineZ m w).mul).natAbs).length ≤ _; omega
  ·show (digs (mulM m r * (lineZ m w).add + addM m r * (lineZ m w).div).natAbs).length ≤ _; omega
  ·show (digs ((lineZ m w).div * m.mod).natAbs).length ≤ _; omega
theorem isW_take {m : MapM} {w : List Int} (h : IsW m w) (i : Nat) : IsW m (w.take i) := fun r hr => h r (List.mem_of_mem_take hr)
theorem isW_get {m : MapM} {w : List Int} (h : IsW m w) {i : Nat} (hi : i < w.length) : 0 ≤ w.getD i 0 ∧ w.getD i 0 < m.mod := h _ (by rw [List.getD_eq_getElem?_getD, List.getElem?_eq_getElem hi]; simp)
theorem take_snoc {w : List Int} {i : Nat} (hi : i < w.length) : w.take (i + 1) = w.take i ++ [w.getD i 0] := by
 rw [List.getD_eq_getElem?_getD, List.getElem?_eq_getElem hi, List.take_add_one, List.getElem?_eq_getElem hi]; rfl
theorem lineZ_next {m : MapM} {w : List Int} {i : Nat} (hi : i < w.length) : thenZ m (lineZ m (w.take i)) (w.getD i 0) = lineZ m (w.take (i + 1)) := by rw [take_snoc hi, lineZ_snoc]
theorem isW_of {m : MapM} {w : List Int} (h : ∀ k, k < w.length → 0 ≤ w.getD k 0 ∧ w.getD k 0 < m.mod) : IsW m w := fun r hr => by
 obtain ⟨k, hk, e⟩ := List.getElem_of_mem hr
 have := h k hk
 rw [List.getD_eq_getElem?_getD, List.getElem?_eq_getElem hk] at this
 subst e
 exact this
theorem bp_no {q : Prop} [Decidable q] (h : ¬ q) : bp q = .lit (.bool false) := by unfold bp; rw [decide_eq_false h]
end Go.Mth

namespace Go.Proofs.YtdmkejloknejdaaGreatDoor
open Go Go.Ab Go.Mth
theorem fieldsFrac : Tryz.prog.fieldsOf 45 = #[{ name := "Num", type := 9, offset := 0, embedded := false, tag := "", pkgPath := "", byteOffset := 0 }, { name := "Den", type := 9, offset := 1, embedded := false, tag := "", pkgPath := "", byteOffset := 16 }] := by kernel_rfl
theorem eq_api_Frac (a1 a2 b1 b2 : ByteArray) : AggEq cx.P 45 [.string a1, .string a2] [.string b1, .string b2] (decide (a1 = b1 ∧ a2 = b2)) := by
 refine ⟨by kernel_rfl, fun w => ?_⟩
 have hS : Tryz.prog.underlying 45 = some (.struct (Tryz.prog.fieldsOf 45)) := by kernel_rfl
 show (Op.equalIn 10000 45 _ _).run Tryz.prog w = _
 rw [show (10000 : Nat) = 9998 + 1 + 1 from rfl, run_equalIn_agg w (9998 + 1) _ _ _ hS (by kernel_rfl), fieldsFrac]
 have uS : Tryz.prog.underlying 9 = some .string := by kernel_rfl
 simp only [Op.eqFields, part_str uS, Sem.run_bind, Sem.run_ite, run_equalIn_string _ _ _ _ _ uS]
 by_cases h1 : a1 = b1 <;> by_cases h2 : a2 = b2 <;> simp [ba_eq, run_equalIn_string _ _ _ _ _ uS, h1, h2]
end Go.Proofs.YtdmkejloknejdaaGreatDoor

namespace Go.Proofs.YtdmkejloknejdaaGreatDoor
open Go Go.Ab Go.Mth
theorem f73_ : callable cx.P 160 = true := by kernel_rfl
theorem f74_ : callable cx.P 161 = true := by kernel_rfl
theorem c_wTrimX (neg : Bool) (xs : List Nat) (hx : Dig xs) : ECalls cx 109 [.lit (.bool neg), .sl 1 (ns .u32 xs)] (intC (sg neg (val xs))) := by
 refine ecalls_of_awp Tryz.func109 (c := _) rfl (Nat.le_of_ble_eq_true rfl) ?_
 show awp cx 30 _ (postF cx Tryz.f109 _) ⟨[(0, .lit (.bool neg)), (1, .sl 1 (ns .u32 xs))], []⟩
 refine awp_bound (i := 1) rfl fun hb => ?_
 replace hb := n_bnd hb
 refine awp_seq fun K0 hK0 => awp_region rfl ?_
 refine o_alloc 2 [Fv, Zv] gn f15_ rfl rfl rfl ?_
 refine aops_end (hK0 _ (awp_seq fun K1 hK1 => awp_region rfl (o_mv (.sl 1 (ns .u32 xs)) rfl ?_)))
 refine n_len xs gn f7_ rfl ?_
 refine o_as (Nv (xs.length)) rfl (aops_end (hK1 _ (awp_seq fun K2 hK2 => ?_)))
 refine awp_block ?_
 refine awp_loopR (fun κ σ => ∃ (n : Nat), (n ≤ xs.length) ∧ (val (xs.take n) = val xs) ∧ n = κ ∧ σ = ⟨[(0, .lit (.bool neg)), (1, .sl 1 (ns .u32 xs)), (4, .ref 2 0), (5, Nv n)], [(2, .var 90 [Fv, Zv])]⟩) ⟨_, _, ⟨xs.length, Nat.le_refl _, (by rw [List.take_length]), rfl, rfl⟩, ?wk0⟩ ?rd0
 case wk0 =>
  exact Wk.sub ⟨rfl, rfl, rfl, (by first | rfl | exact nm_int (by omega)), trivial⟩ ⟨rfl, trivial⟩
 rintro κ _ ⟨n, hn, hv, rfl, rfl⟩
 refine awp_seq fun K3 hK3 => awp_seq fun K4 hK4 => awp_region rfl (o_mv (Nv n) rfl ?_)
 refine n_gtr n 0 gn rfl rfl ?_
 refine o_mv (bp (0 < n)) rfl ?_
 refine o_splitP (q := 0 < n) 10 rfl (fun h1 => ?_) (fun h1 => ?_)
 ·refine o_move (.sl 1 (ns .u32 xs)) (Gd.yes rfl rfl (decide_eq_true h1)) rfl (o_move (Nv n) (Gd.yes rfl rfl (decide_eq_true h1)) rfl ?_)
  refine n_sub n 1 (Gd.yes rfl rfl (decide_eq_true h1)) rfl rfl (by omega) (by simp only [topOf]; omega) ?_
  refine n_index xs (n - 1) (Gd.yes rfl rfl (decide_eq_true h1)) f16_ rfl rfl (by omega) ?_
  refine n_loadI xs (n - 1) (Gd.yes rfl rfl (decide_eq_true h1)) f17_ rfl (by omega) ?_
  refine n_eql (xs.getD (n - 1) 0) 0 (Gd.yes rfl rfl (decide_eq_true h1)) rfl rfl ?_
  refine o_pickT (bp ((xs.getD (n - 1) 0) = 0)) gn rfl (decide_eq_true h1) rfl ?_
  refine aops_end (hK4 _ ?_)
  refine awp_condQ (q := (xs.getD (n - 1) 0) = 0) rfl (fun h2 => ?_) (fun h2 => ?_)
  ·refine awp_skip (hK3 _ ?_)
   refine awp_block ?_
   refine awp_region rfl (o_mv (Nv n) rfl ?_)
   refine n_sub n 1 gn rfl rfl (by omega) (by simp only [topOf]; omega) ?_
   refine o_as (Nv (n - 1)) rfl (aops_end ?_)
   refine ⟨_, _, ?lt, ⟨n - 1, (by omega), (by rw [← take_getD_zero (by assumption) hn (by assumption)]; exact hv), rfl, rfl⟩, ?wk⟩
   case lt => omega
   case wk => exact Wk.sub ⟨rfl, rfl, rfl, (by first | rfl | exact nm_int (by omega)), trivial⟩ ⟨rfl, trivial⟩
  ·refine awp_exit ?_
   refine hK2 _ (awp_seq fun K5 hK5 => awp_region rfl (o_mv (.lit (.bool neg)) rfl (o_mv (.lit (.bool neg)) rfl ?_)))
   refine o_split (b := neg) 21 rfl (fun h3 => ?_) (fun h3 => ?_)
   ·refine o_move (Nv n) (Gd.yes rfl rfl h3) rfl ?_
    refine n_gtr n 0 (Gd.yes rfl rfl h3) rfl rfl ?_
    refine o_pickT (bp (0 < n)) gn rfl h3 rfl ?_
    refine o_mv (.sl 1 (ns .u32 xs)) rfl (o_mv (Nv n) rfl (o_mv (Nv n) rfl ?_))
    refine n_sliceX xs 0 n gn f16_ rfl rfl (hi_nm rfl) (mx_nm rfl) rfl (by omega) (by omega) ?_
    refine o_build [bp (0 < n), .slc 1 (ns .u32 ((xs.drop 0).take (n - 0))) (n - 0)] [(0, [bp (0 < n)]), (1, [.slc 1 (ns .u32 ((xs.drop 0).take (n - 0))) (n - 0)])] gn f18_ f15_ rfl rfl rfl ?_
    refine o_store [(2, .var 90 [bp (0 < n), .slc 1 (ns .u32 ((xs.drop 0).take (n - 0))) (n - 0)])] gn f19_ rfl rfl rfl rfl rfl rfl ?_
    refine aops_end (hK5 _ ?_)
    refine awp_ret ?_
    refine post_ret ⟨[.agg [bp (0 < n), .slc 1 (ns .u32 ((xs.drop 0).take (n - 0))) (n - 0)]], ⟨⟨2, .var 90 [bp (0 < n), .slc 1 (ns .u32 ((xs.drop 0).take (n - 0))) (n - 0)], rfl, rfl, rfl, Or.inl ⟨f20_, AV.le_refl _⟩⟩, trivial⟩, rfl, ?_⟩
    subst h3
    exact (trimc_fin (neg := true) hx hn hv (by first | (left; omega) | (right; assumption))).symm
   ·refine o_skip rfl rfl h3 (o_skip rfl rfl h3 ?_)
    refine o_pickF Fv gn rfl h3 rfl ?_
    refine o_mv (.sl 1 (ns .u32 xs)) rfl (o_mv (Nv n) rfl (o_mv (Nv n) rfl ?_))
    refine n_sliceX xs 0 n gn f16_ rfl rfl (hi_nm rfl) (mx_nm rfl) rfl (by omega) (by omega) ?_
    refine o_build [Fv, .slc 1 (ns .u32 ((xs.drop 0).take (n - 0))) (n - 0)] [(0, [Fv]), (1, [.slc 1 (ns .u32 ((xs.drop 0).take (n - 0))) (n - 0)])] gn f18_ f15_ rfl rfl rfl ?_
    refine o_store [(2, .var 90 [Fv, .slc 1 (ns .u32 ((xs.drop 0).take (n - 0))) (n - 0)])] gn f19_ rfl rfl rfl rfl rfl rfl ?_
    refine aops_end (hK5 _ ?_)
    refine awp_ret ?_
    refine post_ret ⟨[.agg [Fv, .slc 1 (ns .u32 ((xs.drop 0).take (n - 0))) (n - 0)]], ⟨⟨2, .var 90 [Fv, .slc 1 (ns .u32 ((xs.drop 0).take (n - 0))) (n - 0)], rfl, rfl, rfl, Or.inl ⟨f20_, AV.le_refl _⟩⟩, trivial⟩, rfl, ?_⟩
    subst h3
    exact (trimc_fin (neg := false) hx hn hv (by first | (left; omega) | (right; assumption))).symm
 ·refine o_skip rfl rfl (decide_eq_false h1) (o_skip rfl rfl (decide_eq_false h1) (o_skip rfl rfl (decide_eq_false h1) (o_skip rfl rfl (decide_eq_false h1) (o_skip rfl rfl (decide_eq_false h1) (o_skip rfl rfl (decide_eq_false h1) ?_)))))
  refine o_pickF Fv gn rfl (decide_eq_false h1) rfl ?_
  refine aops_end (hK4 _ ?_)
  refine awp_condB (b := false) rfl (fun hh => absurd (hh.symm.trans rfl) (by decide)) (fun _ => ?_)
  refine awp_exit ?_
  refine hK2 _ (awp_seq fun K6 hK6 => awp_region rfl (o_mv (.lit (.bool neg)) rfl (o_mv (.lit (.bool neg)) rfl ?_)))
  refine o_split (b := neg) 21 rfl (fun h4 => ?_) (fun h4 => ?_)
  ·refine o_move (Nv n) (Gd.yes rfl rfl h4) rfl ?_
   refine n_gtr n 0 (Gd.yes rfl rfl h4) rfl rfl ?_
   refine o_pickT (bp (0 < n)) gn rfl h4 rfl ?_
   refine o_mv (.sl 1 (ns .u32 xs)) rfl (o_mv (Nv n) rfl (o_mv (Nv n) rfl ?_))
   refine n_sliceX xs 0 n gn f16_ rfl rfl (hi_nm rfl) (mx_nm rfl) rfl (by omega) (by omega) ?_
   refine o_build [bp (0 < n), .slc 1 (ns .u32 ((xs.drop 0).take (n - 0))) (n - 0)] [(0, [bp (0 < n)]), (1, [.slc 1 (ns .u32 ((xs.drop 0).take (n - 0))) (n - 0)])] gn f18_ f15_ rfl rfl rfl ?_
   refine o_store [(2, .var 90 [bp (0 < n), .slc 1 (ns .u32 ((xs.drop 0).take (n - 0))) (n - 0)])] gn f19_ rfl rfl rfl rfl rfl rfl ?_
   refine aops_end (hK6 _ ?_)
   refine awp_ret ?_
   refine post_ret ⟨[.agg [bp (0 < n), .slc 1 (ns .u32 ((xs.drop 0).take (n - 0))) (n - 0)]], ⟨⟨2, .var 90 [bp (0 < n), .slc 1 (ns .u32 ((xs.drop 0).take (n - 0))) (n - 0)], rfl, rfl, rfl, Or.inl ⟨f20_, AV.le_refl _⟩⟩, trivial⟩, rfl, ?_⟩
   subst h4
   exact (trimc_fin (neg := true) hx hn hv (by first | (left; omega) | (right; assumption))).symm
  ·refine o_skip rfl rfl h4 (o_skip rfl rfl h4 ?_)
   refine o_pickF Fv gn rfl h4 rfl ?_
   refine o_mv (.sl 1 (ns .u32 xs)) rfl (o_mv (Nv n) rfl (o_mv (Nv n) rfl ?_))
   refine n_sliceX xs 0 n gn f16_ rfl rfl (hi_nm rfl) (mx_nm rfl) rfl (by omega) (by omega) ?_
   refine o_build [Fv, .slc 1 (ns .u32 ((xs.drop 0).take (n - 0))) (n - 0)] [(0, [Fv]), (1, [.slc 1 (ns .u32 ((xs.drop 0).take (n - 0))) (n - 0)])] gn f18_ f15_ rfl rfl rfl ?_
   refine o_store [(2, .var 90 [Fv, .slc 1 (ns .u32 ((xs.drop 0).take (n - 0))) (n - 0)])] gn f19_ rfl rfl rfl rfl rfl rfl ?_
   refine aops_end (hK6 _ ?_)
   refine awp_ret ?_
   refine post_ret ⟨[.agg [Fv, .slc 1 (ns .u32 ((xs.drop 0).take (n - 0))) (n - 0)]], ⟨⟨2, .var 90 [Fv, .slc 1 (ns .u32 ((xs.drop 0).take (n - 0))) (n - 0)], rfl, rfl, rfl, Or.inl ⟨f20_, AV.le_refl _⟩⟩, trivial⟩, rfl, ?_⟩
   subst h4
   exact (trimc_fin (neg := false) hx hn hv (by first | (left; omega) | (right; assumption))).symm

theorem c_wTimes (m n : Nat) (hm : (digs m).length ≤ 1000000000) (hn : n < 1000000000) : ECalls cx 161 [.sl 1 (ns .u32 (digs m)), nm .u64 n] (.sl 1 (ns .u32 (digs (m * n)))) := by
 refine ecalls_of_awp Tryz.func161 (c := _) rfl (Nat.le_of_ble_eq_true rfl) ?_
 show awp cx 42 _ (postF cx Tryz.f161 _) ⟨[(0, .sl 1 (ns .u32 (digs m))), (1, nm .u64 n)], []⟩
 refine awp_bound (i := 0) rfl fun hb => ?_
 replace hb := n_bnd hb
 refine awp_seq fun K0 hK0 => awp_region rfl (o_as Zv rfl (aops_end (hK0 _ (awp_seq fun K1 hK1 => awp_region rfl (o_mv (.sl 1 (ns .u32 (digs m))) rfl ?_)))))
 refine n_len (digs m) gn f7_ rfl ?_
 refine n_add ((digs m).length) 1 gn rfl rfl (by simp only [topOf]; omega) ?_
 refine n_make0 .u32 2 (((digs m).length) + 1) gn f16_ f27_ rfl rfl (by omega) (by omega) rfl ?_
 refine o_as (.row 2) rfl (aops_end (hK1 _ (awp_seq fun K2 hK2 => awp_region rfl (o_as (nm .u64 0) rfl (aops_end (hK2 _ (awp_seq fun K3 hK3 => awp_seq fun K4 hK4 => awp_region rfl (o_mv (.sl 1 (ns .u32 (digs m))) rfl ?_))))))))
 refine n_len (digs m) gn f7_ rfl ?_
 refine o_mv (Nv 0) rfl (aops_end (hK4 _ ?_))
 refine awp_block ?_
 refine awp_loopR (fun κ σ => ∃ (i : Nat), ∃ (r : List Nat), ∃ (c : Nat), (r.length = i) ∧ (i ≤ (digs m).length) ∧ (Dig r) ∧ (c < 1000000000) ∧ (val r + 1000000000 ^ i * c = val ((digs m).take i) * n) ∧ ((digs m).length - i) = κ ∧ σ = ⟨[(1, nm .u64 n), (5, .row 3), (6, nm .u64 c), (14, .sl 1 (ns .u32 (digs m))), (15, Nv ((digs m).length)), (16, Nv i)], [(3, .row 145 1 (ns .u32 r))]⟩) ⟨_, _, ⟨0, [], 0, rfl, (by omega), Dig.nil, (by omega), (by simp [val]), rfl, rfl⟩, ?wk0⟩ ?rd0
 case wk0 =>
  exact Wk.trans (Wk.sub (σ' := ⟨[(1, nm .u64 n), (5, .row 2), (6, nm .u64 0), (14, .sl 1 (ns .u32 (digs m))), (15, Nv ((digs m).length)), (16, Nv 0)], [(2, .row 145 1 (ns .u32 ([])))]⟩) ⟨rfl, rfl, rfl, rfl, rfl, rfl, trivial⟩ ⟨rfl, trivial⟩) (Wk.trans (Wk.ren (id := 2) (id' := 3) rfl) (Wk.sub ⟨rfl, (by first | rfl | simp), (by first | rfl | exact nm_int (by omega)), rfl, rfl, (by first | rfl | exact nm_int (by omega)), trivial⟩ ⟨(by first | rfl | exact row_ns (by simp)), trivial⟩))
 rintro κ _ ⟨i, r, c, hl, hi, hd, hc, hv, rfl, rfl⟩
 have hA := Dig.getD (digs_dig m) i
 have hAn : ((digs m).getD i 0) * n ≤ 999999999 * 999999999 := Nat.mul_le_mul (by omega) (by omega)
 refine awp_seq fun K5 hK5 => awp_region rfl ?_
 refine n_lss i ((digs m).length) gn rfl rfl ?_
 refine aops_end (hK5 _ (awp_seq fun K6 hK6 => ?_))
 refine awp_condQ (q := i < ((digs m).length)) rfl (fun h1 => ?_) (fun h1 => ?_)
 ·refine awp_skip (hK6 _ (awp_seq fun K7 hK7 => ?_))
  refine awp_block ?_
  refine awp_seq fun K8 hK8 => awp_region rfl ?_
  refine n_index (digs m) i gn f16_ rfl rfl (by omega) ?_
  refine n_loadI (digs m) i gn f17_ rfl (by omega) ?_
  refine o_as (nm .u32 ((digs m).getD i 0)) rfl (aops_end (hK8 _ (awp_seq fun K9 hK9 => awp_region rfl (o_mv (nm .u32 ((digs m).getD i 0)) rfl ?_))))
  refine n_conv ((digs m).getD i 0) gn rfl f28_ f40_ (by simp only [topOf]; omega) ?_
  refine o_mv (nm .u64 n) rfl ?_
  refine n_mul ((digs m).getD i 0) n gn rfl rfl (by simp only [topOf]; omega) ?_
  refine o_mv (nm .u64 c) rfl ?_
  refine n_add (((digs m).getD i 0) * n) c gn rfl rfl (by simp only [topOf]; omega) ?_
  refine o_as (nm .u64 ((((digs m).getD i 0) * n) + c)) rfl (aops_end (hK9 _ (awp_seq fun K10 hK10 => awp_region rfl (o_mv (.row 3) rfl (o_mv (nm .u64 ((((digs m).getD i 0) * n) + c)) rfl ?_)))))
  refine n_rem ((((digs m).getD i 0) * n) + c) 1000000000 gn rfl rfl (by omega) ?_
  refine n_conv (((((digs m).getD i 0) * n) + c) % 1000000000) gn rfl f40_ f28_ (by simp only [topOf]; omega) ?_
  refine o_buildSlice 101 (ns .u32 ([((((digs m).getD i 0) * n) + c) % 1000000000])) [(0, [nm .u32 (((((digs m).getD i 0) * n) + c) % 1000000000)])] gn f16_ rfl f27_ rfl rfl rfl rfl rfl rfl rfl ?_
  refine n_append 102 r ([((((digs m).getD i 0) * n) + c) % 1000000000]) [(101, .row 145 1 (ns .u32 ([((((digs m).getD i 0) * n) + c) % 1000000000])))] gn f16_ f27_ rfl rfl rfl rfl rfl (by simp only [List.length_append, List.length_cons, List.length_nil]; omega) (by decide) rfl rfl ?_
  refine o_as (.row 102) rfl (aops_end (hK10 _ (awp_region rfl (o_mv (nm .u64 ((((digs m).getD i 0) * n) + c)) rfl ?_))))
  refine n_quo ((((digs m).getD i 0) * n) + c) 1000000000 gn rfl rfl (by omega) (by simp only [topOf]; omega) ?_
  refine o_as (nm .u64 (((((digs m).getD i 0) * n) + c) / 1000000000)) rfl (aops_end (hK7 _ (awp_region rfl ?_)))
  refine n_add i 1 gn rfl rfl (by simp only [topOf]; omega) ?_
  refine o_mv (Nv (i + 1)) rfl (aops_end ?_)
  refine ⟨_, _, ?lt, ⟨i + 1, r ++ ([((((digs m).getD i 0) * n) + c) % 1000000000]), ((((digs m).getD i 0) * n) + c) / 1000000000, (by simp [hl]), (by omega), (hd.snoc (Nat.mod_lt _ (by decide))), (by omega), times_step hl hv rfl, rfl, rfl⟩, ?wk⟩
  case lt => omega
  case wk => exact Wk.trans (Wk.sub (σ' := ⟨[(1, nm .u64 n), (5, .row 102), (6, nm .u64 (((((digs m).getD i 0) * n) + c) / 1000000000)), (14, .sl 1 (ns .u32 (digs m))), (15, Nv ((digs m).length)), (16, Nv (i + 1))], [(102, .row 145 1 (ns .u32 (r ++ ([((((digs m).getD i 0) * n) + c) % 1000000000]))))]⟩) ⟨rfl, rfl, rfl, rfl, rfl, rfl, trivial⟩ ⟨rfl, trivial⟩) (Wk.trans (Wk.ren (id := 102) (id' := 3) rfl) (Wk.sub ⟨rfl, (by first | rfl | simp), (by first | rfl | exact nm_int (by omega)), rfl, rfl, (by first | rfl | exact nm_int (by omega)), trivial⟩ ⟨(by first | rfl | exact row_ns (by simp)), trivial⟩))
 ·refine awp_exit ?_
  refine hK3 _ (awp_seq fun K11 hK11 => awp_region rfl (o_mv (.row 3) rfl (o_mv (nm .u64 c) rfl ?_)))
  refine n_conv c gn rfl f40_ f28_ (by simp only [topOf]; omega) ?_
  refine o_buildSlice 101 (ns .u32 ([c])) [(0, [nm .u32 c])] gn f16_ rfl f27_ rfl rfl rfl rfl rfl rfl rfl ?_
  refine n_append 102 r ([c]) [(101, .row 145 1 (ns .u32 ([c])))] gn f16_ f27_ rfl rfl rfl rfl rfl (by simp only [List.length_append, List.length_cons, List.length_nil]; omega) (by decide) rfl rfl ?_
  refine o_callG [(102, 1, ns .u32 (r ++ ([c])))] [Fv, .sl 1 (ns .u32 (r ++ ([c])))] _ (intW (sg false (val (r ++ ([c]))))) [(101, .row 145 1 (ns .u32 ([c])))] gn f35_ rfl ⟨⟨_, rfl⟩, trivial⟩ rfl rfl (LeL.cons (AV.le_refl _) (LeL.cons (AV.le_refl _) LeL.nil)) (c_wTrim false (r ++ ([c])) (by first | assumption | exact dgn_dig _ _ | exact digs_dig _ | exact Dig.snoc (by assumption) (by assumption) | exact Dig.cons (by omega) (digs_dig _))) rfl ?_
  refine o_fieldS (.sl 1 (ns .u32 (digs (sg false (val (r ++ ([c])))).natAbs))) gn f5_ f6_ rfl rfl ?_
  refine o_as (.sl 1 (ns .u32 (digs (sg false (val (r ++ ([c])))).natAbs))) rfl (aops_end (hK11 _ ?_))
  refine awp_ret ?_
  refine post_ret ⟨[.sl 1 (ns .u32 (digs (sg false (val (r ++ ([c])))).natAbs))], ⟨AV.le_refl _, trivial⟩, rfl, ?_⟩
  refine ns_congr ?_
  rw [sg_abs, times_fin (by omega) hl hv]

theorem c_wQuot (m n : Nat) (hn0 : 0 < n) (hm : (digs m).length ≤ 900000000) (hn : (digs n).length ≤ 900000000) : ECalls cx 144 [.sl 1 (ns .u32 (digs m)), .sl 1 (ns .u32 (digs n))] (.tup [.sl 1 (ns .u32 (dgn (digs m).length (m / n))), .sl 1 (ns .u32 (digs (m % n)))]) := by
 refine ecalls_of_awp Tryz.func144 (c := _) rfl (Nat.le_of_ble_eq_true rfl) ?_
 show awp cx 65 _ (postF cx Tryz.f144 _) ⟨[(0, .sl 1 (ns .u32 (digs m))), (1, .sl 1 (ns .u32 (digs n)))], []⟩
 refine awp_bound (i := 0) rfl fun hb => ?_
 replace hb := n_bnd hb
 refine awp_bound (i := 1) rfl fun hb2 => ?_
 replace hb2 := n_bnd hb2
 refine awp_seq fun K0 hK0 => awp_region rfl (o_as Zv rfl (o_as Zv rfl (aops_end (hK0 _ (awp_seq fun K1 hK1 => awp_region rfl (o_mv (.sl 1 (ns .u32 (digs m))) rfl ?_))))))
 refine n_len (digs m) gn f7_ rfl ?_
 refine n_make 2 ((digs m).length) gn f16_ f27_ rfl rfl (by omega) rfl rfl ?_
 refine o_as (.row 2) rfl (aops_end (hK1 _ (awp_seq fun K2 hK2 => awp_region rfl (o_as Zv rfl (aops_end (hK2 _ (awp_seq fun K3 hK3 => awp_seq fun K4 hK4 => awp_region rfl (o_mv (.sl 1 (ns .u32 (digs m))) rfl ?_))))))))
 refine n_len (digs m) gn f7_ rfl ?_
 refine o_sub (a := (((digs m).length : Nat) : Int)) (c := ((1 : Nat) : Int)) gn rfl rfl (by exact wrap64 (by omega) (by omega)) ?_
 refine o_as (Iv ((((digs m).length : Nat) : Int) - ((1 : Nat) : Int))) rfl (aops_end (hK4 _ ?_))
 refine awp_block ?_
 refine awp_wk (Wk.slot (i := 7) (y := (.slc 1 (ns .u32 (digs 0)) ((digs 0).length))) (AV.le_nilc' (by decide) (by simp [digs_zero, ns]) (by simp [digs_zero]))) ?_
 refine awp_loopR (fun κ σ => ∃ (j : Nat), ∃ (o : List Nat), ∃ (r : Nat), (j ≤ (digs m).length) ∧ (o.length = (digs m).length) ∧ (Dig o) ∧ (∀ k, k < j → o.getD k 0 = 0) ∧ (r < n) ∧ (val ((digs m).drop j) = n * val (o.drop j) + r) ∧ j = κ ∧ σ = ⟨[(0, .sl 1 (ns .u32 (digs m))), (1, .sl 1 (ns .u32 (digs n))), (6, .row 3), (8, (Iv ((j : Int) - 1))), (7, .slc 1 (ns .u32 (digs r)) ((digs r).length))], [(3, .row 145 1 (ns .u32 o))]⟩) ⟨_, _, ⟨(digs m).length, List.replicate (digs m).length 0, 0, Nat.le_refl _, (by simp), Dig.repl _, (fun k hk => by rw [List.getD_eq_getElem?_getD, List.getElem?_replicate]; split <;> rfl), hn0, (by rw [val_drop_all (Nat.le_refl _), val_drop_all (by simp)]; simp), rfl, rfl⟩, ?wk0⟩ ?rd0
 case wk0 =>
  exact Wk.trans (Wk.sub (σ' := ⟨[(0, .sl 1 (ns .u32 (digs m))), (1, .sl 1 (ns .u32 (digs n))), (6, .row 2), (8, (Iv ((((digs m).length : Nat) : Int) - ((1 : Nat) : Int)))), (7, .slc 1 (ns .u32 (digs 0)) ((digs 0).length))], [(2, .row 145 1 (ns .u32 (List.replicate ((digs m).length) 0)))]⟩) ⟨rfl, rfl, rfl, rfl, rfl, trivial⟩ ⟨rfl, trivial⟩) (Wk.trans (Wk.ren (id := 2) (id' := 3) rfl) (Wk.sub ⟨rfl, rfl, (by first | rfl | simp), (by first | rfl | exact int_eq (by omega) | exact int_nm (by omega)), (by first | rfl | simp), trivial⟩ ⟨(by first | rfl | exact row_ns (by simp)), trivial⟩))
 rintro κ _ ⟨j, o, r, hj, hl, hd, hz, hr, hv, rfl, rfl⟩
 have hA := Dig.getD (digs_dig m) (j - 1)
 have hrl := digs_len_le (Nat.le_of_lt hr)
 have hXt := quo_top hA hr
 have hXl := digs_len_le (Nat.le_of_lt hXt)
 have hXm := digs_mul_len n 1000000000
 have h10 : (digs 1000000000).length ≤ 3 := digs_len_small (by decide)
 refine awp_seq fun K5 hK5 => awp_seq fun K6 hK6 => awp_region rfl (o_mv (Iv ((j : Int) - 1)) rfl ?_)
 refine o_geq (a := ((j : Int) - 1)) (c := ((0 : Nat) : Int)) gn rfl rfl ?_
 refine aops_end (hK6 _ ?_)
 refine awp_condQ (q := ((0 : Nat) : Int) ≤ ((j : Int) - 1)) rfl (fun h1 => ?_) (fun h1 => ?_)
 ·refine awp_wk (Wk.slot (i := 8) (y := (Nv (j - 1))) (AV.le_eq (by exact nm_int (by omega)))) ?_
  refine awp_skip (hK5 _ (awp_seq fun K7 hK7 => ?_))
  refine awp_block ?_
  refine awp_seq fun K8 hK8 => awp_region rfl (o_mv (.slc 1 (ns .u32 (digs r)) ((digs r).length)) rfl (o_mv (.sl 1 (ns .u32 (digs m))) rfl (o_mv (Nv (j - 1)) rfl ?_)))
  refine n_index (digs m) (j - 1) gn f16_ rfl rfl (by omega) ?_
  refine n_loadI (digs m) (j - 1) gn f17_ rfl (by omega) ?_
  refine o_buildSlice 101 (ns .u32 ([(digs m).getD (j - 1) 0])) [(0, [nm .u32 ((digs m).getD (j - 1) 0)])] gn f16_ rfl f27_ rfl rfl rfl rfl rfl rfl rfl ?_
  refine o_callG [(101, 1, ns .u32 ([(digs m).getD (j - 1) 0]))] [.slc 1 (ns .u32 (digs r)) ((digs r).length), Nv 0, .sl 1 (ns .u32 ([(digs m).getD (j - 1) 0]))] _ (.sl 1 (ns .u32 (((digs m).getD (j - 1) 0) :: digs r))) [(3, .row 145 1 (ns .u32 o))] gn f73_ rfl ⟨⟨_, rfl⟩, trivial⟩ rfl rfl (LeL.cons (AV.le_refl _) (LeL.cons (AV.le_refl _) (LeL.cons (AV.le_refl _) LeL.nil))) (c_insert (digs r) ((digs m).getD (j - 1) 0) (by omega)) rfl ?_
  refine o_ct (c_wTrimX false (((digs m).getD (j - 1) 0) :: digs r) (by first | assumption | exact dgn_dig _ _ | exact digs_dig _ | exact Dig.snoc (by assumption) (by assumption) | exact Dig.cons (by omega) (digs_dig _))) gn f35_ rfl ?_
  refine o_fieldS (.slc 1 (ns .u32 (digs (sg false (val (((digs m).getD (j - 1) 0) :: digs r))).natAbs)) ((digs (sg false (val (((digs m).getD (j - 1) 0) :: digs r))).natAbs).length)) gn f5_ f6_ rfl rfl ?_
  refine n_as (v' := (.slc 1 (ns .u32 (digs ((digs m).getD (j - 1) 0 + 1000000000 * r))) ((digs ((digs m).getD (j - 1) 0 + 1000000000 * r)).length))) (by exact nc_sg (by simp only [val, val_digs])) ?_
  refine o_as (.slc 1 (ns .u32 (digs ((digs m).getD (j - 1) 0 + 1000000000 * r))) ((digs ((digs m).getD (j - 1) 0 + 1000000000 * r)).length)) rfl (aops_end (hK8 _ (awp_seq fun K9 hK9 => awp_seq fun K10 hK10 => awp_region rfl (o_mv (.slc 1 (ns .u32 (digs ((digs m).getD (j - 1) 0 + 1000000000 * r))) ((digs ((digs m).getD (j - 1) 0 + 1000000000 * r)).length)) rfl (o_mv (.sl 1 (ns .u32 (digs n))) rfl ?_)))))
  refine o_callG [] [.slc 1 (ns .u32 (digs ((digs m).getD (j - 1) 0 + 1000000000 * r))) ((digs ((digs m).getD (j - 1) 0 + 1000000000 * r)).length), .sl 1 (ns .u32 (digs n))] _ (Iv (cmpN ((digs m).getD (j - 1) 0 + 1000000000 * r) n)) [(3, .row 145 1 (ns .u32 o))] gn f24_ rfl trivial rfl rfl (LeL.cons AV.le_slc (LeL.cons (AV.le_refl _) LeL.nil)) (c_wSize ((digs m).getD (j - 1) 0 + 1000000000 * r) n) rfl ?_
  refine o_lss (a := (cmpN ((digs m).getD (j - 1) 0 + 1000000000 * r) n)) (c := ((0 : Nat) : Int)) gn rfl rfl ?_
  refine aops_end (hK10 _ ?_)
  refine awp_condQ (q := (cmpN ((digs m).getD (j - 1) 0 + 1000000000 * r) n) < ((0 : Nat) : Int)) rfl (fun h2 => ?_) (fun h2 => ?_)
  ·have hXn := cmpN_neg h2
   refine awp_exit ?_
   refine hK7 _ (awp_region rfl (o_mv (Nv (j - 1)) rfl ?_))
   refine o_sub (a := ((j - 1 : Nat) : Int)) (c := ((1 : Nat) : Int)) gn rfl rfl (by exact wrap64 (by omega) (by omega)) ?_
   refine o_as (Iv (((j - 1 : Nat) : Int) - ((1 : Nat) : Int))) rfl (aops_end ?_)
   refine ⟨_, _, ?lt, ⟨j - 1, o, (digs m).getD (j - 1) 0 + 1000000000 * r, (by omega), hl, hd, (fun k hk => hz k (by omega)), hXn, (quo_skip (by omega) hl (by rw [Nat.sub_add_cancel (by omega)]; exact hv) (hz _ (by omega)) hXn), rfl, rfl⟩, ?wk⟩
   case lt => omega
   case wk => exact Wk.sub ⟨rfl, rfl, rfl, (by first | rfl | exact int_eq (by omega) | exact int_nm (by omega)), (by first | rfl | simp), trivial⟩ ⟨rfl, trivial⟩
  ·have hXn := cmpN_nneg h2
   refine awp_skip (hK9 _ (awp_seq fun K11 hK11 => awp_region rfl (o_as (nm .u64 0) rfl (o_as (nm .u64 1000000000) rfl (aops_end (hK11 _ (awp_seq fun K12 hK12 => ?_)))))))
   refine awp_block ?_
   refine awp_loopR (fun κ σ => ∃ (l : Nat), ∃ (h : Nat), (l < h) ∧ (h ≤ 1000000000) ∧ (n * l ≤ ((digs m).getD (j - 1) 0 + 1000000000 * r)) ∧ (((digs m).getD (j - 1) 0 + 1000000000 * r) < n * h) ∧ (h - l) = κ ∧ σ = ⟨[(0, .sl 1 (ns .u32 (digs m))), (1, .sl 1 (ns .u32 (digs n))), (6, .row 3), (8, Nv (j - 1)), (7, .slc 1 (ns .u32 (digs ((digs m).getD (j - 1) 0 + 1000000000 * r))) ((digs ((digs m).getD (j - 1) 0 + 1000000000 * r)).length)), (9, nm .u64 l), (10, nm .u64 h)], [(3, .row 145 1 (ns .u32 o))]⟩) ⟨_, _, ⟨0, 1000000000, (by decide), Nat.le_refl _, (by rw [Nat.mul_zero]; exact Nat.zero_le _), hXt, rfl, rfl⟩, ?wk1⟩ ?rd1
   case wk1 =>
    exact Wk.sub ⟨rfl, rfl, rfl, rfl, rfl, (by first | rfl | exact nm_int (by omega)), (by first | rfl | exact nm_int (by omega)), trivial⟩ ⟨rfl, trivial⟩
   rintro κ _ ⟨l, h, hlh, hh, hlo, hhi, rfl, rfl⟩
   have hml := digs_mul_len n ((l + h) / 2)
   have hmd := digs_len_small (n := (l + h) / 2) (by omega)
   have hnl := digs_len_le hlo
   refine awp_seq fun K13 hK13 => awp_seq fun K14 hK14 => awp_region rfl (o_mv (nm .u64 h) rfl (o_mv (nm .u64 l) rfl ?_))
   refine n_sub h l gn rfl rfl (by omega) (by simp only [topOf]; omega) ?_
   refine n_gtr (h - l) 1 gn rfl rfl ?_
   refine aops_end (hK14 _ ?_)
   refine awp_condQ (q := 1 < (h - l)) rfl (fun h3 => ?_) (fun h3 => ?_)
   ·refine awp_skip (hK13 _ ?_)
    refine awp_block ?_
    refine awp_seq fun K15 hK15 => awp_region rfl (o_mv (nm .u64 l) rfl (o_mv (nm .u64 h) rfl ?_))
    refine n_add l h gn rfl rfl (by simp only [topOf]; omega) ?_
    refine n_quo (l + h) 2 gn rfl rfl (by omega) (by simp only [topOf]; omega) ?_
    refine o_as (nm .u64 ((l + h) / 2)) rfl (aops_end (hK15 _ (awp_seq fun K16 hK16 => awp_region rfl (o_mv (.sl 1 (ns .u32 (digs n))) rfl (o_mv (nm .u64 ((l + h) / 2)) rfl ?_)))))
    refine o_ct (c_wTimes n ((l + h) / 2) (by omega) (by omega)) gn f74_ rfl ?_
    refine o_mv (.slc 1 (ns .u32 (digs ((digs m).getD (j - 1) 0 + 1000000000 * r))) ((digs ((digs m).getD (j - 1) 0 + 1000000000 * r)).length)) rfl ?_
    refine o_callG [] [.sl 1 (ns .u32 (digs (n * ((l + h) / 2)))), .slc 1 (ns .u32 (digs ((digs m).getD (j - 1) 0 + 1000000000 * r))) ((digs ((digs m).getD (j - 1) 0 + 1000000000 * r)).length)] _ (Iv (cmpN (n * ((l + h) / 2)) ((digs m).getD (j - 1) 0 + 1000000000 * r))) [(3, .row 145 1 (ns .u32 o))] gn f24_ rfl trivial rfl rfl (LeL.cons (AV.le_refl _) (LeL.cons AV.le_slc LeL.nil)) (c_wSize (n * ((l + h) / 2)) ((digs m).getD (j - 1) 0 + 1000000000 * r)) rfl ?_
    refine o_leq (a := (cmpN (n * ((l + h) / 2)) ((digs m).getD (j - 1) 0 + 1000000000 * r))) (c := ((0 : Nat) : Int)) gn rfl rfl ?_
    refine aops_end (hK16 _ ?_)
    refine awp_condQ (q := (cmpN (n * ((l + h) / 2)) ((digs m).getD (j - 1) 0 + 1000000000 * r)) ≤ ((0 : Nat) : Int)) rfl (fun h4 => ?_) (fun h4 => ?_)
    ·refine awp_region rfl (o_mv (nm .u64 ((l + h) / 2)) rfl (o_as (nm .u64 ((l + h) / 2)) rfl (aops_end ?_)))
     refine ⟨_, _, ?lt, ⟨(l + h) / 2, h, (by omega), hh, cmpN_le h4, hhi, rfl, rfl⟩, ?wk⟩
     case lt => omega
     case wk => exact Wk.sub ⟨rfl, rfl, rfl, rfl, rfl, (by first | rfl | exact nm_int (by omega)), rfl, trivial⟩ ⟨rfl, trivial⟩
    ·refine awp_region rfl (o_mv (nm .u64 ((l + h) / 2)) rfl (o_as (nm .u64 ((l + h) / 2)) rfl (aops_end ?_)))
     refine ⟨_, _, ?lt, ⟨l, (l + h) / 2, (by omega), (by omega), hlo, cmpN_nle h4, rfl, rfl⟩, ?wk⟩
     case lt => omega
     case wk => exact Wk.sub ⟨rfl, rfl, rfl, rfl, rfl, rfl, (by first | rfl | exact nm_int (by omega)), trivial⟩ ⟨rfl, trivial⟩
   ·have hh1 : h = l + 1 := by omega
    have hend := hhi
    rw [hh1] at hend
    refine awp_exit ?_
    refine hK12 _ (awp_seq fun K17 hK17 => awp_region rfl (o_mv (.row 3) rfl (o_mv (Nv (j - 1)) rfl (o_mv (nm .u64 l) rfl ?_))))
    refine n_conv l gn rfl f40_ f28_ (by simp only [topOf]; omega) ?_
    refine n_indexRow o (j - 1) gn f16_ rfl rfl rfl (by omega) ?_
    refine n_storeRow o (j - 1) l [(3, .row 145 1 (ns .u32 (o.set (j - 1) l)))] gn f42_ rfl rfl rfl (by omega) rfl ?_
    refine aops_end (hK17 _ (awp_region rfl (o_mv (.slc 1 (ns .u32 (digs ((digs m).getD (j - 1) 0 + 1000000000 * r))) ((digs ((digs m).getD (j - 1) 0 + 1000000000 * r)).length)) rfl (o_mv (.sl 1 (ns .u32 (digs n))) rfl (o_mv (nm .u64 l) rfl ?_)))))
    refine o_ct (c_wTimes n l (by omega) (by omega)) gn f74_ rfl ?_
    refine o_callG [] [.slc 1 (ns .u32 (digs ((digs m).getD (j - 1) 0 + 1000000000 * r))) ((digs ((digs m).getD (j - 1) 0 + 1000000000 * r)).length), .sl 1 (ns .u32 (digs (n * l)))] _ (.sl 1 (ns .u32 (dgn (digs ((digs m).getD (j - 1) 0 + 1000000000 * r)).length (((digs m).getD (j - 1) 0 + 1000000000 * r) - (n * l))))) [(3, .row 145 1 (ns .u32 (o.set (j - 1) l)))] gn f36_ rfl trivial rfl rfl (LeL.cons AV.le_slc (LeL.cons (AV.le_refl _) LeL.nil)) (c_wLess ((digs m).getD (j - 1) 0 + 1000000000 * r) (n * l) (by omega) (by omega) (by omega)) rfl ?_
    refine o_ct (c_wTrimX false (dgn (digs ((digs m).getD (j - 1) 0 + 1000000000 * r)).length (((digs m).getD (j - 1) 0 + 1000000000 * r) - (n * l))) (by first | assumption | exact dgn_dig _ _ | exact digs_dig _ | exact Dig.snoc (by assumption) (by assumption) | exact Dig.cons (by omega) (digs_dig _))) gn f35_ rfl ?_
    refine o_fieldS (.slc 1 (ns .u32 (digs (sg false (val (dgn (digs ((digs m).getD (j - 1) 0 + 1000000000 * r)).length (((digs m).getD (j - 1) 0 + 1000000000 * r) - (n * l))))).natAbs)) ((digs (sg false (val (dgn (digs ((digs m).getD (j - 1) 0 + 1000000000 * r)).length (((digs m).getD (j - 1) 0 + 1000000000 * r) - (n * l))))).natAbs).length)) gn f5_ f6_ rfl rfl ?_
    refine n_as (v' := (.slc 1 (ns .u32 (digs (((digs m).getD (j - 1) 0 + 1000000000 * r) - n * l))) ((digs (((digs m).getD (j - 1) 0 + 1000000000 * r) - n * l)).length))) (by exact nc_sg (val_minus _ _)) ?_
    refine o_as (.slc 1 (ns .u32 (digs (((digs m).getD (j - 1) 0 + 1000000000 * r) - n * l))) ((digs (((digs m).getD (j - 1) 0 + 1000000000 * r) - n * l)).length)) rfl (aops_end (hK7 _ (awp_region rfl (o_mv (Nv (j - 1)) rfl ?_))))
    refine o_sub (a := ((j - 1 : Nat) : Int)) (c := ((1 : Nat) : Int)) gn rfl rfl (by exact wrap64 (by omega) (by omega)) ?_
    refine o_as (Iv (((j - 1 : Nat) : Int) - ((1 : Nat) : Int))) rfl (aops_end ?_)
    refine ⟨_, _, ?lt, ⟨j - 1, o.set (j - 1) l, ((digs m).getD (j - 1) 0 + 1000000000 * r) - n * l, (by omega), (by simp only [List.length_set]; exact hl), (hd.set (by omega)), (fun k hk => by rw [getD_set_off (by omega)]; exact hz k (by omega)), quo_rest hlo hend, (quo_put (by omega) hl (by rw [Nat.sub_add_cancel (by omega)]; exact hv) hlo hend), rfl, rfl⟩, ?wk⟩
    case lt => omega
    case wk => exact Wk.sub ⟨rfl, rfl, rfl, (by first | rfl | exact int_eq (by omega) | exact int_nm (by omega)), (by first | rfl | simp), trivial⟩ ⟨(by first | rfl | exact row_ns (by simp)), trivial⟩
 ·have hj0 : j = 0 := by omega
  have hv0 := hv
  rw [hj0] at hv0
  have hE := div_end hr hv0
  refine awp_exit ?_
  refine hK3 _ (awp_seq fun K18 hK18 => awp_region rfl (o_mv (.row 3) rfl (o_mv (.slc 1 (ns .u32 (digs r)) ((digs r).length)) rfl (o_as (.row 3) rfl (o_as (.slc 1 (ns .u32 (digs r)) ((digs r).length)) rfl (aops_end (hK18 _ ?_)))))))
  refine awp_wk (σ' := ⟨[(4, .row 3), (5, .slc 1 (ns .u32 (digs r)) ((digs r).length))], [(3, .row 145 1 (ns .u32 o))]⟩) (Wk.sub ⟨rfl, rfl, trivial⟩ ⟨rfl, trivial⟩) ?_
  refine awp_wk (σ' := ⟨[(4, .sl 1 (ns .u32 o)), (5, .slc 1 (ns .u32 (digs r)) ((digs r).length))], []⟩) (Wk.freeze (id := 3) (e := 145) (sz := 1) (cs := (ns .u32 o)) rfl) ?_
  refine awp_ret ?_
  refine post_ret ⟨[.sl 1 (ns .u32 o), .sl 1 (ns .u32 (digs r))], ⟨AV.le_refl _, AV.le_slc, trivial⟩, rfl, ?_⟩
  exact tup_eq2 (ns_congr (dgn_eq hd hl hE.1).symm) (ns_congr (by rw [← hE.2]))

end Go.Proofs.YtdmkejloknejdaaGreatDoor

namespace Go.Proofs.YtdmkejloknejdaaGreatDoor
open Go Go.Ab Go.Mth
theorem f75_ : callable cx.P 144 = true := by kernel_rfl
theorem f76_ : callable cx.P 119 = true := by kernel_rfl
theorem c_wDivide (x y : Int) (hy : 0 < y) (hx : (digs x.natAbs).length ≤ 800000000) (hyl : (digs y.natAbs).length ≤ 800000000) : ECalls cx 119 [intW x, intW y] (.tup [intW (x / y), intW (x % y)]) := by
 refine ecalls_of_awp Tryz.func119 (c := _) rfl (Nat.le_of_ble_eq_true rfl) ?_
 show awp cx 40 _ (postF cx Tryz.f119 _) ⟨[(0, intW x), (1, intW y)], []⟩
 have hlq := fun b => len_qN b x y
 have hlr := fun b => len_rN b x y
 have hq1 : (digs ((sg true (val (dgn (digs (x.natAbs)).length (x.natAbs / y.natAbs)))).natAbs)).length ≤ (digs x.natAbs).length := hlq true
 have hr1 : (digs ((sg true (val (digs (x.natAbs % y.natAbs)))).natAbs)).length ≤ (digs x.natAbs).length := hlr true
 have ho := len_one
 refine awp_seq fun K0 hK0 => awp_region rfl ?_
 refine o_box 2 [bp (x < 0), .sl 1 (ns .u32 (digs x.natAbs))] gn rfl rfl ?_
 refine o_box 3 [bp (y < 0), .sl 1 (ns .u32 (digs y.natAbs))] gn rfl rfl ?_
 refine o_alloc 4 [Fv, Zv] gn f15_ rfl rfl rfl ?_
 refine o_alloc 5 [Fv, Zv] gn f15_ rfl rfl rfl ?_
 refine aops_end (hK0 _ (awp_seq fun K1 hK1 => awp_region rfl ?_))
 refine o_fieldRef 1 gn f5_ rfl rfl ?_
 refine o_loadS (.sl 1 (ns .u32 (digs x.natAbs))) gn f6_ rfl rfl rfl ?_
 refine o_fieldRef 1 gn f5_ rfl rfl ?_
 refine o_loadS (.sl 1 (ns .u32 (digs y.natAbs))) gn f6_ rfl rfl rfl ?_
 refine o_ct (c_wQuot (x.natAbs) (y.natAbs) (by omega) (by omega) (by omega)) gn f75_ rfl ?_
 refine o_mv (.tup [.sl 1 (ns .u32 (dgn (digs (x.natAbs)).length (x.natAbs / y.natAbs))), .sl 1 (ns .u32 (digs (x.natAbs % y.natAbs)))]) rfl (o_extract (.sl 1 (ns .u32 (dgn (digs (x.natAbs)).length (x.natAbs / y.natAbs)))) gn rfl rfl (o_extract (.sl 1 (ns .u32 (digs (x.natAbs % y.natAbs)))) gn rfl rfl (o_as (.sl 1 (ns .u32 (dgn (digs (x.natAbs)).length (x.natAbs / y.natAbs)))) rfl (o_as (.sl 1 (ns .u32 (digs (x.natAbs % y.natAbs)))) rfl (aops_end (hK1 _ (awp_seq fun K2 hK2 => awp_seq fun K3 hK3 => awp_region rfl ?_)))))))
 refine o_fieldRef 0 gn f8_ rfl rfl ?_
 refine o_loadS (bp (x < 0)) gn f4_ rfl rfl rfl ?_
 refine o_notP (q := x < 0) gn rfl ?_
 refine aops_end (hK3 _ ?_)
 refine awp_condQ (q := ¬ (x < 0)) rfl (fun h1 => ?_) (fun h1 => ?_)
 ·refine awp_seq fun K4 hK4 => awp_region rfl (o_mv (.sl 1 (ns .u32 (dgn (digs (x.natAbs)).length (x.natAbs / y.natAbs)))) rfl ?_)
  refine o_ct (c_wTrim false (dgn (digs (x.natAbs)).length (x.natAbs / y.natAbs)) (by first | assumption | exact dgn_dig _ _ | exact digs_dig _ | exact Dig.snoc (by assumption) (by assumption) | exact Dig.cons (by omega) (digs_dig _))) gn f35_ rfl ?_
  refine o_mv (.sl 1 (ns .u32 (digs (x.natAbs % y.natAbs)))) rfl ?_
  refine o_ct (c_wTrim false (digs (x.natAbs % y.natAbs)) (by first | assumption | exact dgn_dig _ _ | exact digs_dig _ | exact Dig.snoc (by assumption) (by assumption) | exact Dig.cons (by omega) (digs_dig _))) gn f35_ rfl ?_
  refine o_store [(5, .var 90 [Fv, Zv]), (4, oZ 90 .u32 (sg false (val (dgn (digs (x.natAbs)).length (x.natAbs / y.natAbs))))), (3, oZ 90 .u32 y), (2, oZ 90 .u32 x)] gn f19_ rfl rfl rfl rfl rfl rfl ?_
  refine o_store [(5, oZ 90 .u32 (sg false (val (digs (x.natAbs % y.natAbs))))), (4, oZ 90 .u32 (sg false (val (dgn (digs (x.natAbs)).length (x.natAbs / y.natAbs))))), (3, oZ 90 .u32 y), (2, oZ 90 .u32 x)] gn f19_ rfl rfl rfl rfl rfl rfl ?_
  refine aops_end (hK4 _ ?_)
  refine awp_ret ?_
  refine post_ret ⟨[intW (sg false (val (dgn (digs (x.natAbs)).length (x.natAbs / y.natAbs)))), intW (sg false (val (digs (x.natAbs % y.natAbs))))], ⟨⟨4, oZ 90 .u32 (sg false (val (dgn (digs (x.natAbs)).length (x.natAbs / y.natAbs)))), rfl, rfl, rfl, Or.inl ⟨f20_, AV.le_refl _⟩⟩, ⟨5, oZ 90 .u32 (sg false (val (digs (x.natAbs % y.natAbs)))), rfl, rfl, rfl, Or.inl ⟨f20_, AV.le_refl _⟩⟩, trivial⟩, rfl, ?_⟩
  have e := div1 h1 hy
  exact tup_eq2 (congrArg intW e.1) (congrArg intW e.2)
 ·refine awp_skip (hK2 _ (awp_seq fun K5 hK5 => awp_region rfl (o_mv (.sl 1 (ns .u32 (dgn (digs (x.natAbs)).length (x.natAbs / y.natAbs)))) rfl ?_)))
  refine o_ct (c_wTrim true (dgn (digs (x.natAbs)).length (x.natAbs / y.natAbs)) (by first | assumption | exact dgn_dig _ _ | exact digs_dig _ | exact Dig.snoc (by assumption) (by assumption) | exact Dig.cons (by omega) (digs_dig _))) gn f35_ rfl ?_
  refine o_mv (.sl 1 (ns .u32 (digs (x.natAbs % y.natAbs)))) rfl ?_
  refine o_ct (c_wTrim true (digs (x.natAbs % y.natAbs)) (by first | assumption | exact dgn_dig _ _ | exact digs_dig _ | exact Dig.snoc (by assumption) (by assumption) | exact Dig.cons (by omega) (digs_dig _))) gn f35_ rfl ?_
  refine o_alloc 6 [Fv, Zv] gn f15_ rfl rfl rfl ?_
  refine o_alloc 7 [Fv, Zv] gn f15_ rfl rfl rfl ?_
  refine o_store [(7, .var 90 [Fv, Zv]), (6, oZ 90 .u32 (sg true (val (dgn (digs (x.natAbs)).length (x.natAbs / y.natAbs))))), (5, .var 90 [Fv, Zv]), (4, .var 90 [Fv, Zv]), (3, oZ 90 .u32 y), (2, oZ 90 .u32 x)] gn f19_ rfl rfl rfl rfl rfl rfl ?_
  refine o_store [(7, oZ 90 .u32 (sg true (val (digs (x.natAbs % y.natAbs))))), (6, oZ 90 .u32 (sg true (val (dgn (digs (x.natAbs)).length (x.natAbs / y.natAbs))))), (5, .var 90 [Fv, Zv]), (4, .var 90 [Fv, Zv]), (3, oZ 90 .u32 y), (2, oZ 90 .u32 x)] gn f19_ rfl rfl rfl rfl rfl rfl ?_
  refine aops_end (hK5 _ (awp_seq fun K6 hK6 => awp_seq fun K7 hK7 => awp_region rfl ?_))
  refine o_loadA [bp ((sg true (val (digs (x.natAbs % y.natAbs)))) < 0), .sl 1 (ns .u32 (digs (sg true (val (digs (x.natAbs % y.natAbs)))).natAbs))] gn f20_ rfl rfl rfl rfl rfl ?_
  refine o_ct (c_wSign (sg true (val (digs (x.natAbs % y.natAbs))))) gn f23_ rfl ?_
  refine o_lss (a := (sgn (sg true (val (digs (x.natAbs % y.natAbs)))))) (c := ((0 : Nat) : Int)) gn rfl rfl ?_
  refine aops_end (hK7 _ ?_)
  refine awp_condQ (q := (sgn (sg true (val (digs (x.natAbs % y.natAbs))))) < ((0 : Nat) : Int)) rfl (fun h2 => ?_) (fun h2 => ?_)
  ·refine awp_seq fun K8 hK8 => awp_regionD rfl ?_
   refine o_loadA [bp ((sg true (val (dgn (digs (x.natAbs)).length (x.natAbs / y.natAbs)))) < 0), .sl 1 (ns .u32 (digs (sg true (val (dgn (digs (x.natAbs)).length (x.natAbs / y.natAbs)))).natAbs))] gn f20_ rfl rfl rfl rfl rfl ?_
   refine o_ct (c_wOf (1 : Int) (by first | decide | omega) (by first | decide | omega)) gn f46_ rfl ?_
   refine o_ct (c_wSub (sg true (val (dgn (digs (x.natAbs)).length (x.natAbs / y.natAbs)))) (1 : Int) (by first | omega | assumption | (simp only [Int.natAbs_neg]; omega)) (by first | omega | assumption | (simp only [Int.natAbs_neg]; omega))) gn f47_ rfl ?_
   refine o_loadA [bp ((sg true (val (digs (x.natAbs % y.natAbs)))) < 0), .sl 1 (ns .u32 (digs (sg true (val (digs (x.natAbs % y.natAbs)))).natAbs))] gn f20_ rfl rfl rfl rfl rfl ?_
   refine o_loadA [bp (y < 0), .sl 1 (ns .u32 (digs y.natAbs))] gn f20_ rfl rfl rfl rfl rfl ?_
   refine o_ct (c_wAdd (sg true (val (digs (x.natAbs % y.natAbs)))) y (by first | omega | assumption | (simp only [Int.natAbs_neg]; omega)) (by first | omega | assumption | (simp only [Int.natAbs_neg]; omega))) gn f38_ rfl ?_
   refine o_store [(7, oZ 90 .u32 (sg true (val (digs (x.natAbs % y.natAbs))))), (6, oZ 90 .u32 (sg true (val (dgn (digs (x.natAbs)).length (x.natAbs / y.natAbs))))), (5, .var 90 [Fv, Zv]), (4, (oZ 90 .u32 ((sg true (val (dgn (digs (x.natAbs)).length (x.natAbs / y.natAbs)))) - (1 : Int)))), (3, oZ 90 .u32 y), (2, oZ 90 .u32 x)] gn f19_ rfl rfl rfl rfl rfl rfl ?_
   refine o_store [(7, oZ 90 .u32 (sg true (val (digs (x.natAbs % y.natAbs))))), (6, oZ 90 .u32 (sg true (val (dgn (digs (x.natAbs)).length (x.natAbs / y.natAbs))))), (5, oZ 90 .u32 ((sg true (val (digs (x.natAbs % y.natAbs)))) + y)), (4, (oZ 90 .u32 ((sg true (val (dgn (digs (x.natAbs)).length (x.natAbs / y.natAbs)))) - (1 : Int)))), (3, oZ 90 .u32 y), (2, oZ 90 .u32 x)] gn f19_ rfl rfl rfl rfl rfl rfl ?_
   refine aops_end ⟨by kernel_rfl, ?_⟩
   refine hK8 _ ?_
   refine awp_ret ?_
   refine post_ret ⟨[(intW ((sg true (val (dgn (digs (x.natAbs)).length (x.natAbs / y.natAbs)))) - (1 : Int))), intW ((sg true (val (digs (x.natAbs % y.natAbs)))) + y)], ⟨⟨4, (oZ 90 .u32 ((sg true (val (dgn (digs (x.natAbs)).length (x.natAbs / y.natAbs)))) - (1 : Int))), rfl, rfl, rfl, Or.inl ⟨f20_, AV.le_refl _⟩⟩, ⟨5, oZ 90 .u32 ((sg true (val (digs (x.natAbs % y.natAbs)))) + y), rfl, rfl, rfl, Or.inl ⟨f20_, AV.le_refl _⟩⟩, trivial⟩, rfl, ?_⟩
   have e := div2 (Decidable.not_not.1 h1) hy h2
   exact tup_eq2 (congrArg intW e.1) (congrArg intW e.2)
  ·refine awp_skip (hK6 _ (awp_seq fun K9 hK9 => awp_regionD rfl ?_))
   refine o_loadA [bp ((sg true (val (dgn (digs (x.natAbs)).length (x.natAbs / y.natAbs)))) < 0), .sl 1 (ns .u32 (digs (sg true (val (dgn (digs (x.natAbs)).length (x.natAbs / y.natAbs)))).natAbs))] gn f20_ rfl rfl rfl rfl rfl ?_
   refine o_loadA [bp ((sg true (val (digs (x.natAbs % y.natAbs)))) < 0), .sl 1 (ns .u32 (digs (sg true (val (digs (x.natAbs % y.natAbs)))).natAbs))] gn f20_ rfl rfl rfl rfl rfl ?_
   refine o_store [(7, oZ 90 .u32 (sg true (val (digs (x.natAbs % y.natAbs))))), (6, oZ 90 .u32 (sg true (val (dgn (digs (x.natAbs)).length (x.natAbs / y.natAbs))))), (5, .var 90 [Fv, Zv]), (4, oZ 90 .u32 (sg true (val (dgn (digs (x.natAbs)).length (x.natAbs / y.natAbs))))), (3, oZ 90 .u32 y), (2, oZ 90 .u32 x)] gn f19_ rfl rfl rfl rfl rfl rfl ?_
   refine o_store [(7, oZ 90 .u32 (sg true (val (digs (x.natAbs % y.natAbs))))), (6, oZ 90 .u32 (sg true (val (dgn (digs (x.natAbs)).length (x.natAbs / y.natAbs))))), (5, oZ 90 .u32 (sg true (val (digs (x.natAbs % y.natAbs))))), (4, oZ 90 .u32 (sg true (val (dgn (digs (x.natAbs)).length (x.natAbs / y.natAbs))))), (3, oZ 90 .u32 y), (2, oZ 90 .u32 x)] gn f19_ rfl rfl rfl rfl rfl rfl ?_
   refine aops_end ⟨by kernel_rfl, ?_⟩
   refine hK9 _ ?_
   refine awp_ret ?_
   refine post_ret ⟨[intW (sg true (val (dgn (digs (x.natAbs)).length (x.natAbs / y.natAbs)))), intW (sg true (val (digs (x.natAbs % y.natAbs))))], ⟨⟨4, oZ 90 .u32 (sg true (val (dgn (digs (x.natAbs)).length (x.natAbs / y.natAbs)))), rfl, rfl, rfl, Or.inl ⟨f20_, AV.le_refl _⟩⟩, ⟨5, oZ 90 .u32 (sg true (val (digs (x.natAbs % y.natAbs)))), rfl, rfl, rfl, Or.inl ⟨f20_, AV.le_refl _⟩⟩, trivial⟩, rfl, ?_⟩
   have e := div3 (Decidable.not_not.1 h1) hy h2
   exact tup_eq2 (congrArg intW e.1) (congrArg intW e.2)

theorem c_wGcd (x y : Int) (hx : (digs x.natAbs).length ≤ 800000000) (hyl : (digs y.natAbs).length ≤ 800000000) : ECalls cx 118 [intW x, intW y] (intW ((Int.gcd x y : Nat) : Int)) := by
 refine ecalls_of_awp Tryz.func118 (c := _) rfl (Nat.le_of_ble_eq_true rfl) ?_
 show awp cx 25 _ (postF cx Tryz.f118 _) ⟨[(0, intW x), (1, intW y)], []⟩
 refine awp_seq fun K0 hK0 => awp_region rfl ?_
 refine o_box 2 [bp (x < 0), .sl 1 (ns .u32 (digs x.natAbs))] gn rfl rfl ?_
 refine o_box 3 [bp (y < 0), .sl 1 (ns .u32 (digs y.natAbs))] gn rfl rfl ?_
 refine o_alloc 4 [Fv, Zv] gn f15_ rfl rfl rfl ?_
 refine aops_end (hK0 _ (awp_seq fun K1 hK1 => awp_regionD rfl ?_))
 refine o_fieldRef 1 gn f5_ rfl rfl ?_
 refine o_loadS (.sl 1 (ns .u32 (digs x.natAbs))) gn f6_ rfl rfl rfl ?_
 refine o_ct (c_wTrim false (digs x.natAbs) (by first | assumption | exact dgn_dig _ _ | exact digs_dig _ | exact Dig.snoc (by assumption) (by assumption) | exact Dig.cons (by omega) (digs_dig _))) gn f35_ rfl ?_
 refine n_as (v' := (intW ((x.natAbs : Nat) : Int))) (by exact congrArg intW (by rw [val_digs]; rfl)) ?_
 refine o_fieldRef 1 gn f5_ rfl rfl ?_
 refine o_loadS (.sl 1 (ns .u32 (digs y.natAbs))) gn f6_ rfl rfl rfl ?_
 refine o_ct (c_wTrim false (digs y.natAbs) (by first | assumption | exact dgn_dig _ _ | exact digs_dig _ | exact Dig.snoc (by assumption) (by assumption) | exact Dig.cons (by omega) (digs_dig _))) gn f35_ rfl ?_
 refine n_as (v' := (intW ((y.natAbs : Nat) : Int))) (by exact congrArg intW (by rw [val_digs]; rfl)) ?_
 refine o_store [(4, .var 90 [Fv, Zv]), (3, oZ 90 .u32 y), (2, (oZ 90 .u32 ((x.natAbs : Nat) : Int)))] gn f19_ rfl rfl rfl rfl rfl rfl ?_
 refine o_store [(4, .var 90 [Fv, Zv]), (3, (oZ 90 .u32 ((y.natAbs : Nat) : Int))), (2, (oZ 90 .u32 ((x.natAbs : Nat) : Int)))] gn f19_ rfl rfl rfl rfl rfl rfl ?_
 refine aops_end ⟨by kernel_rfl, ?_⟩
 refine hK1 _ (awp_seq fun K2 hK2 => ?_)
 refine awp_block ?_
 refine awp_loopR (fun κ σ => ∃ (u : Nat), ∃ (v : Nat), (Nat.gcd u v = Int.gcd x y) ∧ ((digs u).length ≤ 800000000) ∧ ((digs v).length ≤ 800000000) ∧ v = κ ∧ σ = ⟨[(2, .ref 2 0), (3, .ref 3 0), (4, .ref 4 0)], [(2, (oZ 90 .u32 ((u : Nat) : Int))), (3, (oZ 90 .u32 ((v : Nat) : Int))), (4, .var 90 [Fv, Zv])]⟩) ⟨_, _, ⟨x.natAbs, y.natAbs, rfl, hx, hyl, rfl, rfl⟩, ?wk0⟩ ?rd0
 case wk0 =>
  exact Wk.sub ⟨rfl, rfl, rfl, trivial⟩ ⟨rfl, rfl, rfl, trivial⟩
 rintro κ _ ⟨u, v, hg, hu, hv, rfl, rfl⟩
 have hu2 : (digs ((u : Nat) : Int).natAbs).length ≤ 800000000 := hu
 have hv2 : (digs ((v : Nat) : Int).natAbs).length ≤ 800000000 := hv
 refine awp_seq fun K3 hK3 => awp_seq fun K4 hK4 => awp_region rfl ?_
 refine o_loadA [(bp (((v : Nat) : Int) < 0)), (.sl 1 (ns .u32 (digs ((v : Nat) : Int).natAbs)))] gn f20_ rfl rfl rfl rfl rfl ?_
 refine o_ct (c_wSign ((v : Nat) : Int)) gn f23_ rfl ?_
 refine o_gtr (a := (sgn ((v : Nat) : Int))) (c := ((0 : Nat) : Int)) gn rfl rfl ?_
 refine aops_end (hK4 _ ?_)
 refine awp_condQ (q := ((0 : Nat) : Int) < (sgn ((v : Nat) : Int))) rfl (fun h1 => ?_) (fun h1 => ?_)
 ·have hvp := sgn_pos.1 h1
  have hv0 : 0 < v := by omega
  refine awp_skip (hK3 _ ?_)
  refine awp_block ?_
  refine awp_seq fun K5 hK5 => awp_region rfl ?_
  refine o_loadA [(bp (((u : Nat) : Int) < 0)), (.sl 1 (ns .u32 (digs ((u : Nat) : Int).natAbs)))] gn f20_ rfl rfl rfl rfl rfl ?_
  refine o_loadA [(bp (((v : Nat) : Int) < 0)), (.sl 1 (ns .u32 (digs ((v : Nat) : Int).natAbs)))] gn f20_ rfl rfl rfl rfl rfl ?_
  refine o_ct (c_wDivide ((u : Nat) : Int) ((v : Nat) : Int) (by omega) (by omega) (by omega)) gn f76_ rfl ?_
  refine o_mv (.tup [(intW (((u : Nat) : Int) / ((v : Nat) : Int))), (intW (((u : Nat) : Int) % ((v : Nat) : Int)))]) rfl (o_extract (intW (((u : Nat) : Int) / ((v : Nat) : Int))) gn rfl rfl (o_extract (intW (((u : Nat) : Int) % ((v : Nat) : Int))) gn rfl rfl ?_))
  refine n_as (v' := (intW ((u % v : Nat) : Int))) (by exact congrArg intW (Int.natCast_emod u v).symm) ?_
  refine o_alloc 101 [Fv, Zv] gn f15_ rfl rfl rfl ?_
  refine o_alloc 102 [Fv, Zv] gn f15_ rfl rfl rfl ?_
  refine o_store [(102, .var 90 [Fv, Zv]), (101, (oZ 90 .u32 (((u : Nat) : Int) / ((v : Nat) : Int)))), (2, (oZ 90 .u32 ((u : Nat) : Int))), (3, (oZ 90 .u32 ((v : Nat) : Int))), (4, .var 90 [Fv, Zv])] gn f19_ rfl rfl rfl rfl rfl rfl ?_
  refine o_store [(102, (oZ 90 .u32 ((u % v : Nat) : Int))), (101, (oZ 90 .u32 (((u : Nat) : Int) / ((v : Nat) : Int)))), (2, (oZ 90 .u32 ((u : Nat) : Int))), (3, (oZ 90 .u32 ((v : Nat) : Int))), (4, .var 90 [Fv, Zv])] gn f19_ rfl rfl rfl rfl rfl rfl ?_
  refine aops_end (hK5 _ (awp_regionD rfl ?_))
  refine o_loadA [(bp (((v : Nat) : Int) < 0)), (.sl 1 (ns .u32 (digs ((v : Nat) : Int).natAbs)))] gn f20_ rfl rfl rfl rfl rfl ?_
  refine o_loadA [(bp (((u % v : Nat) : Int) < 0)), (.sl 1 (ns .u32 (digs ((u % v : Nat) : Int).natAbs)))] gn f20_ rfl rfl rfl rfl rfl ?_
  refine o_store [(102, (oZ 90 .u32 ((u % v : Nat) : Int))), (101, (oZ 90 .u32 (((u : Nat) : Int) / ((v : Nat) : Int)))), (2, (oZ 90 .u32 ((v : Nat) : Int))), (3, (oZ 90 .u32 ((v : Nat) : Int))), (4, .var 90 [Fv, Zv])] gn f19_ rfl rfl rfl rfl rfl rfl ?_
  refine o_store [(102, (oZ 90 .u32 ((u % v : Nat) : Int))), (101, (oZ 90 .u32 (((u : Nat) : Int) / ((v : Nat) : Int)))), (2, (oZ 90 .u32 ((v : Nat) : Int))), (3, (oZ 90 .u32 ((u % v : Nat) : Int))), (4, .var 90 [Fv, Zv])] gn f19_ rfl rfl rfl rfl rfl rfl ?_
  refine aops_end ⟨by kernel_rfl, ?_⟩
  refine ⟨_, _, ?lt, ⟨v, u % v, gcd_next hg, hv, Nat.le_trans (digs_len_mod u hv0) hv, rfl, rfl⟩, ?wk⟩
  case lt => exact Nat.mod_lt u hv0
  case wk => exact Wk.sub ⟨rfl, rfl, rfl, trivial⟩ ⟨rfl, rfl, rfl, trivial⟩
 ·have hvz : v = 0 := (Nat.eq_zero_or_pos v).elim id (fun e => absurd (sgn_pos.2 (show (0 : Int) < ((v : Nat) : Int) by omega)) h1)
  refine awp_exit ?_
  refine hK2 _ (awp_seq fun K6 hK6 => awp_region rfl ?_)
  refine o_loadA [(bp (((u : Nat) : Int) < 0)), (.sl 1 (ns .u32 (digs ((u : Nat) : Int).natAbs)))] gn f20_ rfl rfl rfl rfl rfl ?_
  refine o_store [(2, (oZ 90 .u32 ((u : Nat) : Int))), (3, (oZ 90 .u32 ((v : Nat) : Int))), (4, (oZ 90 .u32 ((u : Nat) : Int)))] gn f19_ rfl rfl rfl rfl rfl rfl ?_
  refine aops_end (hK6 _ ?_)
  refine awp_ret ?_
  refine post_ret ⟨[(intW ((u : Nat) : Int))], ⟨⟨4, (oZ 90 .u32 ((u : Nat) : Int)), rfl, rfl, rfl, Or.inl ⟨f20_, AV.le_refl _⟩⟩, trivial⟩, rfl, ?_⟩
  exact congrArg intW (congrArg Int.ofNat (gcd_end hg hvz))

end Go.Proofs.YtdmkejloknejdaaGreatDoor

namespace Go.Proofs.YtdmkejloknejdaaGreatDoor
open Go Go.Ab Go.Mth
theorem f77_ : tyZero cx.P 140 = some [Go.Value.bool false, Go.Value.slice none 0 0, Go.Value.bool false, Go.Value.slice none 0 0, Go.Value.bool false, Go.Value.slice none 0 0] := by kernel_rfl
theorem f78_ : tyPlaces cx.P 140 = some (fun i => (#[(0, 2), (2, 2), (4, 2)] : Array (Nat × Nat))[i]?) := by kernel_rfl
theorem f79_ : tySize cx.P 140 = some 6 := by kernel_rfl
theorem f80_ : callable cx.P 116 = true := by kernel_rfl
theorem f81_ : tyField cx.P 140 0 = some (0, 90) := by kernel_rfl
theorem f82_ : tyField cx.P 140 1 = some (2, 90) := by kernel_rfl
theorem f83_ : tyField cx.P 140 2 = some (4, 90) := by kernel_rfl
theorem f84_ : tyAgg cx.P 140 = some 6 := by kernel_rfl
theorem c_oIs (m : MapM) (w : List Int) : ECalls cx 102 [mapV m, Lv w] (bp (OkW m w)) := by
 refine ecalls_of_awp Tryz.func102 (c := _) rfl (Nat.le_of_ble_eq_true rfl) ?_
 show awp cx 25 _ (postF cx Tryz.f102 _) ⟨[(0, mapV m), (1, Lv w)], []⟩
 refine awp_bound (i := 1) rfl fun hwl => ?_
 replace hwl := is_bnd hwl
 refine awp_seq fun K0 hK0 => awp_region rfl ?_
 refine o_box 2 [Iv m.mod, Lv m.mul, Lv m.add] gn rfl rfl ?_
 refine o_as Fv rfl (aops_end (hK0 _ (awp_seq fun K1 hK1 => awp_seq fun K2 hK2 => awp_region rfl (o_mv (Lv w) rfl ?_))))
 refine i_len w gn f2_ rfl ?_
 refine o_mv (Nv 0) rfl (aops_end (hK2 _ ?_))
 refine awp_block ?_
 refine awp_loopR (fun κ σ => ∃ (i : Nat), (i ≤ w.length) ∧ (∀ k, k < i → 0 ≤ w.getD k 0 ∧ w.getD k 0 < m.mod) ∧ (w.length - i) = κ ∧ σ = ⟨[(1, Lv w), (2, .ref 2 0), (7, Lv w), (8, Nv (w.length)), (9, Nv i)], [(2, oM 24 m)]⟩) ⟨_, _, ⟨0, (by omega), (fun k hk => by omega), rfl, rfl⟩, ?wk0⟩ ?rd0
 case wk0 =>
  exact Wk.sub ⟨rfl, rfl, rfl, rfl, (by first | rfl | exact nm_int (by omega)), trivial⟩ ⟨rfl, trivial⟩
 rintro κ _ ⟨i, hi, hf, rfl, rfl⟩
 refine awp_seq fun K3 hK3 => awp_region rfl ?_
 refine n_lss i (w.length) gn rfl rfl ?_
 refine aops_end (hK3 _ (awp_seq fun K4 hK4 => ?_))
 refine awp_condQ (q := i < (w.length)) rfl (fun h1 => ?_) (fun h1 => ?_)
 ·refine awp_skip (hK4 _ (awp_seq fun K5 hK5 => ?_))
  refine awp_block ?_
  refine awp_seq fun K6 hK6 => awp_region rfl ?_
  refine i_index w i gn f10_ rfl rfl (by omega) ?_
  refine i_loadI w i gn f11_ rfl (by omega) ?_
  refine o_as (Iv (w.getD i 0)) rfl (aops_end (hK6 _ (awp_seq fun K7 hK7 => awp_region rfl (o_mv (Iv (w.getD i 0)) rfl ?_))))
  refine o_lss (a := (w.getD i 0)) (c := ((0 : Nat) : Int)) gn rfl rfl ?_
  refine o_mv (bp ((w.getD i 0) < ((0 : Nat) : Int))) rfl ?_
  refine o_splitP (q := (w.getD i 0) < ((0 : Nat) : Int)) 15 rfl (fun h2 => ?_) (fun h2 => ?_)
  ·refine o_skip rfl rfl (decide_eq_true h2) (o_skip rfl rfl (decide_eq_true h2) (o_skip rfl rfl (decide_eq_true h2) (o_skip rfl rfl (decide_eq_true h2) ?_)))
   refine o_pickT Tv gn rfl (decide_eq_true h2) rfl ?_
   refine aops_end (hK7 _ ?_)
   refine awp_condB (b := true) rfl (fun _ => ?_) (fun hh => absurd (hh.symm.trans rfl) (by decide))
   refine awp_seq fun K8 hK8 => awp_region rfl (o_as Fv rfl (aops_end (hK8 _ ?_)))
   refine awp_ret ?_
   refine post_ret ⟨[Fv], ⟨AV.le_refl _, trivial⟩, rfl, ?_⟩
   exact (bl_bp (b := false) ⟨fun h => (by cases h), fun h => absurd h (fun hh => absurd (isW_get hh.1 h1).1 (by omega))⟩).symm
  ·refine o_move (Iv (w.getD i 0)) (Gd.yes rfl rfl (decide_eq_false h2)) rfl ?_
   refine o_fieldRef 0 (Gd.yes rfl rfl (decide_eq_false h2)) f59_ rfl rfl ?_
   refine o_loadS (Iv m.mod) (Gd.yes rfl rfl (decide_eq_false h2)) f11_ rfl rfl rfl ?_
   refine o_geq (a := (w.getD i 0)) (c := m.mod) (Gd.yes rfl rfl (decide_eq_false h2)) rfl rfl ?_
   refine o_pickF (bp (m.mod ≤ (w.getD i 0))) gn rfl (decide_eq_false h2) rfl ?_
   refine aops_end (hK7 _ ?_)
   refine awp_condQ (q := m.mod ≤ (w.getD i 0)) rfl (fun h3 => ?_) (fun h3 => ?_)
   ·refine awp_seq fun K9 hK9 => awp_region rfl (o_as Fv rfl (aops_end (hK9 _ ?_)))
    refine awp_ret ?_
    refine post_ret ⟨[Fv], ⟨AV.le_refl _, trivial⟩, rfl, ?_⟩
    exact (bl_bp (b := false) ⟨fun h => (by cases h), fun h => absurd h (fun hh => absurd (isW_get hh.1 h1).2 (by omega))⟩).symm
   ·refine awp_skip (hK5 _ (awp_region rfl ?_))
    refine n_add i 1 gn rfl rfl (by simp only [topOf]; omega) ?_
    refine o_mv (Nv (i + 1)) rfl (aops_end ?_)
    refine ⟨_, _, ?lt, ⟨i + 1, (by omega), (fun k hk => by rcases Nat.lt_or_ge k i with e | e; exact hf k e; rw [show k = i by omega]; omega), rfl, rfl⟩, ?wk⟩
    case lt => omega
    case wk => exact Wk.sub ⟨rfl, rfl, rfl, rfl, (by first | rfl | exact nm_int (by omega)), trivial⟩ ⟨rfl, trivial⟩
 ·refine awp_exit ?_
  refine hK1 _ (awp_seq fun K10 hK10 => awp_region rfl (o_mv (Lv w) rfl ?_))
  refine i_len w gn f2_ rfl ?_
  refine n_leq (w.length) 200 gn rfl rfl ?_
  refine o_as (bp ((w.length) ≤ 200)) rfl (aops_end (hK10 _ ?_))
  refine awp_ret ?_
  refine post_ret ⟨[bp ((w.length) ≤ 200)], ⟨AV.le_refl _, trivial⟩, rfl, ?_⟩
  exact bp_congr ⟨fun h => h.2, fun h => ⟨isW_of fun k hk => hf k (by omega), h⟩⟩

theorem c_oOf (m : MapM) (w : List Int) (hM : OkM m) (hw : IsW m w) (hl : w.length ≤ 200) : ECalls cx 91 [mapV m, Lv w] (linW (lineZ m w)) := by
 refine ecalls_of_awp Tryz.func91 (c := _) rfl (Nat.le_of_ble_eq_true rfl) ?_
 show awp cx 25 _ (postF cx Tryz.f91 _) ⟨[(0, mapV m), (1, Lv w)], []⟩
 have hM2 := hM
 obtain ⟨o1, o2, o3, o4, o5⟩ := hM2
 refine awp_seq fun K0 hK0 => awp_region rfl ?_
 refine o_box 2 [Iv m.mod, Lv m.mul, Lv m.add] gn rfl rfl ?_
 refine o_alloc 3 [Fv, Zv, Fv, Zv, Fv, Zv] gn f77_ rfl rfl rfl ?_
 refine aops_end (hK0 _ (awp_seq fun K1 hK1 => awp_region rfl ?_))
 refine o_ct (c_wOf (1 : Int) (by first | decide | omega) (by first | decide | omega)) gn f46_ rfl ?_
 refine o_ct (c_wOf (0 : Int) (by first | decide | omega) (by first | decide | omega)) gn f46_ rfl ?_
 refine o_ct (c_wOf (1 : Int) (by first | decide | omega) (by first | decide | omega)) gn f46_ rfl ?_
 refine o_build [(bp ((1 : Int) < 0)), (.sl 1 (ns .u32 (digs (1 : Int).natAbs))), (bp ((0 : Int) < 0)), (.sl 1 (ns .u32 (digs (0 : Int).natAbs))), (bp ((1 : Int) < 0)), (.sl 1 (ns .u32 (digs (1 : Int).natAbs)))] [(0, [(bp ((1 : Int) < 0)), (.sl 1 (ns .u32 (digs (1 : Int).natAbs)))]), (1, [(bp ((0 : Int) < 0)), (.sl 1 (ns .u32 (digs (0 : Int).natAbs)))]), (2, [(bp ((1 : Int) < 0)), (.sl 1 (ns .u32 (digs (1 : Int).natAbs)))])] gn f78_ f77_ rfl rfl rfl ?_
 refine o_alloc 4 [Fv, Zv, Fv, Zv, Fv, Zv] gn f77_ rfl rfl rfl ?_
 refine o_store [(4, (.var 140 [(bp ((1 : Int) < 0)), (.sl 1 (ns .u32 (digs (1 : Int).natAbs))), (bp ((0 : Int) < 0)), (.sl 1 (ns .u32 (digs (0 : Int).natAbs))), (bp ((1 : Int) < 0)), (.sl 1 (ns .u32 (digs (1 : Int).natAbs)))])), (3, .var 140 [Fv, Zv, Fv, Zv, Fv, Zv]), (2, oM 24 m)] gn f79_ rfl rfl rfl rfl rfl rfl ?_
 refine aops_end (hK1 _ (awp_seq fun K2 hK2 => awp_region rfl ?_))
 refine o_makeFunc [.ref 2 0, .ref 4 0] gn rfl ?_
 refine o_as (.clo 116 [.ref 2 0, .ref 4 0]) rfl (aops_end (hK2 _ (awp_seq fun K3 hK3 => awp_seq fun K4 hK4 => awp_region rfl (o_mv (Lv w) rfl ?_))))
 refine i_len w gn f2_ rfl ?_
 refine o_mv (Nv 0) rfl (aops_end (hK4 _ ?_))
 refine awp_block ?_
 refine awp_loopR (fun κ σ => ∃ (i : Nat), ∃ (l : LinZ), (i ≤ w.length) ∧ (l = lineZ m (w.take i)) ∧ (w.length - i) = κ ∧ σ = ⟨[(2, .ref 2 0), (4, .ref 3 0), (5, .ref 4 0), (6, .clo 116 [.ref 2 0, .ref 4 0]), (14, Lv w), (15, Nv (w.length)), (16, Nv i)], [(2, oM 24 m), (3, .var 140 [Fv, Zv, Fv, Zv, Fv, Zv]), (4, .var 140 [Bv (l.mul), Dv (l.mul), Bv (l.add), Dv (l.add), Bv (l.div), Dv (l.div)])]⟩) ⟨_, _, ⟨0, oneZ, (by omega), rfl, rfl, rfl⟩, ?wk0⟩ ?rd0
 case wk0 =>
  exact Wk.sub ⟨rfl, rfl, rfl, rfl, rfl, rfl, (by first | rfl | exact nm_int (by omega)), trivial⟩ ⟨rfl, rfl, rfl, trivial⟩
 rintro κ _ ⟨i, l, hi, hl2, rfl, rfl⟩
 refine awp_seq fun K5 hK5 => awp_region rfl ?_
 refine n_lss i (w.length) gn rfl rfl ?_
 refine aops_end (hK5 _ (awp_seq fun K6 hK6 => ?_))
 refine awp_condQ (q := i < (w.length)) rfl (fun h1 => ?_) (fun h1 => ?_)
 ·have hwi := isW_get hw h1
  refine awp_skip (hK6 _ (awp_seq fun K7 hK7 => ?_))
  refine awp_block ?_
  refine awp_seq fun K8 hK8 => awp_region rfl ?_
  refine i_index w i gn f10_ rfl rfl (by omega) ?_
  refine i_loadI w i gn f11_ rfl (by omega) ?_
  refine n_as (v' := (Nv ((w.getD i 0).toNat))) (nm_int (by omega)) ?_
  refine o_as (Nv ((w.getD i 0).toNat)) rfl (aops_end (hK8 _ ?_))
  refine awp_wk (σ' := ⟨[(2, .ref 2 0), (4, .ref 3 0), (5, .ref 4 0), (6, .clo 116 [.ref 2 0, .ref 4 0]), (14, Lv w), (15, Nv (w.length)), (16, Nv i), (17, bp (i < (w.length))), (18, .ip ((is .i64 w).drop i)), (19, Nv ((w.getD i 0).toNat)), (8, Nv ((w.getD i 0).toNat))], [(2, oM 24 m), (3, .var 140 [Fv, Zv, Fv, Zv, Fv, Zv]), (4, .var 140 [Bv (l.mul), Dv (l.mul), Bv (l.add), Dv (l.add), Bv (l.div), Dv (l.div)])]⟩) (Wk.sub ⟨rfl, rfl, rfl, rfl, rfl, rfl, rfl, rfl, rfl, rfl, rfl, trivial⟩ ⟨rfl, rfl, rfl, trivial⟩) ?_
  refine awp_regionSK 2 22 _ 116 [.ref 2 0, .ref 4 0] _ _ _ _ _ [Nv ((w.getD i 0).toNat), .ref 2 0, .ref 4 0] (linW (thenZ m l (w.getD i 0))) [(2, oM 24 m), (3, .var 140 [Fv, Zv, Fv, Zv, Fv, Zv]), (4, .var 140 [Bv (l.mul), Dv (l.mul), Bv (l.add), Dv (l.add), Bv (l.div), Dv (l.div)])] rfl rfl f80_ ?_
  refine o_mv (.clo 116 [.ref 2 0, .ref 4 0]) rfl (o_mv (Nv ((w.getD i 0).toNat)) rfl ?_)
  refine aops_end ⟨rfl, rfl, ?sc1, ?_⟩
  case sc1 =>
   refine scalls_of_awpB 9010 Tryz.func116 (c := _) rfl (Nat.le_of_ble_eq_true rfl) rfl rfl rfl (fun us1 => ?_)
   show awp cx 37 _ (postS cx Tryz.f116 (linW (thenZ m l (w.getD i 0))) [(2, oM 24 m), (3, .var 140 [Fv, Zv, Fv, Zv, Fv, Zv]), (4, .var 140 [Bv (l.mul), Dv (l.mul), Bv (l.add), Dv (l.add), Bv (l.div), Dv (l.div)])] 9010 [Nv ((w.getD i 0).toNat), .clo 116 [.ref 2 0, .ref 4 0], .ref 2 0, .ref 3 0, .ref 4 0, .clo 116 [.ref 2 0, .ref 4 0], Lv w, Nv (w.length), Nv i, bp (i < (w.length)), .ip ((is .i64 w).drop i), Nv ((w.getD i 0).toNat), Nv ((w.getD i 0).toNat)] us1) ⟨[(0, Nv ((w.getD i 0).toNat)), (1, .ref 2 0), (2, .ref 4 0)], [(9010, .pin [Nv ((w.getD i 0).toNat), .clo 116 [.ref 2 0, .ref 4 0], .ref 2 0, .ref 3 0, .ref 4 0, .clo 116 [.ref 2 0, .ref 4 0], Lv w, Nv (w.length), Nv i, bp (i < (w.length)), .ip ((is .i64 w).drop i), Nv ((w.getD i 0).toNat), Nv ((w.getD i 0).toNat)] us1), (2, oM 24 m), (3, .var 140 [Fv, Zv, Fv, Zv, Fv, Zv]), (4, .var 140 [Bv (l.mul), Dv (l.mul), Bv (l.add), Dv (l.add), Bv (l.div), Dv (l.div)])]⟩
   have hor := o5 ((w.getD i 0).toNat) (by omega)
   obtain ⟨L1, L2, L3⟩ := line_len hM (w.take i) (isW_take hw i)
   have L4 : (w.take i).length ≤ 200 := by rw [List.length_take]; omega
   rw [← hl2] at L1 L2 L3
   have hq1 := small_len (z := ((m.mul).getD ((w.getD i 0).toNat) 0)) (by omega)
   have ha1 := small_len (z := ((m.add).getD ((w.getD i 0).toNat) 0)) (by omega)
   have hd1 := small_len (z := m.mod) (by omega)
   have hm1 := len_mulZ l.mul ((m.mul).getD ((w.getD i 0).toNat) 0)
   have hm2 := len_mulZ l.add ((m.mul).getD ((w.getD i 0).toNat) 0)
   have hm3 := len_mulZ l.div ((m.add).getD ((w.getD i 0).toNat) 0)
   refine awp_seq fun K9 hK9 => awp_region rfl ?_
   refine o_alloc 101 [Fv, Zv, Fv, Zv, Fv, Zv] gn f77_ rfl rfl rfl ?_
   refine aops_end (hK9 _ (awp_seq fun K10 hK10 => awp_region rfl ?_))
   refine o_fieldRef 1 gn f60_ rfl rfl ?_
   refine o_loadS (Lv m.mul) gn f1_ rfl rfl rfl ?_
   refine o_mv (Nv ((w.getD i 0).toNat)) rfl ?_
   refine i_index m.mul ((w.getD i 0).toNat) gn f10_ rfl rfl (by omega) ?_
   refine i_loadI m.mul ((w.getD i 0).toNat) gn f11_ rfl (by omega) ?_
   refine o_ct (c_wOf ((m.mul).getD ((w.getD i 0).toNat) 0) (by first | decide | omega) (by first | decide | omega)) gn f46_ rfl ?_
   refine o_alloc 102 [Fv, Zv] gn f15_ rfl rfl rfl ?_
   refine o_store [(102, oZ 90 .u32 ((m.mul).getD ((w.getD i 0).toNat) 0)), (101, .var 140 [Fv, Zv, Fv, Zv, Fv, Zv]), (9010, .pin [Nv ((w.getD i 0).toNat), .clo 116 [.ref 2 0, .ref 4 0], .ref 2 0, .ref 3 0, .ref 4 0, .clo 116 [.ref 2 0, .ref 4 0], Lv w, Nv (w.length), Nv i, bp (i < (w.length)), .ip ((is .i64 w).drop i), Nv ((w.getD i 0).toNat), Nv ((w.getD i 0).toNat)] us1), (2, oM 24 m), (3, .var 140 [Fv, Zv, Fv, Zv, Fv, Zv]), (4, .var 140 [Bv (l.mul), Dv (l.mul), Bv (l.add), Dv (l.add), Bv (l.div), Dv (l.div)])] gn f19_ rfl rfl rfl rfl rfl rfl ?_
   refine aops_end (hK10 _ (awp_seq fun K11 hK11 => awp_regionD rfl ?_))
   refine o_fieldRef 0 gn f81_ rfl rfl ?_
   refine o_loadA [Bv (l.mul), Dv (l.mul)] gn f20_ rfl rfl rfl rfl rfl ?_
   refine o_loadA [bp ((m.mul).getD ((w.getD i 0).toNat) 0 < 0), .sl 1 (ns .u32 (digs ((m.mul).getD ((w.getD i 0).toNat) 0).natAbs))] gn f20_ rfl rfl rfl rfl rfl ?_
   refine o_ct (c_wMul (l.mul) ((m.mul).getD ((w.getD i 0).toNat) 0) (by first | omega | assumption | (simp only [Int.natAbs_neg]; omega)) (by first | omega | assumption | (simp only [Int.natAbs_neg]; omega))) gn f67_ rfl ?_
   refine o_fieldRef 2 gn f82_ rfl rfl ?_
   refine o_loadA [Bv (l.add), Dv (l.add)] gn f20_ rfl rfl rfl rfl rfl ?_
   refine o_loadA [bp ((m.mul).getD ((w.getD i 0).toNat) 0 < 0), .sl 1 (ns .u32 (digs ((m.mul).getD ((w.getD i 0).toNat) 0).natAbs))] gn f20_ rfl rfl rfl rfl rfl ?_
   refine o_ct (c_wMul (l.add) ((m.mul).getD ((w.getD i 0).toNat) 0) (by first | omega | assumption | (simp only [Int.natAbs_neg]; omega)) (by first | omega | assumption | (simp only [Int.natAbs_neg]; omega))) gn f67_ rfl ?_
   refine o_fieldRef 4 gn f83_ rfl rfl ?_
   refine o_loadA [Bv (l.div), Dv (l.div)] gn f20_ rfl rfl rfl rfl rfl ?_
   refine o_fieldRef 2 gn f61_ rfl rfl ?_
   refine o_loadS (Lv m.add) gn f1_ rfl rfl rfl ?_
   refine o_mv (Nv ((w.getD i 0).toNat)) rfl ?_
   refine i_index m.add ((w.getD i 0).toNat) gn f10_ rfl rfl (by omega) ?_
   refine i_loadI m.add ((w.getD i 0).toNat) gn f11_ rfl (by omega) ?_
   refine o_ct (c_wOf ((m.add).getD ((w.getD i 0).toNat) 0) (by first | decide | omega) (by first | decide | omega)) gn f46_ rfl ?_
   refine o_ct (c_wMul (l.div) ((m.add).getD ((w.getD i 0).toNat) 0) (by first | omega | assumption | (simp only [Int.natAbs_neg]; omega)) (by first | omega | assumption | (simp only [Int.natAbs_neg]; omega))) gn f67_ rfl ?_
   refine o_ct (c_wAdd ((l.add) * (m.mul).getD ((w.getD i 0).toNat) 0) ((l.div) * (m.add).getD ((w.getD i 0).toNat) 0) (by first | omega | assumption | (simp only [Int.natAbs_neg]; omega)) (by first | omega | assumption | (simp only [Int.natAbs_neg]; omega))) gn f38_ rfl ?_
   refine o_fieldRef 4 gn f83_ rfl rfl ?_
   refine o_loadA [Bv (l.div), Dv (l.div)] gn f20_ rfl rfl rfl rfl rfl ?_
   refine o_fieldRef 0 gn f59_ rfl rfl ?_
   refine o_loadS (Iv m.mod) gn f11_ rfl rfl rfl ?_
   refine o_ct (c_wOf m.mod (by first | decide | omega) (by first | decide | omega)) gn f46_ rfl ?_
   refine o_ct (c_wMul (l.div) m.mod (by first | omega | assumption | (simp only [Int.natAbs_neg]; omega)) (by first | omega | assumption | (simp only [Int.natAbs_neg]; omega))) gn f67_ rfl ?_
   refine o_build [bp (((l.mul) * (m.mul).getD ((w.getD i 0).toNat) 0) < 0), .sl 1 (ns .u32 (digs ((l.mul) * (m.mul).getD ((w.getD i 0).toNat) 0).natAbs)), bp ((((l.add) * (m.mul).getD ((w.getD i 0).toNat) 0) + ((l.div) * (m.add).getD ((w.getD i 0).toNat) 0)) < 0), .sl 1 (ns .u32 (digs (((l.add) * (m.mul).getD ((w.getD i 0).toNat) 0) + ((l.div) * (m.add).getD ((w.getD i 0).toNat) 0)).natAbs)), bp (((l.div) * m.mod) < 0), .sl 1 (ns .u32 (digs ((l.div) * m.mod).natAbs))] [(0, [bp (((l.mul) * (m.mul).getD ((w.getD i 0).toNat) 0) < 0), .sl 1 (ns .u32 (digs ((l.mul) * (m.mul).getD ((w.getD i 0).toNat) 0).natAbs))]), (1, [bp ((((l.add) * (m.mul).getD ((w.getD i 0).toNat) 0) + ((l.div) * (m.add).getD ((w.getD i 0).toNat) 0)) < 0), .sl 1 (ns .u32 (digs (((l.add) * (m.mul).getD ((w.getD i 0).toNat) 0) + ((l.div) * (m.add).getD ((w.getD i 0).toNat) 0)).natAbs))]), (2, [bp (((l.div) * m.mod) < 0), .sl 1 (ns .u32 (digs ((l.div) * m.mod).natAbs))])] gn f78_ f77_ rfl rfl rfl ?_
   refine o_store [(102, oZ 90 .u32 ((m.mul).getD ((w.getD i 0).toNat) 0)), (101, .var 140 [bp (((l.mul) * (m.mul).getD ((w.getD i 0).toNat) 0) < 0), .sl 1 (ns .u32 (digs ((l.mul) * (m.mul).getD ((w.getD i 0).toNat) 0).natAbs)), bp ((((l.add) * (m.mul).getD ((w.getD i 0).toNat) 0) + ((l.div) * (m.add).getD ((w.getD i 0).toNat) 0)) < 0), .sl 1 (ns .u32 (digs (((l.add) * (m.mul).getD ((w.getD i 0).toNat) 0) + ((l.div) * (m.add).getD ((w.getD i 0).toNat) 0)).natAbs)), bp (((l.div) * m.mod) < 0), .sl 1 (ns .u32 (digs ((l.div) * m.mod).natAbs))]), (9010, .pin [Nv ((w.getD i 0).toNat), .clo 116 [.ref 2 0, .ref 4 0], .ref 2 0, .ref 3 0, .ref 4 0, .clo 116 [.ref 2 0, .ref 4 0], Lv w, Nv (w.length), Nv i, bp (i < (w.length)), .ip ((is .i64 w).drop i), Nv ((w.getD i 0).toNat), Nv ((w.getD i 0).toNat)] us1), (2, oM 24 m), (3, .var 140 [Fv, Zv, Fv, Zv, Fv, Zv]), (4, .var 140 [Bv (l.mul), Dv (l.mul), Bv (l.add), Dv (l.add), Bv (l.div), Dv (l.div)])] gn f79_ rfl rfl rfl rfl rfl rfl ?_
   refine aops_end ⟨by kernel_rfl, ?_⟩
   refine hK11 _ ?_
   refine awp_wk (σ' := ⟨[(4, .ref 101 0)], [(9010, .pin [Nv ((w.getD i 0).toNat), .clo 116 [.ref 2 0, .ref 4 0], .ref 2 0, .ref 3 0, .ref 4 0, .clo 116 [.ref 2 0, .ref 4 0], Lv w, Nv (w.length), Nv i, bp (i < (w.length)), .ip ((is .i64 w).drop i), Nv ((w.getD i 0).toNat), Nv ((w.getD i 0).toNat)] us1), (2, oM 24 m), (3, .var 140 [Fv, Zv, Fv, Zv, Fv, Zv]), (4, .var 140 [Bv (l.mul), Dv (l.mul), Bv (l.add), Dv (l.add), Bv (l.div), Dv (l.div)]), (101, .var 140 [bp (((l.mul) * (m.mul).getD ((w.getD i 0).toNat) 0) < 0), .sl 1 (ns .u32 (digs ((l.mul) * (m.mul).getD ((w.getD i 0).toNat) 0).natAbs)), bp ((((l.add) * (m.mul).getD ((w.getD i 0).toNat) 0) + ((l.div) * (m.add).getD ((w.getD i 0).toNat) 0)) < 0), .sl 1 (ns .u32 (digs (((l.add) * (m.mul).getD ((w.getD i 0).toNat) 0) + ((l.div) * (m.add).getD ((w.getD i 0).toNat) 0)).natAbs)), bp (((l.div) * m.mod) < 0), .sl 1 (ns .u32 (digs ((l.div) * m.mod).natAbs))])]⟩) (Wk.sub ⟨rfl, trivial⟩ ⟨rfl, rfl, rfl, rfl, rfl, trivial⟩) ?_
   refine awp_ret ?_
   try dsimp only [thenK, inBlk]
   refine postS_ret (extra := [(101, .var 140 [bp (((l.mul) * (m.mul).getD ((w.getD i 0).toNat) 0) < 0), .sl 1 (ns .u32 (digs ((l.mul) * (m.mul).getD ((w.getD i 0).toNat) 0).natAbs)), bp ((((l.add) * (m.mul).getD ((w.getD i 0).toNat) 0) + ((l.div) * (m.add).getD ((w.getD i 0).toNat) 0)) < 0), .sl 1 (ns .u32 (digs (((l.add) * (m.mul).getD ((w.getD i 0).toNat) 0) + ((l.div) * (m.add).getD ((w.getD i 0).toNat) 0)).natAbs)), bp (((l.div) * m.mod) < 0), .sl 1 (ns .u32 (digs ((l.div) * m.mod).natAbs))])]) ?_ rfl
   refine ⟨[.agg [bp (((l.mul) * (m.mul).getD ((w.getD i 0).toNat) 0) < 0), .sl 1 (ns .u32 (digs ((l.mul) * (m.mul).getD ((w.getD i 0).toNat) 0).natAbs)), bp ((((l.add) * (m.mul).getD ((w.getD i 0).toNat) 0) + ((l.div) * (m.add).getD ((w.getD i 0).toNat) 0)) < 0), .sl 1 (ns .u32 (digs (((l.add) * (m.mul).getD ((w.getD i 0).toNat) 0) + ((l.div) * (m.add).getD ((w.getD i 0).toNat) 0)).natAbs)), bp (((l.div) * m.mod) < 0), .sl 1 (ns .u32 (digs ((l.div) * m.mod).natAbs))]], ⟨⟨101, .var 140 [bp (((l.mul) * (m.mul).getD ((w.getD i 0).toNat) 0) < 0), .sl 1 (ns .u32 (digs ((l.mul) * (m.mul).getD ((w.getD i 0).toNat) 0).natAbs)), bp ((((l.add) * (m.mul).getD ((w.getD i 0).toNat) 0) + ((l.div) * (m.add).getD ((w.getD i 0).toNat) 0)) < 0), .sl 1 (ns .u32 (digs (((l.add) * (m.mul).getD ((w.getD i 0).toNat) 0) + ((l.div) * (m.add).getD ((w.getD i 0).toNat) 0)).natAbs)), bp (((l.div) * m.mod) < 0), .sl 1 (ns .u32 (digs ((l.div) * m.mod).natAbs))], rfl, rfl, rfl, Or.inl ⟨f84_, AV.le_refl _⟩⟩, trivial⟩, ?_⟩
   exact linK_eq (Int.mul_comm _ _) (congr (congrArg HAdd.hAdd (Int.mul_comm _ _)) (Int.mul_comm _ _)) rfl
  refine o_store [(2, oM 24 m), (3, .var 140 [Fv, Zv, Fv, Zv, Fv, Zv]), (4, .var 140 [Bv ((thenZ m l (w.getD i 0)).mul), Dv ((thenZ m l (w.getD i 0)).mul), Bv ((thenZ m l (w.getD i 0)).add), Dv ((thenZ m l (w.getD i 0)).add), Bv ((thenZ m l (w.getD i 0)).div), Dv ((thenZ m l (w.getD i 0)).div)])] gn f79_ rfl rfl rfl rfl rfl rfl ?_
  refine aops_end (hK7 _ (awp_region rfl ?_))
  refine n_add i 1 gn rfl rfl (by simp only [topOf]; omega) ?_
  refine o_mv (Nv (i + 1)) rfl (aops_end ?_)
  refine ⟨_, _, ?lt, ⟨i + 1, thenZ m l (w.getD i 0), (by omega), (by rw [hl2]; exact lineZ_next h1), rfl, rfl⟩, ?wk⟩
  case lt => omega
  case wk => exact Wk.sub ⟨rfl, rfl, rfl, rfl, rfl, rfl, (by first | rfl | exact nm_int (by omega)), trivial⟩ ⟨rfl, rfl, rfl, trivial⟩
 ·refine awp_exit ?_
  refine hK3 _ (awp_seq fun K12 hK12 => awp_region rfl ?_)
  refine o_loadA [Bv (l.mul), Dv (l.mul), Bv (l.add), Dv (l.add), Bv (l.div), Dv (l.div)] gn f84_ rfl rfl rfl rfl rfl ?_
  refine o_store [(2, oM 24 m), (3, .var 140 [Bv (l.mul), Dv (l.mul), Bv (l.add), Dv (l.add), Bv (l.div), Dv (l.div)]), (4, .var 140 [Bv (l.mul), Dv (l.mul), Bv (l.add), Dv (l.add), Bv (l.div), Dv (l.div)])] gn f79_ rfl rfl rfl rfl rfl rfl ?_
  refine aops_end (hK12 _ ?_)
  refine awp_ret ?_
  refine post_ret ⟨[.agg [Bv (l.mul), Dv (l.mul), Bv (l.add), Dv (l.add), Bv (l.div), Dv (l.div)]], ⟨⟨3, .var 140 [Bv (l.mul), Dv (l.mul), Bv (l.add), Dv (l.add), Bv (l.div), Dv (l.div)], rfl, rfl, rfl, Or.inl ⟨f84_, AV.le_refl _⟩⟩, trivial⟩, rfl, ?_⟩
  exact congrArg linW (by rw [hl2, List.take_of_length_le (by omega)])

end Go.Proofs.YtdmkejloknejdaaGreatDoor

namespace Go.Mth
open Go.Ab
theorem fit_of_pow' {z : Int} {k : Nat} (h : z.natAbs < 10 ^ k) (hk : k ≤ 2000) (h1 : 1 ≤ k) : Fit z := fit_of_pow h hk h1
theorem line_abs {m : MapM} (hm : OkM m) : ∀ w : List Int, IsW m w → (lineZ m w).mul.natAbs < 10 ^ (3 * w.length + 1) ∧ (lineZ m w).add.natAbs < 10 ^ (3 * w.length + 7) ∧ (lineZ m w).div.natAbs < 10 ^ (3 * w.length + 1) := by
 refine snoc_ind (P := fun w => IsW m w → (lineZ m w).mul.natAbs < 10 ^ (3 * w.length + 1) ∧ (lineZ m w).add.natAbs < 10 ^ (3 * w.length + 7) ∧ (lineZ m w).div.natAbs < 10 ^ (3 * w.length + 1)) (fun _ => ⟨show (1 : Int).natAbs < 10 ^ (3 * 0 + 1) by decide, show (0 : Int).natAbs < 10 ^ (3 * 0 + 7) by decide, show (1 : Int).natAbs < 10 ^ (3 * 0 + 1) by decide⟩) fun w r ih hw => ?_
 obtain ⟨i1, i2, i3⟩ := ih fun x hx => hw x (by simp [hx])
 obtain ⟨o1, o2, o3, o4, o5⟩ := hm
 obtain ⟨hr0, hr1⟩ := hw r (by simp)
 obtain ⟨r1, r2, r3, r4, _⟩ := o5 r.toNat (by omega)
 have e1 : (mulM m r).natAbs ≤ 999 := by unfold mulM; omega
 have e2 : (addM m r).natAbs ≤ 999999 := by unfold addM; omega
 have e3 : m.mod.natAbs ≤ 12 := by omega
 rw [lineZ_snoc, List.length_append, List.length_singleton]
 have p1 : (10 : Nat) ^ (3 * (w.length + 1) + 1) = 1000 * 10 ^ (3 * w.length + 1) := by rw [show 3 * (w.length + 1) + 1 = 3 * w.length + 1 + 3 by omega, Nat.pow_add, Nat.mul_comm]
 have p2 : (10 : Nat) ^ (3 * (w.length + 1) + 7) = 1000 * 10 ^ (3 * w.length + 7) := by rw [show 3 * (w.length + 1) + 7 = 3 * w.length + 7 + 3 by omega, Nat.pow_add, Nat.mul_comm]
 have p3 : (10 : Nat) ^ (3 * w.length + 7) = 1000000 * 10 ^ (3 * w.length + 1) := by rw [show 3 * w.length + 7 = 3 * w.length + 1 + 6 by omega, Nat.pow_add, Nat.mul_comm]
 refine ⟨?_, ?_, ?_⟩
 ·show (mulM m r * (lineZ m w).mul).natAbs < _
  rw [Int.natAbs_mul, p1]
  have := Nat.mul_le_mul e1 (Nat.le_of_lt i1)
  have : 0 < (10 : Nat) ^ (3 * w.length + 1) := Nat.pow_pos (by decide)
  omega
 ·show (mulM m r * (lineZ m w).add + addM m r * (lineZ m w).div).natAbs < _
  have a1 := Int.natAbs_add_le (mulM m r * (lineZ m w).add) (addM m r * (lineZ m w).div)
  rw [Int.natAbs_mul, Int.natAbs_mul] at a1
  have a2 := Nat.mul_le_mul e1 (Nat.le_of_lt i2)
  have a3 := Nat.mul_le_mul e2 (Nat.le_of_lt i3)
  have : 0 < (10 : Nat) ^ (3 * w.length + 1) := Nat.pow_pos (by decide)
  rw [p2]
  omega
 ·show ((lineZ m w).div * m.mod).natAbs < _
  rw [Int.natAbs_mul, p1]
  have := Nat.mul_le_mul (Nat.le_of_lt i3) e3
  have : 0 < (10 : Nat) ^ (3 * w.length + 1) := Nat.pow_pos (by decide)
  omega
theorem wordZ_is {m : MapM} (hm : OkM m) (z : Int) : ∀ k, IsW m (wordZ m z k)
 | 0 => fun r hr => by simp [wordZ] at hr
 | k + 1 => fun r hr => by
  rw [wordZ, List.mem_append, List.mem_singleton] at hr
  rcases hr with hr | rfl
  ·exact wordZ_is hm z k r hr
  ·have := hm.1
   exact ⟨Int.emod_nonneg _ (by omega), Int.emod_lt_of_pos _ (by omega)⟩
theorem len_subZ (a b : Int) : (digs (a - b).natAbs).length ≤ max (digs a.natAbs).length (digs b.natAbs).length + 1 := by
 have := len_addZ a (-b)
 rwa [Int.natAbs_neg, ← Int.sub_eq_add_neg] at this
end Go.Mth

namespace Go.Mth
open Go.Ab
noncomputable def shortB (a : ByteArray) : Bool := decide (a.size ≤ 601) && okS a
def ShortS (l : List ByteArray) : Prop := ∀ k, k < l.length → shortB (l.getD k { data := #[] }) = true
noncomputable instance (l : List ByteArray) : Decidable (ShortS l) := Classical.propDecidable _
theorem list_extZ {x y : List Int} (hl : x.length = y.length) (h : ∀ k, k < x.length → x.getD k 0 = y.getD k 0) : x = y := by
 refine List.ext_getElem hl fun k h1 h2 => ?_
 have := h k h1
 rw [List.getD_eq_getElem?_getD, List.getD_eq_getElem?_getD, List.getElem?_eq_getElem h1, List.getElem?_eq_getElem h2] at this
 exact this
def propN (m : MapM) (w : List Int) : Nat → List Int
 | 0 => []
 | i + 1 => propN m w i ++ [w.getD i 0 % m.mod]
def propW (m : MapM) (w : List Int) : List Int := propN m w (min w.length 40)
theorem step_len' {m : MapM} (hm : OkM m) (z : Int) : (digs (stepZ m z).natAbs).length ≤ (digs z.natAbs).length + 4 := by
 have := step_len (z := z) (k := (digs z.natAbs).length + 1) hm (by omega) (by omega)
 omega
end Go.Mth

namespace Go.Mth
open Go.Ab
theorem step_abs {m : MapM} (hm : OkM m) {z : Int} {e : Nat} (he : 6 ≤ e) (h : z.natAbs < 10 ^ e) : (stepZ m z).natAbs < 10 ^ (e + 3) := by
 have hs := getD_toNat hm z
 obtain ⟨o1, o2, o3, o4, o5⟩ := hm
 have hr0 := Int.emod_nonneg z (show m.mod ≠ 0 by omega)
 have hr1 := Int.emod_lt_of_pos z (show 0 < m.mod by omega)
 obtain ⟨r1, r2, r3, r4, _⟩ := o5 (z % m.mod).toNat (by omega)
 have e1 : (mulM m (z % m.mod)).natAbs ≤ 999 := by unfold mulM; omega
 have e2 : (addM m (z % m.mod)).natAbs ≤ 999999 := by unfold addM; omega
 have a1 := Int.natAbs_add_le (mulM m (z % m.mod) * z) (addM m (z % m.mod))
 rw [Int.natAbs_mul] at a1
 have a2 := Nat.mul_le_mul e1 (Nat.le_of_lt h)
 have a3 : (stepZ m z).natAbs ≤ (stepZ m z * m.mod).natAbs := by rw [Int.natAbs_mul]; exact Nat.le_mul_of_pos_right _ (by omega)
 rw [hs] at a3
 have p1 : (10 : Nat) ^ (e + 3) = 1000 * 10 ^ e := by rw [Nat.pow_add, Nat.mul_comm]
 have p2 : (10 : Nat) ^ 6 ≤ 10 ^ e := Nat.pow_le_pow_right (by decide) he
 have p3 : (10 : Nat) ^ 6 = 1000000 := by decide
 rw [p1]
 omega
theorem iter_abs {m : MapM} (hm : OkM m) {z : Int} {e : Nat} (he : 6 ≤ e) (h : z.natAbs < 10 ^ e) : ∀ j, (iterZ m j z).natAbs < 10 ^ (e + 3 * j)
 | 0 => h
 | j + 1 => by
  have := step_abs hm (e := e + 3 * j) (by omega) (iter_abs hm he h j)
  rw [iterZ, show e + 3 * (j + 1) = e + 3 * j + 3 by omega]
  exact this
theorem wordZ_get (m : MapM) (z : Int) : ∀ k i, i < k → (wordZ m z k).getD i 0 = iterZ m i z % m.mod
 | 0, i, h => by omega
 | k + 1, i, h => by
  rw [wordZ]
  rcases Nat.lt_or_ge i k with e | e
  ·have := wordZ_get m z k i e
   rw [List.getD_eq_getElem?_getD] at this ⊢
   rw [List.getElem?_append_left (by rw [wordZ_len]; exact e)]
   exact this
  ·have : i = k := by omega
   subst this
   rw [List.getD_eq_getElem?_getD, List.getElem?_append_right (by rw [wordZ_len]; exact Nat.le_refl _), wordZ_len, Nat.sub_self]
   rfl
theorem add_lt_pow {x y : Int} {p : Nat} (hx : x.natAbs < 10 ^ p) (hy : y.natAbs < 10 ^ p) : (x + y).natAbs < 10 ^ (p + 1) := by
 have h := Int.natAbs_add_le x y
 rw [Nat.pow_succ]
 omega
end Go.Mth

namespace Go.Mth
open Go.Ab
structure FrZ where
 num : Int
 den : Int
def RedF (f : FrZ) : Prop := 0 < f.den ∧ Int.gcd f.num f.den = 1
def redP (n d : Int) : FrZ := ⟨n / ((Int.gcd n d : Nat) : Int), d / ((Int.gcd n d : Nat) : Int)⟩
def redZ (n d : Int) : FrZ := if d < 0 then redP (-n) (-d) else redP n d
theorem frz_ext {f g : FrZ} (h1 : f.num = g.num) (h2 : f.den = g.den) : f = g := by cases f; cases g; simp_all
theorem redP_ok {n d : Int} (hd : 0 < d) : RedF (redP n d) ∧ (redP n d).num * d = n * (redP n d).den ∧ (redP n d).den ∣ d ∧ (redP n d).num ∣ n := by
 have hg : 0 < Int.gcd n d := Int.gcd_pos_of_ne_zero_right n (by omega)
 obtain ⟨a, ha⟩ := Int.gcd_dvd_left n d
 obtain ⟨b, hb⟩ := Int.gcd_dvd_right n d
 obtain ⟨g, hgg⟩ : ∃ g : Int, g = ((Int.gcd n d : Nat) : Int) := ⟨_, rfl⟩
 have hg0 : g ≠ 0 := by omega
 have h1 : n / ((Int.gcd n d : Nat) : Int) = a := by rw [← hgg] at ha ⊢; rw [ha, Int.mul_ediv_cancel_left _ hg0]
 have h2 : d / ((Int.gcd n d : Nat) : Int) = b := by rw [← hgg] at hb ⊢; rw [hb, Int.mul_ediv_cancel_left _ hg0]
 have h3 := Int.gcd_ediv_gcd_ediv_gcd (i := n) (j := d) hg
 rw [← hgg] at ha hb
 refine ⟨⟨?_, ?_⟩, ?_, ?_, ?_⟩
 ·show 0 < d / ((Int.gcd n d : Nat) : Int)
  rw [h2]
  rw [hb, Int.mul_comm] at hd
  exact Int.pos_of_mul_pos_left hd (by omega)
 ·exact h3
 ·show n / ((Int.gcd n d : Nat) : Int) * d = n * (d / ((Int.gcd n d : Nat) : Int))
  rw [h1, h2]; grind
 ·show d / ((Int.gcd n d : Nat) : Int) ∣ d
  rw [h2]; exact ⟨g, by grind⟩
 ·show n / ((Int.gcd n d : Nat) : Int) ∣ n
  rw [h1]; exact ⟨g, by grind⟩
theorem redZ_ok {n d : Int} (hd : d ≠ 0) : RedF (redZ n d) ∧ (redZ n d).num * d = n * (redZ n d).den ∧ (redZ n d).den ∣ d ∧ (redZ n d).num ∣ n := by
 unfold redZ
 split
 ·obtain ⟨h1, h2, h3, h4⟩ := redP_ok (n := -n) (d := -d) (by omega)
  exact ⟨h1, by grind, (Int.dvd_neg).1 h3, (Int.dvd_neg).1 h4⟩
 ·exact redP_ok (by omega)
theorem dvd_cop {a b c : Int} (h : a ∣ b * c) (hc : Int.gcd a b = 1) : a ∣ c := by
 have h1 := Int.natAbs_dvd_natAbs.2 h
 rw [Int.natAbs_mul] at h1
 exact Int.natAbs_dvd_natAbs.1 (Nat.Coprime.dvd_of_dvd_mul_left hc h1)
theorem red_uniq {f g : FrZ} (hf : RedF f) (hg : RedF g) (h : f.num * g.den = g.num * f.den) : f = g := by
 have h1 : f.den ∣ g.den := dvd_cop (b := f.num) ⟨g.num, by rw [h, Int.mul_comm]⟩ (by rw [Int.gcd_comm]; exact hf.2)
 have h2 : g.den ∣ f.den := dvd_cop (b := g.num) ⟨f.num, by rw [← h, Int.mul_comm]⟩ (by rw [Int.gcd_comm]; exact hg.2)
 have h3 := Int.dvd_antisymm (by have := hf.1; omega) (by have := hg.1; omega) h1 h2
 have h4 := hf.1
 rw [h3] at h
 exact frz_ext (Int.eq_of_mul_eq_mul_right (by have := hg.1; omega) h) h3
theorem red_is {n d : Int} (hd : d ≠ 0) {f : FrZ} (hf : RedF f) (h : f.num * d = n * f.den) : redZ n d = f := by
 obtain ⟨h1, h2, h3, h4⟩ := redZ_ok (n := n) hd
 refine red_uniq h1 hf (Int.eq_of_mul_eq_mul_right hd ?_)
 grind
theorem abs_of_dvd {a b : Int} (h : a ∣ b) (hb : b ≠ 0) : a.natAbs ≤ b.natAbs := Nat.le_of_dvd (by omega) (Int.natAbs_dvd_natAbs.2 h)
theorem redZ_abs {n d : Int} (hd : d ≠ 0) : (redZ n d).num.natAbs ≤ n.natAbs ∧ (redZ n d).den.natAbs ≤ d.natAbs := by
 obtain ⟨h1, h2, h3, h4⟩ := redZ_ok (n := n) hd
 refine ⟨?_, abs_of_dvd h3 hd⟩
 by_cases hn : n = 0
 ·subst hn
  rw [Int.zero_mul] at h2
  rcases Int.mul_eq_zero.1 h2 with e | e
  ·rw [e]; exact Nat.le_refl _
  ·exact absurd e hd
 ·exact abs_of_dvd h4 hn
def fixZ (m : MapM) (w : List Int) : FrZ := redZ (lineZ m w).add ((lineZ m w).div - (lineZ m w).mul)
def nxtZ (m : MapM) (f : FrZ) (r : Int) : FrZ := redZ (f.num * mulM m r + f.den * addM m r) (f.den * m.mod)
def CopD (m : MapM) (f : FrZ) : Prop := Int.gcd f.den m.mod = 1
theorem line_cop {m : MapM} (hm : OkM m) (hf : freeM m) {w : List Int} (hw : IsW m w) : Int.gcd (lineZ m w).mul m.mod = 1 := by
 obtain ⟨h1, h2, h3, h4⟩ := restZ_ok hm hf w hw
 have h := prod_line m (restZ m w).1 w.length
 rw [h4] at h
 have hp := prod_free hm hf (restZ m w).1 w.length
 rw [h] at hp
 have e : m.mod.natAbs = m.mod.toNat := by have := hm.1; omega
 show Nat.gcd _ m.mod.natAbs = 1
 rw [e]; exact hp
theorem line_one (m : MapM) (r : Int) : (lineZ m [r]).mul = mulM m r ∧ (lineZ m [r]).add = addM m r ∧ (lineZ m [r]).div = m.mod := by
 refine ⟨?_, ?_, ?_⟩
 ·show mulM m r * 1 = mulM m r; omega
 ·show mulM m r * 0 + addM m r * 1 = addM m r; omega
 ·show 1 * m.mod = m.mod; omega
theorem line_cons (m : MapM) (r : Int) (v : List Int) : (lineZ m (r :: v)).mul = (lineZ m v).mul * mulM m r ∧ (lineZ m (r :: v)).add = (lineZ m v).mul * addM m r + (lineZ m v).add * m.mod ∧ (lineZ m (r :: v)).div = m.mod * (lineZ m v).div := by
 have h := lineZ_app m [r] v
 obtain ⟨e1, e2, e3⟩ := line_one m r
 rw [e1, e2, e3] at h
 exact h
theorem mulM_cop {m : MapM} (hm : OkM m) (hf : freeM m) {r : Int} (hr : 0 ≤ r ∧ r < m.mod) : Int.gcd (mulM m r) m.mod = 1 := by
 have h := line_cop hm hf (w := [r]) (fun x hx => by simp at hx; rw [hx]; exact hr)
 rw [(line_one m r).1] at h
 exact h
theorem dvd_pow_ne {a : Int} {k : Nat} (h : k ≠ 0) : a ∣ a ^ k := by
 obtain ⟨j, rfl⟩ : ∃ j, k = j + 1 := ⟨k - 1, by omega⟩
 exact ⟨a ^ j, by rw [Int.pow_succ, Int.mul_comm]⟩
theorem line_ne {m : MapM} (hm : OkM m) (hf : freeM m) {w : List Int} (hw : IsW m w) (hne : w ≠ []) : (lineZ m w).div - (lineZ m w).mul ≠ 0 := fun e => by
 have hc := line_cop hm hf hw
 have h1 : m.mod ∣ (lineZ m w).mul := by
  rw [show (lineZ m w).mul = (lineZ m w).div by omega, lineZ_div]
  exact dvd_pow_ne (fun h => hne (List.eq_nil_of_length_eq_zero h))
 have h2 := Int.natAbs_dvd_natAbs.2 (Int.dvd_coe_gcd h1 (Int.dvd_refl m.mod))
 rw [hc] at h2
 have h3 := Nat.le_of_dvd (by decide) h2
 have := hm.1
 simp at h3
 omega
theorem fix_ok {m : MapM} (hm : OkM m) (hf : freeM m) {w : List Int} (hw : IsW m w) (hne : w ≠ []) : RedF (fixZ m w) ∧ (fixZ m w).num * ((lineZ m w).div - (lineZ m w).mul) = (lineZ m w).add * (fixZ m w).den ∧ CopD m (fixZ m w) := by
 obtain ⟨h1, h2, h3, h4⟩ := redZ_ok (n := (lineZ m w).add) (line_ne hm hf hw hne)
 refine ⟨h1, h2, ?_⟩
 have hc := line_cop hm hf hw
 have hd : m.mod ∣ (lineZ m w).div := by rw [lineZ_div]; exact dvd_pow_ne (fun h => hne (List.eq_nil_of_length_eq_zero h))
 have g1 := Int.gcd_dvd_left (fixZ m w).den m.mod
 have g2 := Int.gcd_dvd_right (fixZ m w).den m.mod
 have g3 := Int.dvd_sub (Int.dvd_trans g2 hd) (Int.dvd_trans g1 h3)
 rw [show (lineZ m w).div - ((lineZ m w).div - (lineZ m w).mul) = (lineZ m w).mul by omega] at g3
 have g4 := Int.dvd_gcd g3 g2
 rw [hc] at g4
 exact Nat.dvd_one.1 g4
theorem isW_cons {m : MapM} {r : Int} {v : List Int} : IsW m (r :: v) ↔ (0 ≤ r ∧ r < m.mod) ∧ IsW m v := by
 constructor
 ·intro h; exact ⟨h r (by simp), fun x hx => h x (by simp [hx])⟩
 ·rintro ⟨h1, h2⟩ x hx
  rcases List.mem_cons.1 hx with e | e
  ·rw [e]; exact h1
  ·exact h2 x e
theorem isW_app {m : MapM} {u v : List Int} : IsW m (u ++ v) ↔ IsW m u ∧ IsW m v := by
 constructor
 ·intro h; exact ⟨fun x hx => h x (by simp [hx]), fun x hx => h x (by simp [hx])⟩
 ·rintro ⟨h1, h2⟩ x hx
  rcases List.mem_append.1 hx with e | e
  ·exact h1 x e
  ·exact h2 x e
theorem fix_next {m : MapM} (hm : OkM m) (hf : freeM m) {r : Int} {v : List Int} (hw : IsW m (r :: v)) : nxtZ m (fixZ m (r :: v)) r = fixZ m (v ++ [r]) := by
 have hw2 : IsW m (v ++ [r]) := isW_app.2 ⟨(isW_cons.1 hw).2, fun x hx => by simp at hx; rw [hx]; exact (isW_cons.1 hw).1⟩
 obtain ⟨a1, a2, a3⟩ := fix_ok hm hf hw (by simp)
 obtain ⟨b1, b2, b3⟩ := fix_ok hm hf hw2 (by simp)
 have hn := line_ne hm hf hw2 (by simp)
 obtain ⟨c1, c2, c3⟩ := line_cons m r v
 obtain ⟨d1, d2, d3⟩ := lineZ_app m v [r]
 obtain ⟨e1, e2, e3⟩ := line_one m r
 rw [e1] at d1 d2
 rw [e2] at d2
 rw [e3] at d3
 rw [c1, c2, c3] at a2
 rw [d1, d2, d3] at b2
 rw [d1, d3] at hn
 have hq := a1.1
 have hM := hm.1
 refine red_is (by intro h0; rcases Int.mul_eq_zero.1 h0 with h | h <;> omega) b1 (Int.eq_of_mul_eq_mul_right hn ?_)
 generalize (fixZ m (r :: v)).num = p at a2 ⊢
 generalize (fixZ m (r :: v)).den = q at a2 ⊢
 generalize (fixZ m (v ++ [r])).num = p2 at b2 ⊢
 generalize (fixZ m (v ++ [r])).den = q2 at b2 ⊢
 generalize mulM m r = c at a2 b2 ⊢
 generalize addM m r = e at a2 b2 ⊢
 generalize (lineZ m v).mul = a at a2 b2 ⊢
 generalize (lineZ m v).add = b at a2 b2 ⊢
 generalize (lineZ m v).div = d at a2 b2 ⊢
 generalize m.mod = M at a2 b2 ⊢
 grind
theorem val_map {m : MapM} (hm : OkM m) {r : Int} (hr : 0 ≤ r ∧ r < m.mod) : m.mod ∣ mulM m r * r + addM m r := by
 obtain ⟨o1, o2, o3, o4, o5⟩ := hm
 obtain ⟨_, _, _, _, h⟩ := o5 r.toNat (by omega)
 have hd := Int.dvd_of_tmod_eq_zero h
 rw [Int.toNat_of_nonneg hr.1] at hd
 exact hd
theorem fix_rest {m : MapM} (hm : OkM m) (hf : freeM m) {r : Int} {v : List Int} (hw : IsW m (r :: v)) : ((fixZ m (r :: v)).num - r * (fixZ m (r :: v)).den) % m.mod = 0 := by
 obtain ⟨a1, a2, a3⟩ := fix_ok hm hf hw (by simp)
 obtain ⟨hr, hv⟩ := isW_cons.1 hw
 obtain ⟨c1, c2, c3⟩ := line_cons m r v
 rw [c1, c2, c3] at a2
 have g1 := line_cop hm hf hv
 have g2 := mulM_cop hm hf hr
 obtain ⟨t, ht⟩ := val_map hm hr
 refine Int.emod_eq_zero_of_dvd (dvd_cop (b := mulM m r) (dvd_cop (b := (lineZ m v).mul) ⟨(fixZ m (r :: v)).num * (lineZ m v).div - (lineZ m v).add * (fixZ m (r :: v)).den - (lineZ m v).mul * t * (fixZ m (r :: v)).den, ?_⟩ (by rw [Int.gcd_comm]; exact g1)) (by rw [Int.gcd_comm]; exact g2))
 generalize (fixZ m (r :: v)).num = p at a2 ⊢
 generalize (fixZ m (r :: v)).den = q at a2 ⊢
 generalize mulM m r = c at a2 ht ⊢
 generalize addM m r = e at a2 ht ⊢
 generalize (lineZ m v).mul = a at a2 ⊢
 generalize (lineZ m v).add = b at a2 ⊢
 generalize (lineZ m v).div = d at a2 ⊢
 generalize m.mod = M at a2 ht ⊢
 grind
def restF (m : MapM) (f : FrZ) : Int := match (List.range m.mod.toNat).find? fun (r : Nat) => decide ((f.num - (r : Int) * f.den) % m.mod = 0) with
 | some r => r
 | none => -1
theorem restF_is {m : MapM} (hm : OkM m) {f : FrZ} (hc : CopD m f) {r : Int} (hr : 0 ≤ r ∧ r < m.mod) (h : (f.num - r * f.den) % m.mod = 0) : restF m f = r := by
 unfold restF
 cases hu : (List.range m.mod.toNat).find? fun (r : Nat) => decide ((f.num - (r : Int) * f.den) % m.mod = 0) with
 | none =>
  have := List.find?_eq_none.1 hu r.toNat (by simp; omega)
  rw [Int.toNat_of_nonneg hr.1] at this
  simp [h] at this
 | some u =>
  have h1 := List.find?_some hu
  have h2 := List.mem_of_find?_eq_some hu
  simp at h1 h2
  show (u : Int) = r
  have h3 := Int.dvd_sub (Int.dvd_of_emod_eq_zero h1) (Int.dvd_of_emod_eq_zero h)
  rw [show f.num - (u : Int) * f.den - (f.num - r * f.den) = f.den * (r - u) by grind] at h3
  have h4 := dvd_cop h3 (by rw [Int.gcd_comm]; exact hc)
  obtain ⟨t, ht⟩ := h4
  rcases Int.lt_trichotomy t 0 with g | g | g
  ·have := Int.mul_le_mul_of_nonneg_left (show t ≤ -1 by omega) (show 0 ≤ m.mod by omega)
   omega
  ·rw [g] at ht; omega
  ·have := Int.mul_le_mul_of_nonneg_left (show 1 ≤ t by omega) (show 0 ≤ m.mod by omega)
   omega
def trnZ (m : MapM) (w : List Int) (f : FrZ) : Nat → FrZ
 | 0 => f
 | i + 1 => nxtZ m (trnZ m w f i) (w.getD i 0)
def rotL {α : Type} (w : List α) (i : Nat) : List α := w.drop i ++ w.take i
theorem rot_len {α : Type} (w : List α) (i : Nat) : (rotL w i).length = w.length := by unfold rotL; rw [List.length_append, List.length_drop, List.length_take]; omega
theorem rot_is {m : MapM} {w : List Int} (h : IsW m w) (i : Nat) : IsW m (rotL w i) := isW_app.2 ⟨fun x hx => h x (List.mem_of_mem_drop hx), fun x hx => h x (List.mem_of_mem_take hx)⟩
theorem rot_cons {w : List Int} {i : Nat} (h : i < w.length) : rotL w i = w.getD i 0 :: (w.drop (i + 1) ++ w.take i) ∧ rotL w (i + 1) = (w.drop (i + 1) ++ w.take i) ++ [w.getD i 0] := by
 unfold rotL
 refine ⟨?_, ?_⟩
 ·rw [List.drop_eq_getElem_cons h, List.getD_eq_getElem?_getD, List.getElem?_eq_getElem h]; rfl
 ·rw [take_snoc h, List.append_assoc]
theorem trn_rot {m : MapM} (hm : OkM m) (hf : freeM m) {w : List Int} (hw : IsW m w) : ∀ i, i ≤ w.length → trnZ m w (fixZ m w) i = fixZ m (rotL w i)
 | 0, _ => by show fixZ m w = fixZ m (w.drop 0 ++ w.take 0); simp
 | i + 1, h => by
  obtain ⟨h1, h2⟩ := rot_cons (w := w) (i := i) (by omega)
  rw [trnZ, trn_rot hm hf hw i (by omega), h1, h2]
  exact fix_next hm hf (by rw [← h1]; exact rot_is hw i)
theorem trn_rest {m : MapM} (hm : OkM m) (hf : freeM m) {w : List Int} (hw : IsW m w) {i : Nat} (h : i < w.length) : ((trnZ m w (fixZ m w) i).num - w.getD i 0 * (trnZ m w (fixZ m w) i).den) % m.mod = 0 ∧ restF m (trnZ m w (fixZ m w) i) = w.getD i 0 := by
 obtain ⟨h1, h2⟩ := rot_cons (w := w) (i := i) h
 have hwr := rot_is hw i
 rw [h1] at hwr
 have h3 := fix_rest hm hf hwr
 rw [← h1, ← trn_rot hm hf hw i (by omega)] at h3
 have h4 := (fix_ok hm hf hwr (by simp)).2.2
 rw [← h1, ← trn_rot hm hf hw i (by omega)] at h4
 exact ⟨h3, restF_is hm h4 (isW_get hw h) h3⟩
theorem rot_all {α : Type} (w : List α) : rotL w w.length = w := by unfold rotL; simp
theorem trn_end {m : MapM} (hm : OkM m) (hf : freeM m) {w : List Int} (hw : IsW m w) : trnZ m w (fixZ m w) w.length = fixZ m w := by rw [trn_rot hm hf hw _ (Nat.le_refl _), rot_all]
theorem fit_abs {x y : Int} (h : x.natAbs ≤ y.natAbs) {k : Nat} (hy : y.natAbs < 10 ^ k) (hk : k ≤ 2000) (h1 : 1 ≤ k) : Fit x := fit_of_pow (Nat.lt_of_le_of_lt h hy) hk h1
theorem fix_fit {m : MapM} (hm : OkM m) (hf : freeM m) {w : List Int} (hw : OkW m w) (hne : w ≠ []) : Fit (fixZ m w).num ∧ Fit (fixZ m w).den := by
 obtain ⟨h1, h2⟩ := redZ_abs (n := (lineZ m w).add) (line_ne hm hf hw.1 hne)
 obtain ⟨l1, l2, l3⟩ := line_abs hm w hw.1
 have := hw.2
 refine ⟨fit_abs h1 l2 (by omega) (by omega), ?_⟩
 have l4 := add_lt_pow l3 (show (-(lineZ m w).mul).natAbs < _ by rw [Int.natAbs_neg]; exact l1)
 exact fit_abs h2 (by rw [Int.sub_eq_add_neg]; exact l4) (by omega) (by omega)
theorem fix_len {m : MapM} (hm : OkM m) (hf : freeM m) {w : List Int} (hw : OkW m w) (hne : w ≠ []) : (digs (fixZ m w).num.natAbs).length ≤ 300 ∧ (digs (fixZ m w).den.natAbs).length ≤ 300 := ⟨fit_len (fix_fit hm hf hw hne).1, fit_len (fix_fit hm hf hw hne).2⟩
theorem nxt_int {m : MapM} (hm : OkM m) {y r : Int} (hr : y % m.mod = r) : nxtZ m ⟨y, 1⟩ r = ⟨stepZ m y, 1⟩ := by
 have hM := hm.1
 have hs := getD_toNat hm y
 rw [hr] at hs
 refine red_is (by show (1 : Int) * m.mod ≠ 0; omega) ⟨show (0 : Int) < 1 by decide, by show Int.gcd _ 1 = 1; simp⟩ ?_
 show stepZ m y * (1 * m.mod) = (y * mulM m r + 1 * addM m r) * 1
 grind
theorem fix_int {m : MapM} (hm : OkM m) (hf : freeM m) {w : List Int} (hw : IsW m w) (h1 : (fixZ m w).den = 1) : (∀ i, i ≤ w.length → trnZ m w (fixZ m w) i = ⟨iterZ m i (fixZ m w).num, 1⟩) ∧ iterZ m w.length (fixZ m w).num = (fixZ m w).num ∧ wordZ m (fixZ m w).num w.length = w := by
 have hM := hm.1
 have key : ∀ i, i ≤ w.length → trnZ m w (fixZ m w) i = ⟨iterZ m i (fixZ m w).num, 1⟩ ∧ ∀ j, j < i → w.getD j 0 = iterZ m j (fixZ m w).num % m.mod := by
  intro i
  induction i with
  | zero => intro _; exact ⟨frz_ext rfl h1, fun j hj => by omega⟩
  | succ i ih =>
   intro hi
   obtain ⟨a, b⟩ := ih (by omega)
   obtain ⟨g1, _⟩ := trn_rest hm hf hw (show i < w.length by omega)
   obtain ⟨r0, r1⟩ := isW_get hw (show i < w.length by omega)
   rw [a] at g1
   have e : w.getD i 0 = iterZ m i (fixZ m w).num % m.mod := by
    have g2 : (iterZ m i (fixZ m w).num - w.getD i 0 * 1) % m.mod = 0 := g1
    rw [Int.mul_one] at g2
    have g3 := (Int.emod_eq_emod_iff_emod_sub_eq_zero).2 g2
    rw [Int.emod_eq_of_lt r0 r1] at g3
    exact g3.symm
   refine ⟨?_, fun j hj => ?_⟩
   ·rw [trnZ, a, nxt_int hm e.symm]; rfl
   ·rcases Nat.lt_or_ge j i with hji | hji
    ·exact b j hji
    ·rw [show j = i by omega]; exact e
 obtain ⟨a, b⟩ := key w.length (Nat.le_refl _)
 rw [trn_end hm hf hw] at a
 refine ⟨fun i hi => (key i hi).1, (congrArg FrZ.num a).symm, ?_⟩
 exact list_extZ (wordZ_len _ _ _) fun k hk => by
  rw [wordZ_len] at hk
  rw [wordZ_get m _ _ k hk, b k hk]
theorem int_fix {m : MapM} (hm : OkM m) (hf : freeM m) {x : Int} {k : Nat} (hk : 0 < k) (h : iterZ m k x = x) : fixZ m (wordZ m x k) = ⟨x, 1⟩ := by
 have hl := line_iter hm x k
 rw [h] at hl
 refine red_is (line_ne hm hf (wordZ_is hm x k) (fun e => by have := wordZ_len m x k; rw [e] at this; simp at this; omega)) ⟨show (0 : Int) < 1 by decide, by show Int.gcd _ 1 = 1; simp⟩ ?_
 show x * _ = _ * 1
 rw [Int.mul_sub]
 grind
end Go.Mth

namespace Go.Mth
open Go.Ab
def valW (M : Int) (w : List Int) : Int := w.foldl (fun v r => v * M + r) 0
def wordT (M : Nat) : Nat → Nat → List Int
 | 0, _ => []
 | n + 1, t => wordT M n (t / M) ++ [((t % M : Nat) : Int)]
theorem valW_snoc (M : Int) (w : List Int) (r : Int) : valW M (w ++ [r]) = valW M w * M + r := by unfold valW; rw [List.foldl_append]; rfl
theorem valW_app (M : Int) (u v : List Int) : valW M (u ++ v) = valW M u * M ^ v.length + valW M v := by
 refine snoc_ind (P := fun v => valW M (u ++ v) = valW M u * M ^ v.length + valW M v) ?_ (fun v r ih => ?_) v
 ·show valW M (u ++ []) = _
  rw [List.append_nil]
  show _ = valW M u * M ^ 0 + 0
  rw [Int.pow_zero]; omega
 ·show valW M (u ++ (v ++ [r])) = valW M u * M ^ (v ++ [r]).length + valW M (v ++ [r])
  rw [← List.append_assoc, valW_snoc, valW_snoc, ih, List.length_append, List.length_singleton, Int.pow_succ]
  grind
theorem wordT_len (M : Nat) : ∀ n t, (wordT M n t).length = n
 | 0, _ => rfl
 | n + 1, t => by rw [wordT, List.length_append, wordT_len M n]; rfl
theorem wordT_is {m : MapM} (hm : OkM m) : ∀ n t, IsW m (wordT m.mod.toNat n t)
 | 0, _ => fun x hx => by cases hx
 | n + 1, t => isW_app.2 ⟨wordT_is hm n _, fun x hx => by
   simp only [List.mem_singleton] at hx
   have h1 := hm.1
   have := Nat.mod_lt t (show 0 < m.mod.toNat by omega)
   rw [hx]; omega⟩
theorem valW_bd {m : MapM} (hm : OkM m) : ∀ w : List Int, IsW m w → 0 ≤ valW m.mod w ∧ valW m.mod w < m.mod ^ w.length := by
 refine snoc_ind (P := fun w => IsW m w → 0 ≤ valW m.mod w ∧ valW m.mod w < m.mod ^ w.length) (fun _ => ⟨Int.le_refl 0, by show (0 : Int) < m.mod ^ 0; rw [Int.pow_zero]; decide⟩) fun w r ih hw => ?_
 obtain ⟨h1, h2⟩ := ih (isW_app.1 hw).1
 obtain ⟨r0, r1⟩ := (isW_app.1 hw).2 r (by simp)
 have hM := hm.1
 rw [valW_snoc, List.length_append, List.length_singleton, Int.pow_succ]
 have a1 := Int.mul_nonneg h1 (show 0 ≤ m.mod by omega)
 have a2 := Int.mul_le_mul_of_nonneg_right (show valW m.mod w ≤ m.mod ^ w.length - 1 by omega) (show 0 ≤ m.mod by omega)
 rw [Int.sub_mul] at a2
 omega
theorem valW_wordT (M : Nat) (hM : 0 < M) : ∀ n t, t < M ^ n → valW (M : Int) (wordT M n t) = (t : Int)
 | 0, t, h => by
  rw [Nat.pow_zero] at h
  show (0 : Int) = _
  omega
 | n + 1, t, h => by
  rw [wordT, valW_snoc, valW_wordT M hM n (t / M) (by rw [Nat.pow_succ, Nat.mul_comm] at h; exact Nat.div_lt_of_lt_mul h)]
  have := Nat.div_add_mod t M
  rw [Nat.mul_comm] at this
  exact_mod_cast this
theorem wordT_valW {m : MapM} (hm : OkM m) : ∀ w : List Int, IsW m w → wordT m.mod.toNat w.length (valW m.mod w).toNat = w := by
 refine snoc_ind (P := fun w => IsW m w → wordT m.mod.toNat w.length (valW m.mod w).toNat = w) (fun _ => rfl) fun w r ih hw => ?_
 obtain ⟨h1, h2⟩ := valW_bd hm w (isW_app.1 hw).1
 obtain ⟨r0, r1⟩ := (isW_app.1 hw).2 r (by simp)
 have hM := hm.1
 have hih := ih (isW_app.1 hw).1
 rw [List.length_append, List.length_singleton, wordT, valW_snoc]
 have e : (valW m.mod w * m.mod + r).toNat = m.mod.toNat * (valW m.mod w).toNat + r.toNat := by
  have a1 := Int.mul_nonneg h1 (show 0 ≤ m.mod by omega)
  have e1 : (((valW m.mod w * m.mod + r).toNat : Nat) : Int) = ((m.mod.toNat * (valW m.mod w).toNat + r.toNat : Nat) : Int) := by
   rw [Int.toNat_of_nonneg (by omega), Int.natCast_add, Int.natCast_mul, Int.toNat_of_nonneg (by omega), Int.toNat_of_nonneg h1, Int.toNat_of_nonneg r0, Int.mul_comm]
  exact Int.ofNat.inj e1
 have hr : r.toNat < m.mod.toNat := by omega
 rw [e, Nat.mul_add_div (by omega), Nat.div_eq_of_lt hr, Nat.add_zero, hih, Nat.mul_add_mod, Nat.mod_eq_of_lt hr, Int.toNat_of_nonneg r0]
theorem valW_inj {m : MapM} (hm : OkM m) {u v : List Int} (hu : IsW m u) (hv : IsW m v) (hl : u.length = v.length) (h : valW m.mod u = valW m.mod v) : u = v := by
 rw [← wordT_valW hm u hu, ← wordT_valW hm v hv, hl, h]
theorem split_at {w : List Int} {i : Nat} (h : i < w.length) : w = w.take i ++ (w.getD i 0 :: w.drop (i + 1)) := by
 have := (rot_cons (w := w) (i := i) h).1
 rw [show w.getD i 0 :: w.drop (i + 1) = w.drop i by rw [List.drop_eq_getElem_cons h, List.getD_eq_getElem?_getD, List.getElem?_eq_getElem h]; rfl, List.take_append_drop]
theorem set_split {w : List Int} {i : Nat} (h : i < w.length) (x : Int) : w.set i x = w.take i ++ (x :: w.drop (i + 1)) := by
 rw [List.set_eq_take_append_cons_drop, if_pos h]
theorem valW_set (M : Int) {w : List Int} {i : Nat} (h : i < w.length) (x : Int) : valW M (w.set i x) = valW M w + (x - w.getD i 0) * M ^ (w.length - 1 - i) := by
 have key : ∀ y : Int, valW M (w.take i ++ (y :: w.drop (i + 1))) = valW M (w.take i) * M ^ (w.length - i) + (y * M ^ (w.length - 1 - i) + valW M (w.drop (i + 1))) := fun y => by
  rw [valW_app, List.length_cons, List.length_drop, show w.length - (i + 1) + 1 = w.length - i by omega]
  have := valW_app M [y] (w.drop (i + 1))
  rw [List.singleton_append] at this
  rw [this, List.length_drop, show w.length - (i + 1) = w.length - 1 - i by omega]
  show _ = _ + ((y : Int) * _ + _)
  rw [show valW M [y] = y by show (0 : Int) * M + y = y; omega]
 rw [set_split h, key]
 have h2 := key (w.getD i 0)
 rw [← split_at h] at h2
 rw [h2]; grind
theorem isW_set {m : MapM} {w : List Int} (h : IsW m w) {i : Nat} {x : Int} (hx : 0 ≤ x ∧ x < m.mod) : IsW m (w.set i x) := fun y hy => by
 rcases List.mem_or_eq_of_mem_set hy with e | e
 ·exact h y e
 ·rw [e]; exact hx
def nextP (m : MapM) (n t : Nat) (w : List Int) (j : Nat) : Prop := IsW m w ∧ w.length = n ∧ j ≤ n ∧ valW m.mod w + m.mod ^ j = (t : Int) + 1
theorem next_0 {m : MapM} (hm : OkM m) {n t : Nat} (ht : (t : Int) < m.mod ^ n) : nextP m n t (wordT m.mod.toNat n t) 0 := by
 have hM := hm.1
 refine ⟨wordT_is hm n t, wordT_len _ _ _, Nat.zero_le _, ?_⟩
 have e : ((m.mod.toNat : Nat) : Int) = m.mod := Int.toNat_of_nonneg (by omega)
 have h := valW_wordT m.mod.toNat (by omega) n t (by
  have : ((m.mod.toNat ^ n : Nat) : Int) = m.mod ^ n := by rw [Int.natCast_pow, e]
  omega)
 rw [e] at h
 rw [h, Int.pow_zero]
theorem next_s {m : MapM} (hm : OkM m) {n t : Nat} {w : List Int} {j : Nat} (h : nextP m n t w j) (hj : j < n) (hx : w.getD (n - 1 - j) 0 = m.mod - 1) : nextP m n t (w.set (n - 1 - j) 0) (j + 1) := by
 have hM := hm.1
 obtain ⟨h1, h2, h3, h4⟩ := h
 refine ⟨isW_set h1 ⟨by decide, by omega⟩, by rw [List.length_set]; exact h2, hj, ?_⟩
 rw [valW_set _ (by omega), hx, h2, show n - 1 - (n - 1 - j) = j by omega, Int.pow_succ]
 grind
theorem next_y {m : MapM} (hm : OkM m) {n t : Nat} {w : List Int} {j : Nat} (h : nextP m n t w j) (hj : j < n) (hx : w.getD (n - 1 - j) 0 ≠ m.mod - 1) : w.set (n - 1 - j) (w.getD (n - 1 - j) 0 + 1) = wordT m.mod.toNat n (t + 1) ∧ (((t + 1 : Nat) : Nat) : Int) < m.mod ^ n := by
 obtain ⟨h1, h2, h3, h4⟩ := h
 obtain ⟨r0, r1⟩ := isW_get h1 (show n - 1 - j < w.length by omega)
 have g1 := isW_set h1 (i := n - 1 - j) (x := w.getD (n - 1 - j) 0 + 1) ⟨by omega, by omega⟩
 have g2 := valW_set m.mod (w := w) (i := n - 1 - j) (by omega) (w.getD (n - 1 - j) 0 + 1)
 rw [h2, show n - 1 - (n - 1 - j) = j by omega, show w.getD (n - 1 - j) 0 + 1 - w.getD (n - 1 - j) 0 = 1 by omega, Int.one_mul] at g2
 have g3 := valW_bd hm _ g1
 rw [List.length_set, h2] at g3
 have g4 := wordT_valW hm _ g1
 rw [List.length_set, h2] at g4
 have e : (valW m.mod (w.set (n - 1 - j) (w.getD (n - 1 - j) 0 + 1))).toNat = t + 1 := by omega
 rw [e] at g4
 exact ⟨g4.symm, by omega⟩
theorem next_n {m : MapM} (hm : OkM m) {n t : Nat} {w : List Int} (h : nextP m n t w n) (ht : (t : Int) < m.mod ^ n) : ((t + 1 : Nat) : Int) = m.mod ^ n := by
 obtain ⟨h1, h2, h3, h4⟩ := h
 have := (valW_bd hm w h1).1
 omega
def cmpL : List Int → List Int → Int
 | [], [] => 0
 | [], _ :: _ => -1
 | _ :: _, [] => 1
 | a :: x, b :: y => if cmpZ a b = 0 then cmpL x y else cmpZ a b
theorem cmpZ_eq0 {x y : Int} : cmpZ x y = 0 ↔ x = y := by unfold cmpZ; split <;> (try split) <;> omega
theorem valW_cons (M : Int) (a : Int) (x : List Int) : valW M (a :: x) = a * M ^ x.length + valW M x := by
 have := valW_app M [a] x
 rw [List.singleton_append] at this
 rw [this, show valW M [a] = a by show (0 : Int) * M + a = a; omega]
theorem cmpL_val {m : MapM} (hm : OkM m) : ∀ {x y : List Int}, IsW m x → IsW m y → x.length = y.length → cmpL x y = cmpZ (valW m.mod x) (valW m.mod y)
 | [], [], _, _, _ => by show (0 : Int) = cmpZ 0 0; rfl
 | [], _ :: _, _, _, h => by simp at h
 | _ :: _, [], _, _, h => by simp at h
 | a :: x, b :: y, hx, hy, h => by
  have hl : x.length = y.length := by simpa using h
  obtain ⟨_, hx2⟩ := isW_cons.1 hx
  obtain ⟨_, hy2⟩ := isW_cons.1 hy
  have ih := cmpL_val hm hx2 hy2 hl
  have bx := valW_bd hm x hx2
  have by' := valW_bd hm y hy2
  rw [cmpL, valW_cons, valW_cons, hl]
  rw [hl] at bx
  split
  ·rename_i e
   rw [cmpZ_eq0.1 e, ih]
   unfold cmpZ
   split <;> split <;> (try split) <;> (try split) <;> first | rfl | omega
  ·rename_i e
   have hne : a ≠ b := fun q => e (cmpZ_eq0.2 q)
   have hp : 0 < m.mod ^ y.length := Int.pow_pos (by have := hm.1; omega)
   rcases Int.lt_or_gt_of_ne hne with g | g
   ·have := Int.mul_le_mul_of_nonneg_right (show a + 1 ≤ b by omega) (Int.le_of_lt hp)
    rw [Int.add_mul, Int.one_mul] at this
    unfold cmpZ
    rw [if_pos g, if_pos (by omega)]
   ·have := Int.mul_le_mul_of_nonneg_right (show b + 1 ≤ a by omega) (Int.le_of_lt hp)
    rw [Int.add_mul, Int.one_mul] at this
    unfold cmpZ
    rw [if_neg (by omega), if_pos g, if_neg (by omega), if_pos (by omega)]
def firstP (w : List Int) : Prop := ∀ i, i < w.length → 0 < i → ¬ cmpL (rotL w i) w ≤ 0
instance (w : List Int) : Decidable (firstP w) := inferInstanceAs (Decidable (∀ i, i < w.length → 0 < i → ¬ cmpL (rotL w i) w ≤ 0))
theorem first_val {m : MapM} (hm : OkM m) {w : List Int} (hw : IsW m w) : firstP w ↔ ∀ i, i < w.length → 0 < i → valW m.mod w < valW m.mod (rotL w i) := by
 have key : ∀ i, ¬ cmpL (rotL w i) w ≤ 0 ↔ valW m.mod w < valW m.mod (rotL w i) := fun i => by
  rw [cmpL_val hm (rot_is hw i) hw (rot_len w i)]
  unfold cmpZ
  split <;> (try split) <;> omega
 constructor
 ·intro h i h1 h2; exact (key i).1 (h i h1 h2)
 ·intro h i h1 h2; exact (key i).2 (h i h1 h2)
end Go.Mth

namespace Go.Ab
open Go.RowKit
def seesOk (m : List (Nat × AO)) : List (Nat × AO) → Prop
 | [] => True
 | (id, ob) :: r => lookO m id = some ob ∧ ob.seeB = true ∧ seesOk m r
section
variable {C : Ctx} {ops : Array Oper} {s : List (Nat × AV)} {m : List (Nat × AO)} {d : Nat} {t : TypeId} {p : String} {af : Array Edge} {g : Option (Nat × Bool)} {os : List Oper} {K : List Eff → St → Prop}
end
end Go.Ab

namespace Go.Ab
open Go.RowKit
def gcells {α : Type} (c : α → List AV) (l : List α) : List AV := l.flatMap c
theorem gcells_len {α : Type} {c : α → List AV} {n : Nat} (hc : ∀ x, (c x).length = n) : ∀ l : List α, (gcells c l).length = l.length * n
 | [] => by simp [gcells]
 | x :: l => by
  have := gcells_len hc l
  unfold gcells at this ⊢
  rw [List.flatMap_cons, List.length_append, this, hc, List.length_cons, Nat.add_mul, Nat.one_mul, Nat.add_comm]
theorem gcells_drop {α : Type} {c : α → List AV} {n : Nat} (hc : ∀ x, (c x).length = n) (d : α) : ∀ (l : List α) (i : Nat), i < l.length → (gcells c l).drop (i * n) = c (l.getD i d) ++ gcells c (l.drop (i + 1))
 | [], i, h => by simp at h
 | x :: l, 0, _ => by simp [gcells]
 | x :: l, i + 1, h => by
  have := gcells_drop hc d l i (by simpa using h)
  unfold gcells at this ⊢
  rw [List.flatMap_cons, show (i + 1) * n = (c x).length + i * n by rw [hc, Nat.add_mul, Nat.one_mul, Nat.add_comm], ← List.drop_drop, List.drop_left, this]
  simp
section
variable {C : Ctx} {ops : Array Oper} {s : List (Nat × AV)} {m : List (Nat × AO)} {d : Nat} {t : TypeId} {p : String} {af : Array Edge} {g : Option (Nat × Bool)} {os : List Oper} {K : List Eff → St → Prop}
theorem i_indexRow {ty : TypeId} {x y : Operand} {e e' id by' : Nat} {k kk' : IntKind} (xs : List Int) (i : Nat) (hg : Gd ops s g) (ht : tyElem C.P ty = some (e, 1, by')) (hx : ev s x = .row id) (ho : lookO m id = some (.row e' 1 (is k xs))) (hy : ev s y = nm kk' i) (h1 : i < xs.length)
  (kk : aops C ops ⟨(d, .ref id i) :: s, m⟩ os fun es σ' => K ({ val := .ref id i, use := [id] } :: es) σ') : aops C ops ⟨s, m⟩ (⟨some d, .indexAddr ty x y, t, p, af, g⟩ :: os) K :=
 o_indexRow1 (i := (i : Int)) hg ht hx ho hy (by omega) (by simpa [is] using h1) kk
theorem i_loadRow {ty : TypeId} {x : Operand} {id e' : Nat} {k : IntKind} (xs : List Int) (i : Nat) (hg : Gd ops s g) (ht : tySc C.P ty = true) (hx : ev s x = .ref id i) (ho : lookO m id = some (.row e' 1 (is k xs))) (h1 : i < xs.length)
  (kk : aops C ops ⟨(d, .lit (.int k (xs.getD i 0))) :: s, m⟩ os fun es σ' => K ({ val := .lit (.int k (xs.getD i 0)), use := [id] } :: es) σ') : aops C ops ⟨s, m⟩ (⟨some d, .load ty x, t, p, af, g⟩ :: os) K :=
 o_loadS _ hg ht hx ho (getMap 0 h1) kk
theorem i_storeRow {ty : TypeId} {x y : Operand} {id e' : Nat} {k : IntKind} (xs : List Int) (i : Nat) (v : Int) (m' : List (Nat × AO)) (hg : Gd ops s g) (ht : tySize C.P ty = some 1) (hx : ev s x = .ref id i) (ho : lookO m id = some (.row e' 1 (is k xs))) (hy : ev s y = .lit (.int k v)) (h1 : i < xs.length)
  (hm : setO m id (.row e' 1 (is k (xs.set i v))) = m') (kk : aops C ops ⟨s, m'⟩ os fun es σ' => K ({ val := .any, upd := [(id, some (.row e' 1 (is k (xs.set i v))))], use := [id] } :: es) σ') : aops C ops ⟨s, m⟩ (⟨none, .store ty x y, t, p, af, g⟩ :: os) K :=
 o_storeRow (new := [.lit (.int k v)]) (is k (xs.set i v)) m' hg ht hx ho (by rw [hy]; rfl) rfl rfl (by simp [is]; omega) (overMap (f := im k) h1) hm kk
theorem o_eqlNilSl {xt yt e : TypeId} {x y : Operand} {sz : Nat} {cs : List AV} (hg : Gd ops s g) (ht : C.P.underlying xt = some (.slice e)) (hx : ev s x = .sl sz cs) (hy : ev s y = .lit (.slice none 0 0)) (hn : 0 < cs.length)
  (kk : aops C ops ⟨(d, .lit (.bool false)) :: s, m⟩ os fun es σ' => K ({ val := .lit (.bool false) } :: es) σ') : aops C ops ⟨s, m⟩ (⟨some d, .binOp .eql xt x y yt, t, p, af, g⟩ :: os) K :=
 o_val hg (.eqlNil xt e yt x y sz cs rfl ht (by rw [ev_st]; exact hx) (by rw [ev_st]; exact hy) hn) kk
theorem g_len {α : Type} {ty e : TypeId} {x : Operand} {n : Nat} (c : α → List AV) (l : List α) (hc : ∀ x, (c x).length = n) (hg : Gd ops s g) (ht : C.P.underlying ty = some (.slice e)) (hx : ev s x = .sl n (gcells c l))
  (kk : aops C ops ⟨(d, nm .i64 l.length) :: s, m⟩ os fun es σ' => K ({ val := nm .i64 l.length } :: es) σ') : aops C ops ⟨s, m⟩ (⟨some d, .call { callee := .builtin .len, args := #[x], argTypes := #[ty] }, t, p, af, g⟩ :: os) K :=
 o_lenSl l.length hg ht hx (gcells_len hc l) kk
theorem g_lenRow {α : Type} {ty e e' : TypeId} {x : Operand} {n id : Nat} (c : α → List AV) (l : List α) (hc : ∀ x, (c x).length = n) (hg : Gd ops s g) (ht : C.P.underlying ty = some (.slice e)) (hx : ev s x = .row id) (ho : lookO m id = some (.row e' n (gcells c l)))
  (kk : aops C ops ⟨(d, nm .i64 l.length) :: s, m⟩ os fun es σ' => K ({ val := nm .i64 l.length, use := [id] } :: es) σ') : aops C ops ⟨s, m⟩ (⟨some d, .call { callee := .builtin .len, args := #[x], argTypes := #[ty] }, t, p, af, g⟩ :: os) K :=
 o_lenRow l.length hg ht hx ho (gcells_len hc l) kk
theorem g_index {α : Type} {ty : TypeId} {x y : Operand} {e n by' : Nat} {kk' : IntKind} (c : α → List AV) (l : List α) (i : Nat) (hc : ∀ x, (c x).length = n) (hn : Nat.blt 0 n = true) (hg : Gd ops s g) (ht : tyElem C.P ty = some (e, n, by')) (hx : ev s x = .sl n (gcells c l)) (hy : ev s y = nm kk' i) (h1 : i < l.length)
  (kk : aops C ops ⟨(d, .ip ((gcells c l).drop (i * n + 0))) :: s, m⟩ os fun es σ' => K ({ val := .ip ((gcells c l).drop (i * n + 0)) } :: es) σ') : aops C ops ⟨s, m⟩ (⟨some d, .indexAddr ty x y, t, p, af, g⟩ :: os) K := by
 have h2 := o_indexN (C := C) (ops := ops) (m := m) (d := d) (t := t) (p := p) (af := af) (os := os) (K := K) (i := (i : Int)) hg ht hx hy (by omega) (by rw [gcells_len hc, Int.toNat_natCast]; rw [Nat.blt_eq] at hn; exact Nat.mul_lt_mul_of_pos_right h1 hn)
 rw [Int.toNat_natCast] at h2
 exact h2 kk
theorem g_loadA {α : Type} {ty : TypeId} {x : Operand} {n : Nat} (c : α → List AV) (l : List α) (i : Nat) (dflt : α) (hc : ∀ x, (c x).length = n) (hg : Gd ops s g) (ht : tyAgg C.P ty = some n) (hx : ev s x = .ip ((gcells c l).drop (i * n + 0))) (h1 : i < l.length)
  (kk : aops C ops ⟨(d, .agg (c (l.getD i dflt))) :: s, m⟩ os fun es σ' => K ({ val := .agg (c (l.getD i dflt)) } :: es) σ') : aops C ops ⟨s, m⟩ (⟨some d, .load ty x, t, p, af, g⟩ :: os) K := by
 rw [Nat.add_zero, gcells_drop hc dflt l i h1] at hx
 exact o_loadIA _ hg ht hx (by rw [List.length_append, hc]; omega) (by rw [← hc (l.getD i dflt)]; exact List.take_left) kk
theorem g_field {α : Type} {ty : TypeId} {x : Operand} {f fo n : Nat} {ft : TypeId} (c : α → List AV) (l : List α) (i : Nat) (hc : ∀ x, (c x).length = n) (hg : Gd ops s g) (hf : tyField C.P ty f = some (fo, ft)) (hx : ev s x = .ip ((gcells c l).drop (i * n + 0))) (h1 : i < l.length) (h2 : Nat.blt fo n = true)
  (kk : aops C ops ⟨(d, .ip ((gcells c l).drop (i * n + fo))) :: s, m⟩ os fun es σ' => K ({ val := .ip ((gcells c l).drop (i * n + fo)) } :: es) σ') : aops C ops ⟨s, m⟩ (⟨some d, .fieldAddr ty x f, t, p, af, g⟩ :: os) K := by
 have e1 : ((gcells c l).drop (i * n + 0)).drop fo = (gcells c l).drop (i * n + fo) := by rw [List.drop_drop, Nat.add_zero]
 rw [Nat.blt_eq] at h2
 have hl : fo < ((gcells c l).drop (i * n + 0)).length := by
  rw [List.length_drop, gcells_len hc, Nat.add_zero, ← Nat.sub_mul]
  have : 1 * n ≤ (l.length - i) * n := Nat.mul_le_mul_right _ (by omega)
  omega
 have h3 := o_fieldIp (C := C) (ops := ops) (m := m) (d := d) (t := t) (p := p) (af := af) (os := os) (K := K) hg hf hx hl
 rw [e1] at h3
 exact h3 kk
theorem g_loadS {α : Type} {ty : TypeId} {x : Operand} {n fo : Nat} (c : α → List AV) (l : List α) (i : Nat) (dflt : α) (v : AV) (hc : ∀ x, (c x).length = n) (hg : Gd ops s g) (ht : tySc C.P ty = true) (hx : ev s x = .ip ((gcells c l).drop (i * n + fo))) (h1 : i < l.length) (hv : (c (l.getD i dflt))[fo]? = some v)
  (kk : aops C ops ⟨(d, v) :: s, m⟩ os fun es σ' => K ({ val := v } :: es) σ') : aops C ops ⟨s, m⟩ (⟨some d, .load ty x, t, p, af, g⟩ :: os) K := by
 refine o_loadIS v hg ht hx ?_ kk
 have hlt : fo < (c (l.getD i dflt)).length := (List.getElem?_eq_some_iff.1 hv).1
 rw [← List.drop_drop, gcells_drop hc dflt l i h1, List.getElem?_drop]
 simp only [Nat.add_zero]
 rw [List.getElem?_append_left hlt]
 exact hv
theorem g_append {α : Type} {ty : TypeId} {a x : Operand} {e n by' : Nat} {z : List Value} {id i e' : Nat} (c : α → List AV) (id' : Nat) (xs ys : List α) (m' : List (Nat × AO)) (hc : ∀ x, (c x).length = n) (hn : Nat.blt 0 n = true) (hg : Gd ops s g) (ht : tyElem C.P ty = some (e, n, by')) (hz : tyZero C.P e = some z) (hzl : z.length = n)
  (hs : ev s a = .row id) (ho : lookO m id = some (.row e n (gcells c xs))) (hx : ev s x = .row i) (hi : lookO m i = some (.row e' n (gcells c ys))) (hb : (xs.length + ys.length) * by' ≤ 140737488355328) (hb2 : (xs.length + ys.length) * n ≤ 140737488355328)
  (hf : St.freshB ⟨s, m⟩ id' = true) (hm : delO m id = m') (kk : aops C ops ⟨(d, .row id') :: s, (id', .row e n (gcells c (xs ++ ys))) :: m'⟩ os fun es σ' => K ({ val := .row id', upd := [(id', some (.row e n (gcells c (xs ++ ys)))), (id, none)], use := [id, i], fresh := [id'] } :: es) σ') :
  aops C ops ⟨s, m⟩ (⟨some d, .call { callee := .builtin .append, args := #[a, x], argTypes := #[ty, ty] }, t, p, af, g⟩ :: os) K := by
 have hn' := hn
 rw [Nat.blt_eq] at hn'
 exact o_append id' (gcells c ys) (gcells c (xs ++ ys)) [id, i] m' hg ht hn hz hzl hs ho (.inr ⟨i, e', hx, hi, rfl⟩) (by rw [gcells_len hc, gcells_len hc, ← Nat.add_mul, Nat.mul_div_cancel _ hn']; exact hb) (by rw [gcells_len hc, gcells_len hc, ← Nat.add_mul]; exact hb2) (by simp [gcells]) hf hm kk
theorem g_appendSl {α : Type} {ty : TypeId} {a x : Operand} {e n by' : Nat} {z : List Value} {id : Nat} (c : α → List AV) (id' : Nat) (xs ys : List α) (m' : List (Nat × AO)) (hc : ∀ x, (c x).length = n) (hn : Nat.blt 0 n = true) (hg : Gd ops s g) (ht : tyElem C.P ty = some (e, n, by')) (hz : tyZero C.P e = some z) (hzl : z.length = n)
  (hs : ev s a = .row id) (ho : lookO m id = some (.row e n (gcells c xs))) (hx : ev s x = .sl n (gcells c ys)) (hb : (xs.length + ys.length) * by' ≤ 140737488355328) (hb2 : (xs.length + ys.length) * n ≤ 140737488355328)
  (hf : St.freshB ⟨s, m⟩ id' = true) (hm : delO m id = m') (kk : aops C ops ⟨(d, .row id') :: s, (id', .row e n (gcells c (xs ++ ys))) :: m'⟩ os fun es σ' => K ({ val := .row id', upd := [(id', some (.row e n (gcells c (xs ++ ys)))), (id, none)], use := [id], fresh := [id'] } :: es) σ') :
  aops C ops ⟨s, m⟩ (⟨some d, .call { callee := .builtin .append, args := #[a, x], argTypes := #[ty, ty] }, t, p, af, g⟩ :: os) K := by
 have hn' := hn
 rw [Nat.blt_eq] at hn'
 exact o_append id' (gcells c ys) (gcells c (xs ++ ys)) [id] m' hg ht hn hz hzl hs ho (.inl ⟨hx, rfl⟩) (by rw [gcells_len hc, gcells_len hc, ← Nat.add_mul, Nat.mul_div_cancel _ hn']; exact hb) (by rw [gcells_len hc, gcells_len hc, ← Nat.add_mul]; exact hb2) (by simp [gcells]) hf hm kk
end
end Go.Ab

namespace Go.Mth
open Go.Ab
structure Ins where
 kind : Int
 reg : Int
 next : Int
 els : Int
 deriving Inhabited, DecidableEq
structure Mac where
 regs : Int
 code : List Ins
structure Cfg where
 at' : Int
 regs : List Int
structure Frc where
 num : ByteArray
 den : ByteArray
 deriving Inhabited
def cI (x : Ins) : List AV := [.lit (.int .i64 x.kind), .lit (.int .i64 x.reg), .lit (.int .i64 x.next), .lit (.int .i64 x.els)]
def cF (x : Frc) : List AV := [.lit (.string x.num), .lit (.string x.den)]
def macV (m : Mac) : AV := .agg [.lit (.int .i64 m.regs), .sl 4 (gcells cI m.code)]
def cfgV (c : Cfg) : AV := .agg [.lit (.int .i64 c.at'), .sl 1 (is .i64 c.regs)]
def plc (m : Mac) (z : Int) : Prop := 0 ≤ z ∧ z ≤ (m.code.length : Int)
instance (m : Mac) (z : Int) : Decidable (plc m z) := by unfold plc; infer_instance
def insP (m : Mac) (x : Ins) : Prop := (0 ≤ x.reg ∧ x.reg < m.regs ∧ plc m x.next) ∧ (x.kind = 0 ∧ x.els = 0 ∨ x.kind = 1 ∧ plc m x.els)
instance (m : Mac) (x : Ins) : Decidable (insP m x) := by unfold insP; infer_instance
def okMac (m : Mac) : Prop := 1 ≤ m.regs ∧ m.regs ≤ 4 ∧ 1 ≤ m.code.length ∧ m.code.length ≤ 12 ∧ ∀ x ∈ m.code, insP m x
instance (m : Mac) : Decidable (okMac m) := by unfold okMac; infer_instance
def regP (n : Int) : Prop := 0 ≤ n ∧ n ≤ 1000
instance (n : Int) : Decidable (regP n) := by unfold regP; infer_instance
def okCfg (m : Mac) (c : Cfg) : Prop := okMac m ∧ plc m c.at' ∧ (c.regs.length : Int) = m.regs ∧ ∀ n ∈ c.regs, regP n
instance (m : Mac) (c : Cfg) : Decidable (okCfg m c) := by unfold okCfg; infer_instance
def P30 : List Nat := [2, 3, 5, 7, 11, 13, 17, 19, 23, 29, 31, 37, 41, 43, 47, 53, 59, 61, 67, 71, 73, 79, 83, 89, 97, 101, 103, 107, 109, 113]
def prv (i : Nat) : Nat := (1 :: P30).getD i 0
def arr (i : Nat) : List Nat := P30.take i ++ List.replicate (30 - i) 0
theorem bpn {q : Prop} [Decidable q] (h : ¬ q) : bp q = .lit (.bool false) := by unfold bp; rw [decide_eq_false h]
theorem bpy {q : Prop} [Decidable q] (h : q) : bp q = .lit (.bool true) := by unfold bp; rw [decide_eq_true h]
def ixP {α : Type} (p : α → Prop) [DecidablePred p] (l : List α) : Int := if ∃ x ∈ l, p x then (l.findIdx (fun x => decide (p x)) : Int) else -1
def ownP (m : Mac) (z : Int) : Nat := P30.getD (m.regs + 2 * z).toNat 0
def twnP (m : Mac) (z : Int) : Nat := P30.getD (m.regs + 2 * z + 1).toNat 0
end Go.Mth

namespace Go.Ab
open Go.RowKit
mutual
theorem RepV.agree {H : Heap} {L L' : Loc} : ∀ {x : AV} {v : Value}, (∀ id, x.has id = true → L' id = L id) → RepV H x L v → RepV H x L' v
 | .any, _, _, _ => by simp [RepV]
 | .lit _, _, _, h => by simpa [RepV] using h
 | .sl _ _, _, _, h => by simpa [RepV] using h
 | .slc _ _ _, _, _, h => by simpa [RepV] using h
 | .agg fs, _, hn, h => by
  simp only [RepV] at h ⊢
  obtain ⟨vs, rfl, hr, h1⟩ := h
  exact ⟨vs, rfl, RepL.agree (fun id hid => hn id (by simpa [AV.has] using hid)) hr, h1⟩
 | .tup fs, _, hn, h => by
  simp only [RepV] at h ⊢
  obtain ⟨vs, rfl, hr⟩ := h
  exact ⟨vs, rfl, RepL.agree (fun id hid => hn id (by simpa [AV.has] using hid)) hr⟩
 | .ref i off, _, hn, h => by
  simp only [RepV] at h ⊢
  obtain ⟨x, g, h1, h2, h3⟩ := h
  exact ⟨x, g, by rw [hn i (by simp [AV.has])]; exact h1, h2, h3⟩
 | .row i, _, hn, h => by
  simp only [RepV] at h ⊢
  exact ⟨by rw [hn i (by simp [AV.has])]; exact h.1, h.2⟩
 | .vw i off sz n, _, hn, h => by
  simp only [RepV] at h ⊢
  obtain ⟨x, g, A, cap, h1, h2⟩ := h
  exact ⟨x, g, A, cap, by rw [hn i (by simp [AV.has])]; exact h1, h2⟩
 | .ip _, _, _, h => by simpa [RepV] using h
 | .clo f fs, _, hn, h => by
  simp only [RepV] at h ⊢
  obtain ⟨vs, rfl, hr⟩ := h
  exact ⟨vs, rfl, RepL.agree (fun id hid => hn id (by simpa [AV.has] using hid)) hr⟩
theorem RepL.agree {H : Heap} {L L' : Loc} : ∀ {xs : List AV} {vs : List Value}, (∀ id, hasL id xs = true → L' id = L id) → RepL H xs L vs → RepL H xs L' vs
 | [], _, _, h => by simpa [RepL] using h
 | x :: xs, _, hn, h => by
  simp only [RepL] at h ⊢
  obtain ⟨v, r, rfl, h1, h2⟩ := h
  exact ⟨v, r, rfl, RepV.agree (fun id hid => hn id (by simp [hasL, hid])) h1, RepL.agree (fun id hid => hn id (by simp [hasL, hid])) h2⟩
end
mutual
/-- The own objects that a value names. -/
def AV.ids : AV → List Nat
 | .ref i _ => [i]
 | .row i => [i]
 | .vw i _ _ _ => [i]
 | .agg fs => idsL fs
 | .tup fs => idsL fs
 | .clo _ fs => idsL fs
 | _ => []
def idsL : List AV → List Nat
 | [] => []
 | x :: xs => x.ids ++ idsL xs
end
mutual
theorem has_ids {id : Nat} : ∀ {x : AV}, x.has id = true → id ∈ x.ids
 | .any, h => by simp [AV.has] at h
 | .lit _, h => by simp [AV.has] at h
 | .sl _ _, h => by simp [AV.has] at h
 | .slc _ _ _, h => by simp [AV.has] at h
 | .ip _, h => by simp [AV.has] at h
 | .ref i _, h => by simp only [AV.has] at h; simp [AV.ids, Nat.eq_of_beq_eq_true h]
 | .row i, h => by simp only [AV.has] at h; simp [AV.ids, Nat.eq_of_beq_eq_true h]
 | .vw i _ _ _, h => by simp only [AV.has] at h; simp [AV.ids, Nat.eq_of_beq_eq_true h]
 | .agg fs, h => by simp only [AV.has, AV.ids] at h ⊢; exact hasL_ids h
 | .tup fs, h => by simp only [AV.has, AV.ids] at h ⊢; exact hasL_ids h
 | .clo _ fs, h => by simp only [AV.has, AV.ids] at h ⊢; exact hasL_ids h
theorem hasL_ids {id : Nat} : ∀ {xs : List AV}, hasL id xs = true → id ∈ idsL xs
 | [], h => by simp [hasL] at h
 | x :: xs, h => by
  simp only [hasL, Bool.or_eq_true] at h
  simp only [idsL, List.mem_append]
  exact h.elim (fun e => .inl (has_ids e)) (fun e => .inr (hasL_ids e))
end
def AO.ids : AO → List Nat
 | .var _ cs => idsL cs
 | .pin cs _ => idsL cs
 | _ => []
def memB (K : List Nat) (i : Nat) : Bool := K.any fun j => Nat.beq j i
def RCalls (C : Ctx) (f : FuncId) (args : List AV) (K : List Nat) (m : List (Nat × AO)) (res : AV) (m' : List (Nat × AO)) : Prop :=
 ∀ (w0 : World) (H : Heap) (L : Loc) (a : Act) (w : World) (vals : List Value), Rep C 0 w0 H L (St.sem ⟨[], m⟩) a w → RepL H args L vals →
  Calls C.P f vals.toArray w fun e w' => ∃ v H' L', e = .returned v ∧ Ext w0.heap.size H H' ∧ RepV H' res L' v ∧ Rep C 0 w0 H' L' (St.sem ⟨[], m'⟩) a w' ∧ ∀ id ∈ K, L' id = L id
def idxK : Nat → List Nat → List (Nat × AV)
 | _, [] => []
 | j, i :: r => (j, .ref i 0) :: idxK (j + 1) r
def varAt (m : List (Nat × AO)) (i : Nat) : Bool := match lookO m i with
 | some o => o.isVar
 | none => false
def keysO (m : List (Nat × AO)) : List Nat := m.map (·.1)
def pinK (K : List Nat) : AO → Bool
 | .pin cs _ => (idsL cs).all (memB K)
 | _ => false
def restB (K : List Nat) (m m' : List (Nat × AO)) (res : AV) (e : List (Nat × AO)) : Bool :=
 e.all fun p => pinK K p.2 && !memB (keysO m) p.1 && !memB (keysO m') p.1 && !memB res.ids p.1 && !memB K p.1 && m'.all fun q => !memB q.2.ids p.1
section
variable {C : Ctx} {n : Nat} {w0 : World} {ops : Array Oper} {Q : Exit → Act → World → Prop}
end
end Go.Ab

namespace Go.Ab
open Go.RowKit
def succB (N : Nat) (ops : Array Oper) : Bool := (List.range N).all fun j => (List.range (N + 1)).any fun k => Nat.blt j k && (match ops[k]? with
 | some o => edgeB j o
 | none => false)
theorem awp_regionSW {C : Ctx} {n : Nat} {Q : Exit → St → Prop} {σ : St} {id : Nat} {ops : Array Oper} (k d : Nat) (y : Operand) (f : FuncId) (caps : List AV) (args : Array Operand) (tys : Array TypeId) (t : TypeId) (p : String) (af : Array Edge) (asx : List AV) (res : AV) (m' : List (Nat × AO))
  (hk : ops[k]? = some ⟨some d, .call { callee := .value y, args := args, argTypes := tys }, t, p, af, none⟩) (hkl : ops.size = k + 1) (hd : dstsB n ops.toList = true) (hb : callable C.P f = true)
  (h : aops C ops σ (ops.toList.take k) fun es σ0 => ∃ σ1, Wk C n σ0 σ1 ∧ σ1.ev y = .clo f caps ∧ args.toList.map σ1.sem.ev ++ caps = asx ∧ SCalls C n f asx σ1.slots σ1.objs res m' ∧ Q .normal ⟨(d, res) :: σ1.slots, m'⟩) :
  awp C n (.region id ops false) Q σ := fun w0 H L a w hr r => by
 obtain ⟨es, σ0, ht, σ1, hwk, hy, has, hS, hq⟩ := h
 have hdst := dsts_spec hd
 have hk' : ops.toList[k]? = some ⟨some d, .call { callee := .value y, args := args, argTypes := tys }, t, p, af, none⟩ := by simpa using hk
 have hops : ops.toList = ops.toList.take k ++ [⟨some d, .call { callee := .value y, args := args, argTypes := tys }, t, p, af, none⟩] := by
  obtain ⟨hl, hx⟩ := List.getElem?_eq_some_iff.1 hk'
  have h1 := List.take_append_drop k ops.toList
  rw [List.drop_eq_getElem_cons hl, hx, List.drop_of_length_le (by simp [hkl])] at h1
  exact h1.symm
 refine wpIn_region ?_
 rw [List.range_eq_range']
 have htl : (ops.toList.take k).length = k := by rw [List.length_take]; simp [hkl]
 have hsz : ops.size = (ops.toList.take k).length + (0 + 1) := by rw [htl, hkl]
 rw [hsz, ← List.range'_append_1, List.range'_succ]
 refine lex_prefix (C := C) (n := n) (w0 := w0) r _ (ops.toList.take k) 0 σ.sem σ0.sem es H L a w (by rw [List.drop_zero, htl]) ht hr (fun o ho => hdst o (List.mem_of_mem_take ho)) fun a2 w2 Hq Lq hxq hrq => ?_
 obtain ⟨H2, L2, hxw, hr2⟩ := hwk w0 Hq Lq a2 w2 hrq
 have hx2 := hxq.trans hxw
 simp only [Nat.zero_add]
 rw [wpOpsIn_cons, htl]
 unfold wpOpIn
 simp only [hk]
 rw [if_pos (by simp [Region.wanted])]
 have hyv := hr2.ev y
 rw [ev_sem, hy] at hyv
 simp only [RepV] at hyv
 obtain ⟨cv, hev, hcr⟩ := hyv
 have hargs : ∀ (xs : List Operand), RepL H2 (xs.map σ1.sem.ev) L2 (xs.map a2.eval) := by
  intro xs
  induction xs with
  | nil => simp only [List.map_nil, RepL]
  | cons x xs ih => simp only [List.map_cons, RepL]; exact ⟨_, _, rfl, hr2.ev x, ih⟩
 have hal := (hargs args.toList).app hcr
 rw [has] at hal
 have hc := hS w0 H2 L2 a2 w2 _ hr2 hal
 have e1 : (List.map a2.eval args.toList ++ cv).toArray = args.map a2.eval ++ cv.toArray := by apply Array.ext'; simp
 rw [e1] at hc
 refine wp_enter (run_call_val rfl hev (callable_spec hb).1 (callable_spec hb).2) (hc.mono ?_) r
 rintro e w3 ⟨v, H3, L3, rfl, hx3, hv3, hr3⟩
 refine ⟨v, rfl, ?_⟩
 have hdn : d < n := hdst ⟨some d, .call { callee := .value y, args := args, argTypes := tys }, t, p, af, none⟩ (List.mem_of_getElem? hk') d rfl
 have hv := hr3.val (dst := some d) (fun d' hd' => by cases hd'; exact hdn) (x := res) (v := v) hv3 [] []
 rw [← sem_app] at hv
 simp only [List.range'_zero]
 rw [wpOpsIn]
 exact ⟨_, H3, L3, hx2.trans hx3, hv, hq⟩
theorem SCalls.le {C : Ctx} {n : Nat} {f : FuncId} {asx as' : List AV} {so : List (Nat × AV)} {m m' : List (Nat × AO)} {res : AV} (h : ∀ H L vs, RepL H asx L vs → RepL H as' L vs) (hS : SCalls C n f as' so m res m') : SCalls C n f asx so m res m' := fun w0 H L a w vals hr hra => hS w0 H L a w vals hr (h H L vals hra)
section
variable {C : Ctx} {ops : Array Oper} {s : List (Nat × AV)} {m : List (Nat × AO)} {K : List Eff → St → Prop} {os : List Oper} {d : Nat} {t : TypeId} {p : String} {af : Array Edge} {g : Option (Nat × Bool)}
end
def lateQ (C : Ctx) (n : Nat) (Q : Exit → St → Prop) : Exit → St → Prop := fun e σ => ∃ σ', Wk C n σ σ' ∧ Q e σ'
def AO.frzVO (id : Nat) (ob : AO) : AO → AO
 | .var t c => .var t (frzVL id ob c)
 | .row e s c => .row e s c
 | .blk o => .blk o
 | .pin c us => .pin (frzVL id ob c) us
def St.seeV (σ : St) (id : Nat) (ob : AO) : St := ⟨σ.slots.map fun p => (p.1, p.2.frzV id ob), (delO σ.objs id).map fun p => (p.1, AO.frzVO id ob p.2)⟩
theorem Wk.see {C : Ctx} {n : Nat} {σ : St} {id : Nat} {t : TypeId} {cs : List AV} (h : lookO σ.objs id = some (.var t cs)) (hk : closedL cs = true) : Wk C n σ (σ.seeV id (.var t cs)) := fun w0 H L a w hr => by
 obtain ⟨g, vs, hl, hh, hrl, h1, hB, hH⟩ := hr.objs id _ h
 have hle : H.le (fun b => if b = g then some (.cells vs.toArray t (0, 0)) else H b) := fun b o hb => by
  have : b ≠ g := fun e => by subst e; rw [hH] at hb; cases hb
  simp [this, hb]
 have hheap : ∀ b o, (if b = g then some (.cells vs.toArray t (0, 0)) else H b) = some o → w.heap[b]? = some o := fun b o hb => by
  by_cases hbg : b = g
  ·subst hbg; simp at hb; subst hb; exact hh
  ·simp [hbg] at hb; exact hr.heap b o hb
 have hseen : Seen (fun b => if b = g then some (.cells vs.toArray t (0, 0)) else H b) (.var t cs) (.pointer (some ⟨g, 0, none⟩)) := ⟨fun e' sz' cs' he => (by cases he), fun g' hg => by
  simp only [ownB, Option.some.injEq] at hg
  subst hg
  exact ⟨vs.toArray, t, (0, 0), vs, by simp, fun j u hu => by simpa using hu, RepL.mono hle (Loc.le_refl _) (RepL.closed hk hrl), h1⟩⟩
 have r2 := hr.hide h hl hle hheap fun g' hg' => by
  have : g' ≠ g := fun e => hg' (by rw [e]; rfl)
  simp [this]
 have old : ∀ {i : Nat} {o : AO}, lookO ((delO σ.objs id).map fun p => (p.1, AO.frzVO id (.var t cs) p.2)) i = some o → ∃ o0, o = AO.frzVO id (.var t cs) o0 ∧ i ≠ id ∧ lookO σ.objs i = some o0 := fun {i o} hi => by
  rw [lookO_map (fun x => AO.frzVO id (.var t cs) x), lookO_del] at hi
  by_cases hid : i = id
  ·rw [if_pos hid] at hi; cases hi
  ·rw [if_neg hid] at hi
   cases ho : lookO σ.objs i with
   | none => rw [ho] at hi; cases hi
   | some o0 => rw [ho] at hi; cases hi; exact ⟨o0, rfl, hid, rfl⟩
 have mu : ∀ {i : Nat} {o0 : AO}, i ≠ id → lookO σ.objs i = some o0 → (fun j => if j = id then none else (St.sem σ).μ j) i = some o0 := fun hne ho => by simp [hne]; exact ho
 refine ⟨_, L, ⟨hle, fun b hb => ?_⟩, ⟨r2.glob, r2.heap, r2.size, fun i => ?_, fun i o ho => ?_, fun i j o o' gg x x' hne ho ho' hx hx' hg => ?_, r2.below, r2.defers⟩⟩
 ·have : b ≠ g := fun e => by omega
  simp [this]
 ·show RepV _ (look (σ.slots.map fun p => (p.1, p.2.frzV id (.var t cs))) i) L _
  rw [look_map (fun x => x.frzV id (.var t cs)) rfl]
  exact RepV.frzV (Heap.le_refl _) hseen hl (r2.slot i)
 ·obtain ⟨o0, rfl, hne, ho0⟩ := old ho
  have h2 := r2.objs i o0 (mu hne ho0)
  cases o0 with
  | var t' c =>
   obtain ⟨g2, us, a1, a2, a3, a4, a5, a6⟩ := h2
   exact ⟨g2, us, a1, a2, RepL.frzV (Heap.le_refl _) hseen hl a3, a4, a5, a6⟩
  | row e s c => exact h2
  | blk o => exact h2
  | pin c us => exact ⟨h2.1, RepL.frzV (Heap.le_refl _) hseen hl h2.2⟩
 ·obtain ⟨o0, rfl, hne0, ho0⟩ := old ho
  obtain ⟨o1, rfl, hne1, ho1⟩ := old ho'
  exact r2.apart i j o0 o1 gg x x' hne (mu hne0 ho0) (mu hne1 ho1) hx hx' hg
end Go.Ab

namespace Go.Ab
open Go.RowKit
section
variable {C : Ctx} {ops : Array Oper} {s : List (Nat × AV)} {m : List (Nat × AO)} {K : List Eff → St → Prop} {os : List Oper} {d : Nat} {t : TypeId} {p : String} {af : Array Edge} {g : Option (Nat × Bool)}
theorem g_indexRow {α : Type} {ty : TypeId} {x y : Operand} {e e' n by' id : Nat} {kk' : IntKind} (c : α → List AV) (l : List α) (i : Nat) (hc : ∀ x, (c x).length = n) (hn : Nat.blt 0 n = true) (hg : Gd ops s g) (ht : tyElem C.P ty = some (e, n, by')) (hx : ev s x = .row id) (ho : lookO m id = some (.row e' n (gcells c l))) (hy : ev s y = nm kk' i) (h1 : i < l.length)
  (kk : aops C ops ⟨(d, .ref id (i * n)) :: s, m⟩ os fun es σ' => K ({ val := .ref id (i * n), use := [id] } :: es) σ') : aops C ops ⟨s, m⟩ (⟨some d, .indexAddr ty x y, t, p, af, g⟩ :: os) K := by
 have := Step.indexRow (C := C) (S := St.sem ⟨s, m⟩) (o := ⟨some d, .indexAddr ty x y, t, p, af, g⟩) ty x y e e' id n by' (gcells c l) kk' (i : Int) rfl ht (by rw [ev_st]; exact hx) ho (by rw [ev_st]; exact hy) (by omega) (by rw [gcells_len hc, Int.toNat_natCast]; rw [Nat.blt_eq] at hn; exact Nat.mul_lt_mul_of_pos_right h1 hn)
 rw [Int.toNat_natCast] at this
 exact o_val hg this kk
theorem g_loadRowA {α : Type} {ty : TypeId} {x : Operand} {n id e' : Nat} (c : α → List AV) (l : List α) (i : Nat) (dflt : α) (hc : ∀ x, (c x).length = n) (hg : Gd ops s g) (ht : tyAgg C.P ty = some n) (hx : ev s x = .ref id (i * n)) (ho : lookO m id = some (.row e' n (gcells c l))) (h1 : i < l.length)
  (kk : aops C ops ⟨(d, .agg (c (l.getD i dflt))) :: s, m⟩ os fun es σ' => K ({ val := .agg (c (l.getD i dflt)), use := [id] } :: es) σ') : aops C ops ⟨s, m⟩ (⟨some d, .load ty x, t, p, af, g⟩ :: os) K :=
 o_loadA _ hg ht hx ho rfl (by
  rw [Nat.ble_eq]
  show i * n + n ≤ (gcells c l).length
  rw [gcells_len hc, ← Nat.succ_mul]
  exact Nat.mul_le_mul_right _ h1) (by
  show ((gcells c l).drop (i * n)).take n = _
  rw [gcells_drop hc dflt l i h1, ← hc (l.getD i dflt)]
  exact List.take_left) kk
end
def idxX : Nat → List (Nat × Bool) → List (Nat × AV)
 | _, [] => []
 | j, (i, b) :: r => (j, bif b then .row i else .ref i 0) :: idxX (j + 1) r
def rowAt (m : List (Nat × AO)) (i : Nat) : Bool := match lookO m i with
 | some (.row ..) => true
 | _ => false
def okX (m m' : List (Nat × AO)) (p : Nat × Bool) : Bool := bif p.2 then rowAt m p.1 else varAt m p.1 && varAt m' p.1
end Go.Ab

namespace Go.Mth
open Go.Ab
instance : Inhabited FrZ := ⟨⟨0, 1⟩⟩
instance : Inhabited LinZ := ⟨oneZ⟩
def cK (k : IntKind) (z : Int) : List AV := [bp (z < 0), .sl 1 (ns k (digs z.natAbs))]
def cW (z : Int) : List AV := cK .u32 z
def cN (z : Int) : List AV := cK .i64 z
def cQ (f : FrZ) : List AV := cK .u32 f.num ++ cK .u32 f.den
def cR (f : FrZ) : List AV := cK .i64 f.num ++ cK .i64 f.den
def cV (l : List Int) : List AV := [.sl 2 (gcells cW l)]
def cM (l : List Int) : List AV := [.sl 2 (gcells cN l)]
def cP (l : List Int) : List AV := [.sl 1 (sbs (l.map txt))]
def cJ (l : LinZ) : List AV := cK .i64 l.mul ++ cK .i64 l.add ++ cK .i64 l.div
theorem cW_len : ∀ x, (cW x).length = 2 := fun _ => rfl
theorem cN_len : ∀ x, (cN x).length = 2 := fun _ => rfl
theorem cV_len : ∀ x, (cV x).length = 1 := fun _ => rfl
theorem cP_len : ∀ x, (cP x).length = 1 := fun _ => rfl
def frW (f : FrZ) : AV := .agg (cQ f)
def frR (f : FrZ) : AV := .agg (cR f)
theorem row_gs' {α : Type} {e : TypeId} {n : Nat} {c : α → List AV} {xs ys : List α} (h : xs = ys) : (some (AO.row e n (gcells c xs)) : Option AO) = some (AO.row e n (gcells c ys)) := by rw [h]
theorem gs_as {α : Type} {n : Nat} {c : α → List AV} {xs ys : List α} (h : xs = ys) : AV.sl n (gcells c xs) = AV.sl n (gcells c ys) := by rw [h]
theorem sgn_lt0 {z : Int} : sgn z < 0 ↔ z < 0 := by unfold sgn; split <;> (try split) <;> omega
theorem gcd_pos {n d : Int} (hd : d ≠ 0) : (0 : Int) < ((Int.gcd n d : Nat) : Int) := by have := Int.gcd_pos_of_ne_zero_right n hd; omega
theorem gcd_len {n d : Int} (hd : d ≠ 0) : (digs (((Int.gcd n d : Nat) : Int)).natAbs).length ≤ (digs d.natAbs).length := digs_len_le (abs_of_dvd (Int.gcd_dvd_right n d) hd)
theorem red_n {n d : Int} (h : d < 0) : redZ n d = redP (-n) (-d) := if_pos h
theorem red_p {n d : Int} (h : ¬ d < 0) : redZ n d = redP n d := if_neg h
def frT (f : FrZ) : Frc := ⟨txt f.num, txt f.den⟩
def noF : Frc := ⟨noS, noS⟩
noncomputable def cycE (m : MapM) (w : List Int) : Nat := if okM m = true then if freeM m ∧ OkW m w ∧ w ≠ [] then 0 else 2 else 1
noncomputable def fxF (m : MapM) (w : List Int) : Frc := if cycE m w = 0 then frT (fixZ m w) else noF
def trL (m : MapM) (w : List Int) (i : Nat) : List Frc := (List.range i).map fun j => frT (trnZ m w (fixZ m w) j)
noncomputable def tnL (m : MapM) (w : List Int) : List Frc := if cycE m w = 0 then trL m w w.length else []
theorem cyc_1 {m : MapM} {w : List Int} (h : ¬ okM m = true) : cycE m w = 1 := by unfold cycE; rw [if_neg h]
theorem cyc_2 {m : MapM} {w : List Int} (h : okM m = true) (h2 : ¬ (freeM m ∧ OkW m w ∧ w ≠ [])) : cycE m w = 2 := by unfold cycE; rw [if_pos h, if_neg h2]
theorem cyc_0 {m : MapM} {w : List Int} (h : okM m = true) (h2 : freeM m ∧ OkW m w ∧ w ≠ []) : cycE m w = 0 := by unfold cycE; rw [if_pos h, if_pos h2]
theorem cyc_0' {m : MapM} {w : List Int} (h : cycE m w = 0) : OkM m ∧ freeM m ∧ OkW m w ∧ w ≠ [] := by
 unfold cycE at h
 split at h
 ·rename_i hm
  split at h
  ·rename_i h2; exact ⟨okM_iff.1 hm, h2⟩
  ·cases h
 ·cases h
theorem fxF_no {m : MapM} {w : List Int} (h : cycE m w ≠ 0) : fxF m w = noF ∧ tnL m w = [] := ⟨if_neg h, if_neg h⟩
theorem fxF_ok {m : MapM} {w : List Int} (h : cycE m w = 0) : fxF m w = frT (fixZ m w) ∧ tnL m w = trL m w w.length := ⟨if_pos h, if_pos h⟩
def tzL (m : MapM) (w : List Int) (i : Nat) : List FrZ := (List.range i).map fun j => trnZ m w (fixZ m w) j
end Go.Mth

namespace Go.Proofs.YtdmkejloknejdaaGreatDoor
open Go Go.Ab Go.Mth
theorem f85_ : tyZero cx.P 92 = some [Go.Value.bool false, Go.Value.slice none 0 0, Go.Value.bool false, Go.Value.slice none 0 0] := by kernel_rfl
theorem f86_ : callable cx.P 118 = true := by kernel_rfl
theorem f87_ : tyPlaces cx.P 92 = some (fun i => (#[(0, 2), (2, 2)] : Array (Nat × Nat))[i]?) := by kernel_rfl
theorem f88_ : tySize cx.P 92 = some 4 := by kernel_rfl
theorem f89_ : tyAgg cx.P 92 = some 4 := by kernel_rfl
theorem f90_ : tyZero cx.P 45 = some [(Go.Value.string {data := #[]}), (Go.Value.string {data := #[]})] := by kernel_rfl
theorem f91_ : tyField cx.P 92 0 = some (0, 90) := by kernel_rfl
theorem f92_ : callable cx.P 103 = true := by kernel_rfl
theorem f93_ : tyField cx.P 92 1 = some (2, 90) := by kernel_rfl
theorem f94_ : tyPlaces cx.P 45 = some (fun i => (#[(0, 1), (1, 1)] : Array (Nat × Nat))[i]?) := by kernel_rfl
theorem f95_ : tySize cx.P 45 = some 2 := by kernel_rfl
theorem f96_ : tyAgg cx.P 45 = some 2 := by kernel_rfl
theorem f97_ : callable cx.P 91 = true := by kernel_rfl
theorem f98_ : callable cx.P 92 = true := by kernel_rfl
theorem f99_ : callable cx.P 45 = true := by kernel_rfl
theorem f100_ : callable cx.P 46 = true := by kernel_rfl
theorem f101_ : callable cx.P 102 = true := by kernel_rfl
theorem f102_ : callable cx.P 65 = true := by kernel_rfl
theorem f103_ : callable cx.P 49 = true := by kernel_rfl
theorem f104_ : callable cx.P 66 = true := by kernel_rfl
theorem c_yRed (n d : Int) (hd : d ≠ 0) (h1 : (digs n.natAbs).length ≤ 1000000) (h2 : (digs d.natAbs).length ≤ 1000000) : ECalls cx 92 [intW n, intW d] (frW (redZ n d)) := by
 refine ecalls_of_awp Tryz.func92 (c := _) rfl (Nat.le_of_ble_eq_true rfl) ?_
 show awp cx 35 _ (postF cx Tryz.f92 _) ⟨[(0, intW n), (1, intW d)], []⟩
 have g1 := gcd_pos (n := n) hd
 have g2 := gcd_pos (n := -n) (d := -d) (by omega)
 have g3 := gcd_len (n := n) hd
 have g4 := gcd_len (n := -n) (d := -d) (by omega)
 have g5 : (digs ((-n).natAbs)).length ≤ 1000000 := by rw [Int.natAbs_neg]; exact h1
 have g6 : (digs ((-d).natAbs)).length ≤ 1000000 := by rw [Int.natAbs_neg]; exact h2
 refine awp_seq fun K0 hK0 => awp_region rfl ?_
 refine o_box 2 [bp (n < 0), .sl 1 (ns .u32 (digs n.natAbs))] gn rfl rfl ?_
 refine o_box 3 [bp (d < 0), .sl 1 (ns .u32 (digs d.natAbs))] gn rfl rfl ?_
 refine o_alloc 4 [Fv, Zv, Fv, Zv] gn f85_ rfl rfl rfl ?_
 refine aops_end (hK0 _ (awp_seq fun K1 hK1 => awp_seq fun K2 hK2 => awp_region rfl ?_))
 refine o_loadA [bp (d < 0), .sl 1 (ns .u32 (digs d.natAbs))] gn f20_ rfl rfl rfl rfl rfl ?_
 refine o_ct (c_wSign d) gn f23_ rfl ?_
 refine o_lss (a := (sgn d)) (c := ((0 : Nat) : Int)) gn rfl rfl ?_
 refine aops_end (hK2 _ ?_)
 refine awp_condQ (q := (sgn d) < ((0 : Nat) : Int)) rfl (fun h1 => ?_) (fun h1 => ?_)
 ·refine awp_regionD rfl ?_
  refine o_loadA [bp (n < 0), .sl 1 (ns .u32 (digs n.natAbs))] gn f20_ rfl rfl rfl rfl rfl ?_
  refine o_ct (c_wMinus n) gn f37_ rfl ?_
  refine o_loadA [bp (d < 0), .sl 1 (ns .u32 (digs d.natAbs))] gn f20_ rfl rfl rfl rfl rfl ?_
  refine o_ct (c_wMinus d) gn f37_ rfl ?_
  refine o_store [(4, .var 92 [Fv, Zv, Fv, Zv]), (3, oZ 90 .u32 d), (2, oZ 90 .u32 (-n))] gn f19_ rfl rfl rfl rfl rfl rfl ?_
  refine o_store [(4, .var 92 [Fv, Zv, Fv, Zv]), (3, oZ 90 .u32 (-d)), (2, oZ 90 .u32 (-n))] gn f19_ rfl rfl rfl rfl rfl rfl ?_
  refine aops_end ⟨by kernel_rfl, ?_⟩
  refine hK1 _ (awp_seq fun K3 hK3 => awp_region rfl ?_)
  refine o_loadA [bp ((-n) < 0), .sl 1 (ns .u32 (digs (-n).natAbs))] gn f20_ rfl rfl rfl rfl rfl ?_
  refine o_loadA [bp ((-d) < 0), .sl 1 (ns .u32 (digs (-d).natAbs))] gn f20_ rfl rfl rfl rfl rfl ?_
  refine o_ct (c_wGcd (-n) (-d) (by omega) (by omega)) gn f86_ rfl ?_
  refine o_alloc 5 [Fv, Zv] gn f15_ rfl rfl rfl ?_
  refine o_store [(5, (oZ 90 .u32 ((Int.gcd (-n) (-d) : Nat) : Int))), (4, .var 92 [Fv, Zv, Fv, Zv]), (3, oZ 90 .u32 (-d)), (2, oZ 90 .u32 (-n))] gn f19_ rfl rfl rfl rfl rfl rfl ?_
  refine aops_end (hK3 _ (awp_seq fun K4 hK4 => awp_region rfl ?_))
  refine o_loadA [bp ((-n) < 0), .sl 1 (ns .u32 (digs (-n).natAbs))] gn f20_ rfl rfl rfl rfl rfl ?_
  refine o_loadA [(bp (((Int.gcd (-n) (-d) : Nat) : Int) < 0)), (.sl 1 (ns .u32 (digs ((Int.gcd (-n) (-d) : Nat) : Int).natAbs)))] gn f20_ rfl rfl rfl rfl rfl ?_
  refine o_ct (c_wDivide (-n) ((Int.gcd (-n) (-d) : Nat) : Int) (by omega) (by omega) (by omega)) gn f76_ rfl ?_
  refine o_mv (.tup [(intW ((-n) / ((Int.gcd (-n) (-d) : Nat) : Int))), (intW ((-n) % ((Int.gcd (-n) (-d) : Nat) : Int)))]) rfl (o_extract (intW ((-n) / ((Int.gcd (-n) (-d) : Nat) : Int))) gn rfl rfl (o_extract (intW ((-n) % ((Int.gcd (-n) (-d) : Nat) : Int))) gn rfl rfl ?_))
  refine o_alloc 6 [Fv, Zv] gn f15_ rfl rfl rfl ?_
  refine o_alloc 7 [Fv, Zv] gn f15_ rfl rfl rfl ?_
  refine o_store [(7, .var 90 [Fv, Zv]), (6, (oZ 90 .u32 ((-n) / ((Int.gcd (-n) (-d) : Nat) : Int)))), (5, (oZ 90 .u32 ((Int.gcd (-n) (-d) : Nat) : Int))), (4, .var 92 [Fv, Zv, Fv, Zv]), (3, oZ 90 .u32 (-d)), (2, oZ 90 .u32 (-n))] gn f19_ rfl rfl rfl rfl rfl rfl ?_
  refine o_store [(7, (oZ 90 .u32 ((-n) % ((Int.gcd (-n) (-d) : Nat) : Int)))), (6, (oZ 90 .u32 ((-n) / ((Int.gcd (-n) (-d) : Nat) : Int)))), (5, (oZ 90 .u32 ((Int.gcd (-n) (-d) : Nat) : Int))), (4, .var 92 [Fv, Zv, Fv, Zv]), (3, oZ 90 .u32 (-d)), (2, oZ 90 .u32 (-n))] gn f19_ rfl rfl rfl rfl rfl rfl ?_
  refine aops_end (hK4 _ (awp_seq fun K5 hK5 => awp_region rfl ?_))
  refine o_loadA [bp ((-d) < 0), .sl 1 (ns .u32 (digs (-d).natAbs))] gn f20_ rfl rfl rfl rfl rfl ?_
  refine o_loadA [(bp (((Int.gcd (-n) (-d) : Nat) : Int) < 0)), (.sl 1 (ns .u32 (digs ((Int.gcd (-n) (-d) : Nat) : Int).natAbs)))] gn f20_ rfl rfl rfl rfl rfl ?_
  refine o_ct (c_wDivide (-d) ((Int.gcd (-n) (-d) : Nat) : Int) (by omega) (by omega) (by omega)) gn f76_ rfl ?_
  refine o_mv (.tup [(intW ((-d) / ((Int.gcd (-n) (-d) : Nat) : Int))), (intW ((-d) % ((Int.gcd (-n) (-d) : Nat) : Int)))]) rfl (o_extract (intW ((-d) / ((Int.gcd (-n) (-d) : Nat) : Int))) gn rfl rfl (o_extract (intW ((-d) % ((Int.gcd (-n) (-d) : Nat) : Int))) gn rfl rfl ?_))
  refine o_alloc 8 [Fv, Zv] gn f15_ rfl rfl rfl ?_
  refine o_alloc 9 [Fv, Zv] gn f15_ rfl rfl rfl ?_
  refine o_store [(9, .var 90 [Fv, Zv]), (8, (oZ 90 .u32 ((-d) / ((Int.gcd (-n) (-d) : Nat) : Int)))), (7, (oZ 90 .u32 ((-n) % ((Int.gcd (-n) (-d) : Nat) : Int)))), (6, (oZ 90 .u32 ((-n) / ((Int.gcd (-n) (-d) : Nat) : Int)))), (5, (oZ 90 .u32 ((Int.gcd (-n) (-d) : Nat) : Int))), (4, .var 92 [Fv, Zv, Fv, Zv]), (3, oZ 90 .u32 (-d)), (2, oZ 90 .u32 (-n))] gn f19_ rfl rfl rfl rfl rfl rfl ?_
  refine o_store [(9, (oZ 90 .u32 ((-d) % ((Int.gcd (-n) (-d) : Nat) : Int)))), (8, (oZ 90 .u32 ((-d) / ((Int.gcd (-n) (-d) : Nat) : Int)))), (7, (oZ 90 .u32 ((-n) % ((Int.gcd (-n) (-d) : Nat) : Int)))), (6, (oZ 90 .u32 ((-n) / ((Int.gcd (-n) (-d) : Nat) : Int)))), (5, (oZ 90 .u32 ((Int.gcd (-n) (-d) : Nat) : Int))), (4, .var 92 [Fv, Zv, Fv, Zv]), (3, oZ 90 .u32 (-d)), (2, oZ 90 .u32 (-n))] gn f19_ rfl rfl rfl rfl rfl rfl ?_
  refine aops_end (hK5 _ (awp_seq fun K6 hK6 => awp_region rfl ?_))
  refine o_loadA [(bp (((-n) / ((Int.gcd (-n) (-d) : Nat) : Int)) < 0)), (.sl 1 (ns .u32 (digs ((-n) / ((Int.gcd (-n) (-d) : Nat) : Int)).natAbs)))] gn f20_ rfl rfl rfl rfl rfl ?_
  refine o_loadA [(bp (((-d) / ((Int.gcd (-n) (-d) : Nat) : Int)) < 0)), (.sl 1 (ns .u32 (digs ((-d) / ((Int.gcd (-n) (-d) : Nat) : Int)).natAbs)))] gn f20_ rfl rfl rfl rfl rfl ?_
  refine o_build [(bp (((-n) / ((Int.gcd (-n) (-d) : Nat) : Int)) < 0)), (.sl 1 (ns .u32 (digs ((-n) / ((Int.gcd (-n) (-d) : Nat) : Int)).natAbs))), (bp (((-d) / ((Int.gcd (-n) (-d) : Nat) : Int)) < 0)), (.sl 1 (ns .u32 (digs ((-d) / ((Int.gcd (-n) (-d) : Nat) : Int)).natAbs)))] [(0, [(bp (((-n) / ((Int.gcd (-n) (-d) : Nat) : Int)) < 0)), (.sl 1 (ns .u32 (digs ((-n) / ((Int.gcd (-n) (-d) : Nat) : Int)).natAbs)))]), (1, [(bp (((-d) / ((Int.gcd (-n) (-d) : Nat) : Int)) < 0)), (.sl 1 (ns .u32 (digs ((-d) / ((Int.gcd (-n) (-d) : Nat) : Int)).natAbs)))])] gn f87_ f85_ rfl rfl rfl ?_
  refine o_store [(9, (oZ 90 .u32 ((-d) % ((Int.gcd (-n) (-d) : Nat) : Int)))), (8, (oZ 90 .u32 ((-d) / ((Int.gcd (-n) (-d) : Nat) : Int)))), (7, (oZ 90 .u32 ((-n) % ((Int.gcd (-n) (-d) : Nat) : Int)))), (6, (oZ 90 .u32 ((-n) / ((Int.gcd (-n) (-d) : Nat) : Int)))), (5, (oZ 90 .u32 ((Int.gcd (-n) (-d) : Nat) : Int))), (4, (.var 92 [(bp (((-n) / ((Int.gcd (-n) (-d) : Nat) : Int)) < 0)), (.sl 1 (ns .u32 (digs ((-n) / ((Int.gcd (-n) (-d) : Nat) : Int)).natAbs))), (bp (((-d) / ((Int.gcd (-n) (-d) : Nat) : Int)) < 0)), (.sl 1 (ns .u32 (digs ((-d) / ((Int.gcd (-n) (-d) : Nat) : Int)).natAbs)))])), (3, oZ 90 .u32 (-d)), (2, oZ 90 .u32 (-n))] gn f88_ rfl rfl rfl rfl rfl rfl ?_
  refine aops_end (hK6 _ ?_)
  refine awp_ret ?_
  refine post_ret ⟨[(.agg [(bp (((-n) / ((Int.gcd (-n) (-d) : Nat) : Int)) < 0)), (.sl 1 (ns .u32 (digs ((-n) / ((Int.gcd (-n) (-d) : Nat) : Int)).natAbs))), (bp (((-d) / ((Int.gcd (-n) (-d) : Nat) : Int)) < 0)), (.sl 1 (ns .u32 (digs ((-d) / ((Int.gcd (-n) (-d) : Nat) : Int)).natAbs)))])], ⟨⟨4, (.var 92 [(bp (((-n) / ((Int.gcd (-n) (-d) : Nat) : Int)) < 0)), (.sl 1 (ns .u32 (digs ((-n) / ((Int.gcd (-n) (-d) : Nat) : Int)).natAbs))), (bp (((-d) / ((Int.gcd (-n) (-d) : Nat) : Int)) < 0)), (.sl 1 (ns .u32 (digs ((-d) / ((Int.gcd (-n) (-d) : Nat) : Int)).natAbs)))]), rfl, rfl, rfl, Or.inl ⟨f89_, AV.le_refl _⟩⟩, trivial⟩, rfl, ?_⟩
  exact (congrArg frW (red_n (sgn_lt0.1 (by assumption))))
 ·refine awp_skip (hK1 _ (awp_seq fun K7 hK7 => awp_region rfl ?_))
  refine o_loadA [bp (n < 0), .sl 1 (ns .u32 (digs n.natAbs))] gn f20_ rfl rfl rfl rfl rfl ?_
  refine o_loadA [bp (d < 0), .sl 1 (ns .u32 (digs d.natAbs))] gn f20_ rfl rfl rfl rfl rfl ?_
  refine o_ct (c_wGcd n d (by omega) (by omega)) gn f86_ rfl ?_
  refine o_alloc 5 [Fv, Zv] gn f15_ rfl rfl rfl ?_
  refine o_store [(5, (oZ 90 .u32 ((Int.gcd n d : Nat) : Int))), (4, .var 92 [Fv, Zv, Fv, Zv]), (3, oZ 90 .u32 d), (2, oZ 90 .u32 n)] gn f19_ rfl rfl rfl rfl rfl rfl ?_
  refine aops_end (hK7 _ (awp_seq fun K8 hK8 => awp_region rfl ?_))
  refine o_loadA [bp (n < 0), .sl 1 (ns .u32 (digs n.natAbs))] gn f20_ rfl rfl rfl rfl rfl ?_
  refine o_loadA [(bp (((Int.gcd n d : Nat) : Int) < 0)), (.sl 1 (ns .u32 (digs ((Int.gcd n d : Nat) : Int).natAbs)))] gn f20_ rfl rfl rfl rfl rfl ?_
  refine o_ct (c_wDivide n ((Int.gcd n d : Nat) : Int) (by omega) (by omega) (by omega)) gn f76_ rfl ?_
  refine o_mv (.tup [(intW (n / ((Int.gcd n d : Nat) : Int))), (intW (n % ((Int.gcd n d : Nat) : Int)))]) rfl (o_extract (intW (n / ((Int.gcd n d : Nat) : Int))) gn rfl rfl (o_extract (intW (n % ((Int.gcd n d : Nat) : Int))) gn rfl rfl ?_))
  refine o_alloc 6 [Fv, Zv] gn f15_ rfl rfl rfl ?_
  refine o_alloc 7 [Fv, Zv] gn f15_ rfl rfl rfl ?_
  refine o_store [(7, .var 90 [Fv, Zv]), (6, (oZ 90 .u32 (n / ((Int.gcd n d : Nat) : Int)))), (5, (oZ 90 .u32 ((Int.gcd n d : Nat) : Int))), (4, .var 92 [Fv, Zv, Fv, Zv]), (3, oZ 90 .u32 d), (2, oZ 90 .u32 n)] gn f19_ rfl rfl rfl rfl rfl rfl ?_
  refine o_store [(7, (oZ 90 .u32 (n % ((Int.gcd n d : Nat) : Int)))), (6, (oZ 90 .u32 (n / ((Int.gcd n d : Nat) : Int)))), (5, (oZ 90 .u32 ((Int.gcd n d : Nat) : Int))), (4, .var 92 [Fv, Zv, Fv, Zv]), (3, oZ 90 .u32 d), (2, oZ 90 .u32 n)] gn f19_ rfl rfl rfl rfl rfl rfl ?_
  refine aops_end (hK8 _ (awp_seq fun K9 hK9 => awp_region rfl ?_))
  refine o_loadA [bp (d < 0), .sl 1 (ns .u32 (digs d.natAbs))] gn f20_ rfl rfl rfl rfl rfl ?_
  refine o_loadA [(bp (((Int.gcd n d : Nat) : Int) < 0)), (.sl 1 (ns .u32 (digs ((Int.gcd n d : Nat) : Int).natAbs)))] gn f20_ rfl rfl rfl rfl rfl ?_
  refine o_ct (c_wDivide d ((Int.gcd n d : Nat) : Int) (by omega) (by omega) (by omega)) gn f76_ rfl ?_
  refine o_mv (.tup [(intW (d / ((Int.gcd n d : Nat) : Int))), (intW (d % ((Int.gcd n d : Nat) : Int)))]) rfl (o_extract (intW (d / ((Int.gcd n d : Nat) : Int))) gn rfl rfl (o_extract (intW (d % ((Int.gcd n d : Nat) : Int))) gn rfl rfl ?_))
  refine o_alloc 8 [Fv, Zv] gn f15_ rfl rfl rfl ?_
  refine o_alloc 9 [Fv, Zv] gn f15_ rfl rfl rfl ?_
  refine o_store [(9, .var 90 [Fv, Zv]), (8, (oZ 90 .u32 (d / ((Int.gcd n d : Nat) : Int)))), (7, (oZ 90 .u32 (n % ((Int.gcd n d : Nat) : Int)))), (6, (oZ 90 .u32 (n / ((Int.gcd n d : Nat) : Int)))), (5, (oZ 90 .u32 ((Int.gcd n d : Nat) : Int))), (4, .var 92 [Fv, Zv, Fv, Zv]), (3, oZ 90 .u32 d), (2, oZ 90 .u32 n)] gn f19_ rfl rfl rfl rfl rfl rfl ?_
  refine o_store [(9, (oZ 90 .u32 (d % ((Int.gcd n d : Nat) : Int)))), (8, (oZ 90 .u32 (d / ((Int.gcd n d : Nat) : Int)))), (7, (oZ 90 .u32 (n % ((Int.gcd n d : Nat) : Int)))), (6, (oZ 90 .u32 (n / ((Int.gcd n d : Nat) : Int)))), (5, (oZ 90 .u32 ((Int.gcd n d : Nat) : Int))), (4, .var 92 [Fv, Zv, Fv, Zv]), (3, oZ 90 .u32 d), (2, oZ 90 .u32 n)] gn f19_ rfl rfl rfl rfl rfl rfl ?_
  refine aops_end (hK9 _ (awp_seq fun K10 hK10 => awp_region rfl ?_))
  refine o_loadA [(bp ((n / ((Int.gcd n d : Nat) : Int)) < 0)), (.sl 1 (ns .u32 (digs (n / ((Int.gcd n d : Nat) : Int)).natAbs)))] gn f20_ rfl rfl rfl rfl rfl ?_
  refine o_loadA [(bp ((d / ((Int.gcd n d : Nat) : Int)) < 0)), (.sl 1 (ns .u32 (digs (d / ((Int.gcd n d : Nat) : Int)).natAbs)))] gn f20_ rfl rfl rfl rfl rfl ?_
  refine o_build [(bp ((n / ((Int.gcd n d : Nat) : Int)) < 0)), (.sl 1 (ns .u32 (digs (n / ((Int.gcd n d : Nat) : Int)).natAbs))), (bp ((d / ((Int.gcd n d : Nat) : Int)) < 0)), (.sl 1 (ns .u32 (digs (d / ((Int.gcd n d : Nat) : Int)).natAbs)))] [(0, [(bp ((n / ((Int.gcd n d : Nat) : Int)) < 0)), (.sl 1 (ns .u32 (digs (n / ((Int.gcd n d : Nat) : Int)).natAbs)))]), (1, [(bp ((d / ((Int.gcd n d : Nat) : Int)) < 0)), (.sl 1 (ns .u32 (digs (d / ((Int.gcd n d : Nat) : Int)).natAbs)))])] gn f87_ f85_ rfl rfl rfl ?_
  refine o_store [(9, (oZ 90 .u32 (d % ((Int.gcd n d : Nat) : Int)))), (8, (oZ 90 .u32 (d / ((Int.gcd n d : Nat) : Int)))), (7, (oZ 90 .u32 (n % ((Int.gcd n d : Nat) : Int)))), (6, (oZ 90 .u32 (n / ((Int.gcd n d : Nat) : Int)))), (5, (oZ 90 .u32 ((Int.gcd n d : Nat) : Int))), (4, (.var 92 [(bp ((n / ((Int.gcd n d : Nat) : Int)) < 0)), (.sl 1 (ns .u32 (digs (n / ((Int.gcd n d : Nat) : Int)).natAbs))), (bp ((d / ((Int.gcd n d : Nat) : Int)) < 0)), (.sl 1 (ns .u32 (digs (d / ((Int.gcd n d : Nat) : Int)).natAbs)))])), (3, oZ 90 .u32 d), (2, oZ 90 .u32 n)] gn f88_ rfl rfl rfl rfl rfl rfl ?_
  refine aops_end (hK10 _ ?_)
  refine awp_ret ?_
  refine post_ret ⟨[(.agg [(bp ((n / ((Int.gcd n d : Nat) : Int)) < 0)), (.sl 1 (ns .u32 (digs (n / ((Int.gcd n d : Nat) : Int)).natAbs))), (bp ((d / ((Int.gcd n d : Nat) : Int)) < 0)), (.sl 1 (ns .u32 (digs (d / ((Int.gcd n d : Nat) : Int)).natAbs)))])], ⟨⟨4, (.var 92 [(bp ((n / ((Int.gcd n d : Nat) : Int)) < 0)), (.sl 1 (ns .u32 (digs (n / ((Int.gcd n d : Nat) : Int)).natAbs))), (bp ((d / ((Int.gcd n d : Nat) : Int)) < 0)), (.sl 1 (ns .u32 (digs (d / ((Int.gcd n d : Nat) : Int)).natAbs)))]), rfl, rfl, rfl, Or.inl ⟨f89_, AV.le_refl _⟩⟩, trivial⟩, rfl, ?_⟩
  exact (congrArg frW (red_p (fun e => absurd (sgn_lt0.2 e) (by assumption))))

theorem c_yTold (f : FrZ) (h1 : Fit f.num) (h2 : Fit f.den) : ECalls cx 66 [frW f] (.tup [.agg (cF (frT f)), .lit (.bool true)]) := by
 refine ecalls_of_awp Tryz.func66 (c := _) rfl (Nat.le_of_ble_eq_true rfl) ?_
 show awp cx 29 _ (postF cx Tryz.f66 _) ⟨[(0, frW f)], []⟩
 have l1 := fit_len h1
 have l2 := fit_len h2
 refine awp_seq fun K0 hK0 => awp_region rfl ?_
 refine o_box 2 [bp (f.num < 0), .sl 1 (ns .u32 (digs (f.num).natAbs)), bp (f.den < 0), .sl 1 (ns .u32 (digs (f.den).natAbs))] gn rfl rfl ?_
 refine o_alloc 3 [Sv Ev, Sv Ev] gn f90_ rfl rfl rfl ?_
 refine o_as Fv rfl (aops_end (hK0 _ (awp_seq fun K1 hK1 => awp_region rfl ?_)))
 refine o_fieldRef 0 gn f91_ rfl rfl ?_
 refine o_loadA [bp (f.num < 0), .sl 1 (ns .u32 (digs (f.num).natAbs))] gn f20_ rfl rfl rfl rfl rfl ?_
 refine o_ct (c_nTold (f.num) (by first | omega | assumption | (simp only [Int.natAbs_neg]; omega))) gn f92_ rfl ?_
 refine o_mv (.tup [Sv (toldS (f.num)), Nv (toldE (f.num))]) rfl (o_extract (Sv (toldS (f.num))) gn rfl rfl ?_)
 refine n_as (v' := (Sv (txt f.num))) (by exact str_as (if_pos h1)) ?_
 refine o_extract (Nv (toldE (f.num))) gn rfl rfl ?_
 refine n_as (v' := (Nv 0)) (by exact congrArg (nm _) (if_pos h1)) ?_
 refine o_as (Sv (txt f.num)) rfl (o_as (Nv 0) rfl (aops_end (hK1 _ (awp_seq fun K2 hK2 => awp_region rfl ?_))))
 refine o_fieldRef 2 gn f93_ rfl rfl ?_
 refine o_loadA [bp (f.den < 0), .sl 1 (ns .u32 (digs (f.den).natAbs))] gn f20_ rfl rfl rfl rfl rfl ?_
 refine o_ct (c_nTold (f.den) (by first | omega | assumption | (simp only [Int.natAbs_neg]; omega))) gn f92_ rfl ?_
 refine o_mv (.tup [Sv (toldS (f.den)), Nv (toldE (f.den))]) rfl (o_extract (Sv (toldS (f.den))) gn rfl rfl ?_)
 refine n_as (v' := (Sv (txt f.den))) (by exact str_as (if_pos h2)) ?_
 refine o_extract (Nv (toldE (f.den))) gn rfl rfl ?_
 refine n_as (v' := (Nv 0)) (by exact congrArg (nm _) (if_pos h2)) ?_
 refine o_as (Sv (txt f.den)) rfl (o_as (Nv 0) rfl (aops_end (hK2 _ (awp_seq fun K3 hK3 => awp_region rfl (o_mv (Sv (txt f.num)) rfl (o_mv (Sv (txt f.den)) rfl ?_))))))
 refine o_build [Sv (txt f.num), Sv (txt f.den)] [(0, [Sv (txt f.num)]), (1, [Sv (txt f.den)])] gn f94_ f90_ rfl rfl rfl ?_
 refine o_mv (Nv 0) rfl ?_
 refine n_eql 0 0 gn rfl rfl ?_
 refine o_mv (bp (0 = 0)) rfl ?_
 refine o_move (Nv 0) (Gd.yes rfl rfl (decide_eq_true (by decide))) rfl ?_
 refine n_eql 0 0 (Gd.yes rfl rfl (decide_eq_true (by decide))) rfl rfl ?_
 refine o_pickT (bp (0 = 0)) gn rfl (decide_eq_true (by decide)) rfl ?_
 refine o_store [(3, .var 45 [Sv (txt f.num), Sv (txt f.den)]), (2, .var 92 [bp (f.num < 0), .sl 1 (ns .u32 (digs (f.num).natAbs)), bp (f.den < 0), .sl 1 (ns .u32 (digs (f.den).natAbs))])] gn f95_ rfl rfl rfl rfl rfl rfl ?_
 refine o_as (bp (0 = 0)) rfl (aops_end (hK3 _ ?_))
 refine awp_ret ?_
 refine post_ret ⟨[.agg [Sv (txt f.num), Sv (txt f.den)], bp (0 = 0)], ⟨⟨3, .var 45 [Sv (txt f.num), Sv (txt f.den)], rfl, rfl, rfl, Or.inl ⟨f96_, AV.le_refl _⟩⟩, AV.le_refl _, trivial⟩, rfl, ?_⟩
 rfl

theorem c_yFix (m : MapM) (w : List Int) (hM : OkM m) (hf : freeM m) (hW : OkW m w) (hne : w ≠ []) : ECalls cx 49 [mapV m, Lv w] (frW (fixZ m w)) := by
 refine ecalls_of_awp Tryz.func49 (c := _) rfl (Nat.le_of_ble_eq_true rfl) ?_
 show awp cx 17 _ (postF cx Tryz.f49 _) ⟨[(0, mapV m), (1, Lv w)], []⟩
 obtain ⟨l1, l2, l3⟩ := line_len hM w hW.1
 have l4 := hW.2
 have l5 := len_subZ (lineZ m w).div (lineZ m w).mul
 have l6 := line_ne hM hf hW.1 hne
 refine awp_seq fun K0 hK0 => awp_region rfl ?_
 refine o_box 2 [Iv m.mod, Lv m.mul, Lv m.add] gn rfl rfl ?_
 refine o_alloc 3 [Fv, Zv, Fv, Zv] gn f85_ rfl rfl rfl ?_
 refine aops_end (hK0 _ (awp_seq fun K1 hK1 => awp_region rfl ?_))
 refine o_loadA [Iv m.mod, Lv m.mul, Lv m.add] gn f63_ rfl rfl rfl rfl rfl ?_
 refine o_mv (Lv w) rfl ?_
 refine o_ct (c_oOf m w (by first | assumption | exact okM_iff.1 (by assumption)) (by first | assumption | exact (by assumption : OkW _ _).1 | exact isW_take (by assumption : OkW _ _).1 _) (by first | omega | exact (by assumption : OkW _ _).2)) gn f97_ rfl ?_
 refine o_alloc 4 [Fv, Zv, Fv, Zv, Fv, Zv] gn f77_ rfl rfl rfl ?_
 refine o_store [(4, .var 140 [Bv ((lineZ m w).mul), Dv ((lineZ m w).mul), Bv ((lineZ m w).add), Dv ((lineZ m w).add), Bv ((lineZ m w).div), Dv ((lineZ m w).div)]), (3, .var 92 [Fv, Zv, Fv, Zv]), (2, oM 24 m)] gn f79_ rfl rfl rfl rfl rfl rfl ?_
 refine aops_end (hK1 _ (awp_seq fun K2 hK2 => awp_regionD rfl ?_))
 refine o_fieldRef 2 gn f82_ rfl rfl ?_
 refine o_loadA [Bv ((lineZ m w).add), Dv ((lineZ m w).add)] gn f20_ rfl rfl rfl rfl rfl ?_
 refine o_fieldRef 4 gn f83_ rfl rfl ?_
 refine o_loadA [Bv ((lineZ m w).div), Dv ((lineZ m w).div)] gn f20_ rfl rfl rfl rfl rfl ?_
 refine o_fieldRef 0 gn f81_ rfl rfl ?_
 refine o_loadA [Bv ((lineZ m w).mul), Dv ((lineZ m w).mul)] gn f20_ rfl rfl rfl rfl rfl ?_
 refine o_ct (c_wSub ((lineZ m w).div) ((lineZ m w).mul) (by first | omega | assumption | (simp only [Int.natAbs_neg]; omega)) (by first | omega | assumption | (simp only [Int.natAbs_neg]; omega))) gn f47_ rfl ?_
 refine o_ct (c_yRed ((lineZ m w).add) (((lineZ m w).div) - ((lineZ m w).mul)) (by first | omega | assumption) (by first | omega | assumption) (by first | omega | assumption)) gn f98_ rfl ?_
 refine o_store [(4, .var 140 [Bv ((lineZ m w).mul), Dv ((lineZ m w).mul), Bv ((lineZ m w).add), Dv ((lineZ m w).add), Bv ((lineZ m w).div), Dv ((lineZ m w).div)]), (3, .var 92 [bp ((redZ ((lineZ m w).add) (((lineZ m w).div) - ((lineZ m w).mul))).num < 0), .sl 1 (ns .u32 (digs ((redZ ((lineZ m w).add) (((lineZ m w).div) - ((lineZ m w).mul))).num).natAbs)), bp ((redZ ((lineZ m w).add) (((lineZ m w).div) - ((lineZ m w).mul))).den < 0), .sl 1 (ns .u32 (digs ((redZ ((lineZ m w).add) (((lineZ m w).div) - ((lineZ m w).mul))).den).natAbs))]), (2, oM 24 m)] gn f88_ rfl rfl rfl rfl rfl rfl ?_
 refine aops_end ⟨by kernel_rfl, ?_⟩
 refine hK2 _ ?_
 refine awp_ret ?_
 refine post_ret ⟨[.agg [bp ((redZ ((lineZ m w).add) (((lineZ m w).div) - ((lineZ m w).mul))).num < 0), .sl 1 (ns .u32 (digs ((redZ ((lineZ m w).add) (((lineZ m w).div) - ((lineZ m w).mul))).num).natAbs)), bp ((redZ ((lineZ m w).add) (((lineZ m w).div) - ((lineZ m w).mul))).den < 0), .sl 1 (ns .u32 (digs ((redZ ((lineZ m w).add) (((lineZ m w).div) - ((lineZ m w).mul))).den).natAbs))]], ⟨⟨3, .var 92 [bp ((redZ ((lineZ m w).add) (((lineZ m w).div) - ((lineZ m w).mul))).num < 0), .sl 1 (ns .u32 (digs ((redZ ((lineZ m w).add) (((lineZ m w).div) - ((lineZ m w).mul))).num).natAbs)), bp ((redZ ((lineZ m w).add) (((lineZ m w).div) - ((lineZ m w).mul))).den < 0), .sl 1 (ns .u32 (digs ((redZ ((lineZ m w).add) (((lineZ m w).div) - ((lineZ m w).mul))).den).natAbs))], rfl, rfl, rfl, Or.inl ⟨f89_, AV.le_refl _⟩⟩, trivial⟩, rfl, ?_⟩
 rfl

theorem c_yCheck (m : MapM) (w : List Int) (hl : w.length ≤ 17592186044416) : ECalls cx 65 [mapV m, Lv w] (Nv (cycE m w)) := by
 refine ecalls_of_awp Tryz.func65 (c := _) rfl (Nat.le_of_ble_eq_true rfl) ?_
 show awp cx 24 _ (postF cx Tryz.f65 _) ⟨[(0, mapV m), (1, Lv w)], []⟩
 refine awp_seq fun K0 hK0 => awp_region rfl ?_
 refine o_box 2 [Iv m.mod, Lv m.mul, Lv m.add] gn rfl rfl ?_
 refine o_as (Nv 0) rfl (aops_end (hK0 _ (awp_seq fun K1 hK1 => ?_)))
 refine awp_block ?_
 refine awp_seq fun K2 hK2 => awp_region rfl ?_
 refine o_loadA [Iv m.mod, Lv m.mul, Lv m.add] gn f63_ rfl rfl rfl rfl rfl ?_
 refine o_ct (c_sValid m) gn f99_ rfl ?_
 refine o_not (b := okM m) gn rfl ?_
 refine o_as (.lit (.bool (!(okM m)))) rfl (aops_end (hK2 _ ?_))
 refine awp_condB (b := !(okM m)) rfl (fun h1 => ?_) (fun h1 => ?_)
 ·have hm' : ¬ okM m = true := by simpa using h1
  refine awp_seq fun K3 hK3 => awp_region rfl (o_as (Nv 1) rfl (aops_end (hK3 _ ?_)))
  refine awp_ret ?_
  refine post_ret ⟨[Nv 1], ⟨AV.le_refl _, trivial⟩, rfl, ?_⟩
  first | exact congrArg (nm _) (cyc_1 hm').symm | exact congrArg (nm _) (cyc_2 hm' (fun e => absurd e.1 (by assumption))).symm | exact congrArg (nm _) (cyc_2 hm' (fun e => absurd e.2.1 (by assumption))).symm | exact congrArg (nm _) (cyc_2 hm' (fun e => e.2.2 (List.eq_nil_of_length_eq_zero (by omega)))).symm | exact congrArg (nm _) (cyc_0 hm' ⟨Decidable.not_not.1 (by assumption), Decidable.not_not.1 (by assumption), fun e => by have q := congrArg List.length e; rw [List.length_nil] at q; omega⟩).symm | exact congrArg (nm _) (cyc_1 hm') | exact congrArg (nm _) (cyc_2 hm' (fun e => absurd e.1 (by assumption))) | exact congrArg (nm _) (cyc_2 hm' (fun e => absurd e.2.1 (by assumption))) | exact congrArg (nm _) (cyc_2 hm' (fun e => e.2.2 (List.eq_nil_of_length_eq_zero (by omega)))) | exact congrArg (nm _) (cyc_0 hm' ⟨Decidable.not_not.1 (by assumption), Decidable.not_not.1 (by assumption), fun e => by have q := congrArg List.length e; rw [List.length_nil] at q; omega⟩)
 ·have hm' : okM m = true := by simpa using h1
  have hM := okM_iff.1 hm'
  refine awp_seq fun K4 hK4 => awp_region rfl ?_
  refine o_loadA [Iv m.mod, Lv m.mul, Lv m.add] gn f63_ rfl rfl rfl rfl rfl ?_
  refine o_ct (c_sFree m (by first | assumption | exact okM_iff.1 (by assumption))) gn f100_ rfl ?_
  refine o_notP (q := freeM m) gn rfl ?_
  refine o_mv (bp (¬ (freeM m))) rfl ?_
  refine o_splitP (q := ¬ (freeM m)) 13 rfl (fun h2 => ?_) (fun h2 => ?_)
  ·refine o_skip rfl rfl (decide_eq_true h2) (o_skip rfl rfl (decide_eq_true h2) (o_skip rfl rfl (decide_eq_true h2) (o_skip rfl rfl (decide_eq_true h2) ?_)))
   refine o_pickT Tv gn rfl (decide_eq_true h2) rfl ?_
   refine o_mv Tv rfl (o_skip rfl rfl rfl (o_skip rfl rfl rfl (o_skip rfl rfl rfl ?_)))
   refine o_pickT Tv gn rfl rfl rfl ?_
   refine o_as Tv rfl (aops_end (hK4 _ ?_))
   refine awp_condB (b := true) rfl (fun _ => ?_) (fun hh => absurd (hh.symm.trans rfl) (by decide))
   refine awp_seq fun K5 hK5 => awp_region rfl (o_as (Nv 2) rfl (aops_end (hK5 _ ?_)))
   refine awp_ret ?_
   refine post_ret ⟨[Nv 2], ⟨AV.le_refl _, trivial⟩, rfl, ?_⟩
   first | exact congrArg (nm _) (cyc_1 hm').symm | exact congrArg (nm _) (cyc_2 hm' (fun e => absurd e.1 (by assumption))).symm | exact congrArg (nm _) (cyc_2 hm' (fun e => absurd e.2.1 (by assumption))).symm | exact congrArg (nm _) (cyc_2 hm' (fun e => e.2.2 (List.eq_nil_of_length_eq_zero (by omega)))).symm | exact congrArg (nm _) (cyc_0 hm' ⟨Decidable.not_not.1 (by assumption), Decidable.not_not.1 (by assumption), fun e => by have q := congrArg List.length e; rw [List.length_nil] at q; omega⟩).symm | exact congrArg (nm _) (cyc_1 hm') | exact congrArg (nm _) (cyc_2 hm' (fun e => absurd e.1 (by assumption))) | exact congrArg (nm _) (cyc_2 hm' (fun e => absurd e.2.1 (by assumption))) | exact congrArg (nm _) (cyc_2 hm' (fun e => e.2.2 (List.eq_nil_of_length_eq_zero (by omega)))) | exact congrArg (nm _) (cyc_0 hm' ⟨Decidable.not_not.1 (by assumption), Decidable.not_not.1 (by assumption), fun e => by have q := congrArg List.length e; rw [List.length_nil] at q; omega⟩)
  ·refine o_loadA [Iv m.mod, Lv m.mul, Lv m.add] (Gd.yes rfl rfl (decide_eq_false h2)) f63_ rfl rfl rfl rfl rfl ?_
   refine o_move (Lv w) (Gd.yes rfl rfl (decide_eq_false h2)) rfl ?_
   refine o_ct (c_oIs m w) (Gd.yes rfl rfl (decide_eq_false h2)) f101_ rfl ?_
   refine o_notP (q := OkW m w) (Gd.yes rfl rfl (decide_eq_false h2)) rfl ?_
   refine o_pickF (bp (¬ (OkW m w))) gn rfl (decide_eq_false h2) rfl ?_
   refine o_mv (bp (¬ (OkW m w))) rfl ?_
   refine o_splitP (q := ¬ (OkW m w)) 19 rfl (fun h3 => ?_) (fun h3 => ?_)
   ·refine o_skip rfl rfl (decide_eq_true h3) (o_skip rfl rfl (decide_eq_true h3) (o_skip rfl rfl (decide_eq_true h3) ?_))
    refine o_pickT Tv gn rfl (decide_eq_true h3) rfl ?_
    refine o_as Tv rfl (aops_end (hK4 _ ?_))
    refine awp_condB (b := true) rfl (fun _ => ?_) (fun hh => absurd (hh.symm.trans rfl) (by decide))
    refine awp_seq fun K6 hK6 => awp_region rfl (o_as (Nv 2) rfl (aops_end (hK6 _ ?_)))
    refine awp_ret ?_
    refine post_ret ⟨[Nv 2], ⟨AV.le_refl _, trivial⟩, rfl, ?_⟩
    first | exact congrArg (nm _) (cyc_1 hm').symm | exact congrArg (nm _) (cyc_2 hm' (fun e => absurd e.1 (by assumption))).symm | exact congrArg (nm _) (cyc_2 hm' (fun e => absurd e.2.1 (by assumption))).symm | exact congrArg (nm _) (cyc_2 hm' (fun e => e.2.2 (List.eq_nil_of_length_eq_zero (by omega)))).symm | exact congrArg (nm _) (cyc_0 hm' ⟨Decidable.not_not.1 (by assumption), Decidable.not_not.1 (by assumption), fun e => by have q := congrArg List.length e; rw [List.length_nil] at q; omega⟩).symm | exact congrArg (nm _) (cyc_1 hm') | exact congrArg (nm _) (cyc_2 hm' (fun e => absurd e.1 (by assumption))) | exact congrArg (nm _) (cyc_2 hm' (fun e => absurd e.2.1 (by assumption))) | exact congrArg (nm _) (cyc_2 hm' (fun e => e.2.2 (List.eq_nil_of_length_eq_zero (by omega)))) | exact congrArg (nm _) (cyc_0 hm' ⟨Decidable.not_not.1 (by assumption), Decidable.not_not.1 (by assumption), fun e => by have q := congrArg List.length e; rw [List.length_nil] at q; omega⟩)
   ·refine o_move (Lv w) (Gd.yes rfl rfl (decide_eq_false h3)) rfl ?_
    refine i_len w (Gd.yes rfl rfl (decide_eq_false h3)) f2_ rfl ?_
    refine n_eql (w.length) 0 (Gd.yes rfl rfl (decide_eq_false h3)) rfl rfl ?_
    refine o_pickF (bp ((w.length) = 0)) gn rfl (decide_eq_false h3) rfl ?_
    refine o_as (bp ((w.length) = 0)) rfl (aops_end (hK4 _ ?_))
    refine awp_condQ (q := (w.length) = 0) rfl (fun h4 => ?_) (fun h4 => ?_)
    ·refine awp_seq fun K7 hK7 => awp_region rfl (o_as (Nv 2) rfl (aops_end (hK7 _ ?_)))
     refine awp_ret ?_
     refine post_ret ⟨[Nv 2], ⟨AV.le_refl _, trivial⟩, rfl, ?_⟩
     first | exact congrArg (nm _) (cyc_1 hm').symm | exact congrArg (nm _) (cyc_2 hm' (fun e => absurd e.1 (by assumption))).symm | exact congrArg (nm _) (cyc_2 hm' (fun e => absurd e.2.1 (by assumption))).symm | exact congrArg (nm _) (cyc_2 hm' (fun e => e.2.2 (List.eq_nil_of_length_eq_zero (by omega)))).symm | exact congrArg (nm _) (cyc_0 hm' ⟨Decidable.not_not.1 (by assumption), Decidable.not_not.1 (by assumption), fun e => by have q := congrArg List.length e; rw [List.length_nil] at q; omega⟩).symm | exact congrArg (nm _) (cyc_1 hm') | exact congrArg (nm _) (cyc_2 hm' (fun e => absurd e.1 (by assumption))) | exact congrArg (nm _) (cyc_2 hm' (fun e => absurd e.2.1 (by assumption))) | exact congrArg (nm _) (cyc_2 hm' (fun e => e.2.2 (List.eq_nil_of_length_eq_zero (by omega)))) | exact congrArg (nm _) (cyc_0 hm' ⟨Decidable.not_not.1 (by assumption), Decidable.not_not.1 (by assumption), fun e => by have q := congrArg List.length e; rw [List.length_nil] at q; omega⟩)
    ·refine awp_skip (hK1 _ (awp_seq fun K8 hK8 => awp_region rfl (o_as (Nv 0) rfl (aops_end (hK8 _ ?_)))))
     refine awp_ret ?_
     refine post_ret ⟨[Nv 0], ⟨AV.le_refl _, trivial⟩, rfl, ?_⟩
     first | exact congrArg (nm _) (cyc_1 hm').symm | exact congrArg (nm _) (cyc_2 hm' (fun e => absurd e.1 (by assumption))).symm | exact congrArg (nm _) (cyc_2 hm' (fun e => absurd e.2.1 (by assumption))).symm | exact congrArg (nm _) (cyc_2 hm' (fun e => e.2.2 (List.eq_nil_of_length_eq_zero (by omega)))).symm | exact congrArg (nm _) (cyc_0 hm' ⟨Decidable.not_not.1 (by assumption), Decidable.not_not.1 (by assumption), fun e => by have q := congrArg List.length e; rw [List.length_nil] at q; omega⟩).symm | exact congrArg (nm _) (cyc_1 hm') | exact congrArg (nm _) (cyc_2 hm' (fun e => absurd e.1 (by assumption))) | exact congrArg (nm _) (cyc_2 hm' (fun e => absurd e.2.1 (by assumption))) | exact congrArg (nm _) (cyc_2 hm' (fun e => e.2.2 (List.eq_nil_of_length_eq_zero (by omega)))) | exact congrArg (nm _) (cyc_0 hm' ⟨Decidable.not_not.1 (by assumption), Decidable.not_not.1 (by assumption), fun e => by have q := congrArg List.length e; rw [List.length_nil] at q; omega⟩)

theorem c_yFixed (m : MapM) (w : List Int) (hl : w.length ≤ 17592186044416) : ECalls cx 19 [mapV m, Lv w] (.tup [.agg (cF (fxF m w)), nm .i64 (cycE m w)]) := by
 refine ecalls_of_awp Tryz.func19 (c := _) rfl (Nat.le_of_ble_eq_true rfl) ?_
 show awp cx 27 _ (postF cx Tryz.f19 _) ⟨[(0, mapV m), (1, Lv w)], []⟩
 refine awp_seq fun K0 hK0 => awp_region rfl ?_
 refine o_box 2 [Iv m.mod, Lv m.mul, Lv m.add] gn rfl rfl ?_
 refine o_alloc 3 [Sv Ev, Sv Ev] gn f90_ rfl rfl rfl ?_
 refine o_as (Nv 0) rfl (aops_end (hK0 _ (awp_seq fun K1 hK1 => awp_seq fun K2 hK2 => awp_region rfl ?_)))
 refine o_loadA [Iv m.mod, Lv m.mul, Lv m.add] gn f63_ rfl rfl rfl rfl rfl ?_
 refine o_mv (Lv w) rfl ?_
 refine o_ct (c_yCheck m w (by assumption)) gn f102_ rfl ?_
 refine o_as (Nv (cycE m w)) rfl (aops_end (hK2 _ (awp_seq fun K3 hK3 => awp_region rfl (o_mv (Nv (cycE m w)) rfl ?_))))
 refine n_neq (cycE m w) 0 gn rfl rfl ?_
 refine aops_end (hK3 _ ?_)
 refine awp_condQ (q := (cycE m w) ≠ 0) rfl (fun h1 => ?_) (fun h1 => ?_)
 ·have hx := fxF_no h1
  refine awp_seq fun K4 hK4 => awp_region rfl ?_
  refine o_build [Sv Ev, Sv Ev] [] gn f94_ f90_ rfl rfl rfl ?_
  refine o_mv (Nv (cycE m w)) rfl ?_
  refine o_store [(3, .var 45 [Sv Ev, Sv Ev]), (2, oM 24 m)] gn f95_ rfl rfl rfl rfl rfl rfl ?_
  refine o_as (Nv (cycE m w)) rfl (aops_end (hK4 _ ?_))
  refine awp_ret ?_
  refine post_ret ⟨[.agg [Sv Ev, Sv Ev], Nv (cycE m w)], ⟨⟨3, .var 45 [Sv Ev, Sv Ev], rfl, rfl, rfl, Or.inl ⟨f96_, AV.le_refl _⟩⟩, AV.le_refl _, trivial⟩, rfl, ?_⟩
  first | exact tup_eq2 (congrArg (fun f => AV.agg (cF f)) hx.1) rfl | exact tup_eq2 (congrArg (fun f => AV.agg (cF f)) hx.1.symm) rfl | exact tup_eq2 (congrArg (fun f => AV.agg (cF f)) hx.1) (congrArg (nm _) hc0) | exact tup_eq2 (congrArg (fun f => AV.agg (cF f)) hx.1.symm) (congrArg (nm _) hc0.symm)
 ·have hc0 := Decidable.not_not.1 h1
  obtain ⟨hM, hf, hW, hne⟩ := cyc_0' hc0
  obtain ⟨k1, k2⟩ := fix_fit hM hf hW hne
  have hx := fxF_ok hc0
  refine awp_skip (hK1 _ (awp_seq fun K5 hK5 => awp_region rfl ?_))
  refine o_loadA [Iv m.mod, Lv m.mul, Lv m.add] gn f63_ rfl rfl rfl rfl rfl ?_
  refine o_mv (Lv w) rfl ?_
  refine o_ct (c_yFix m w hM hf hW hne) gn f103_ rfl ?_
  refine o_ct (c_yTold (fixZ m w) (by assumption) (by assumption)) gn f104_ rfl ?_
  refine o_mv (.tup [.agg [Sv ((frT (fixZ m w)).num), Sv ((frT (fixZ m w)).den)], Tv]) rfl (o_extract (.agg [Sv ((frT (fixZ m w)).num), Sv ((frT (fixZ m w)).den)]) gn rfl rfl (o_extract Tv gn rfl rfl ?_))
  refine o_alloc 4 [Sv Ev, Sv Ev] gn f90_ rfl rfl rfl ?_
  refine o_store [(4, .var 45 [Sv ((frT (fixZ m w)).num), Sv ((frT (fixZ m w)).den)]), (3, .var 45 [Sv Ev, Sv Ev]), (2, oM 24 m)] gn f95_ rfl rfl rfl rfl rfl rfl ?_
  refine o_as Tv rfl (aops_end (hK5 _ (awp_seq fun K6 hK6 => awp_seq fun K7 hK7 => awp_region rfl (o_mv Tv rfl ?_))))
  refine o_not (b := true) gn rfl ?_
  refine aops_end (hK7 _ ?_)
  refine awp_condB (b := false) rfl (fun hh => absurd (hh.symm.trans rfl) (by decide)) (fun _ => ?_)
  refine awp_skip (hK6 _ (awp_seq fun K8 hK8 => awp_region rfl ?_))
  refine o_loadA [Sv ((frT (fixZ m w)).num), Sv ((frT (fixZ m w)).den)] gn f96_ rfl rfl rfl rfl rfl ?_
  refine o_store [(4, .var 45 [Sv ((frT (fixZ m w)).num), Sv ((frT (fixZ m w)).den)]), (3, .var 45 [Sv ((frT (fixZ m w)).num), Sv ((frT (fixZ m w)).den)]), (2, oM 24 m)] gn f95_ rfl rfl rfl rfl rfl rfl ?_
  refine o_as (Nv 0) rfl (aops_end (hK8 _ ?_))
  refine awp_ret ?_
  refine post_ret ⟨[.agg [Sv ((frT (fixZ m w)).num), Sv ((frT (fixZ m w)).den)], Nv 0], ⟨⟨3, .var 45 [Sv ((frT (fixZ m w)).num), Sv ((frT (fixZ m w)).den)], rfl, rfl, rfl, Or.inl ⟨f96_, AV.le_refl _⟩⟩, AV.le_refl _, trivial⟩, rfl, ?_⟩
  first | exact tup_eq2 (congrArg (fun f => AV.agg (cF f)) hx.1) rfl | exact tup_eq2 (congrArg (fun f => AV.agg (cF f)) hx.1.symm) rfl | exact tup_eq2 (congrArg (fun f => AV.agg (cF f)) hx.1) (congrArg (nm _) hc0) | exact tup_eq2 (congrArg (fun f => AV.agg (cF f)) hx.1.symm) (congrArg (nm _) hc0.symm)

end Go.Proofs.YtdmkejloknejdaaGreatDoor

namespace Go.Ab
theorem Wk.cells {C : Ctx} {n : Nat} {σ : St} {i ty : Nat} {cs cs' : List AV} (hs : lookO σ.objs i = some (.var ty cs)) (hl : LeL cs cs') : Wk C n σ ⟨σ.slots, (i, .var ty cs') :: σ.objs⟩ := fun w0 H L a w hr => by
 have conv : ∀ j o, lookO ((i, .var ty cs') :: σ.objs) j = some o → (j = i ∧ o = .var ty cs') ∨ (j ≠ i ∧ σ.sem.μ j = some o) := fun j o ho => by
  simp only [lookO] at ho
  by_cases h2 : j = i
  ·subst h2
   simp at ho
   exact .inl ⟨rfl, ho.symm⟩
  ·rw [beq_ne (fun e => h2 e.symm)] at ho
   exact .inr ⟨h2, ho⟩
 have hi0 := hr.objs i (.var ty cs) hs
 refine ⟨H, L, Ext.refl _ _, ⟨hr.glob, hr.heap, hr.size, hr.slot, fun j o ho => ?_, fun j k o o' g x x' hjk hj hk => ?_, hr.below, hr.defers⟩⟩
 ·rcases conv j o ho with ⟨rfl, rfl⟩ | ⟨h1, h2⟩
  ·obtain ⟨g, vs, a1, a2, a3, a4, a5, a6⟩ := hi0
   exact ⟨g, vs, a1, a2, hl.rep a3, a4, a5, a6⟩
  ·exact hr.objs j o h2
 ·have conv' : ∀ j o, lookO ((i, .var ty cs') :: σ.objs) j = some o → ∃ o', σ.sem.μ j = some o' := fun j o ho => by
   rcases conv j o ho with ⟨rfl, rfl⟩ | ⟨h1, h2⟩
   ·exact ⟨_, hs⟩
   ·exact ⟨_, h2⟩
  obtain ⟨o1, h1⟩ := conv' j o hj
  obtain ⟨o2, h2⟩ := conv' k o' hk
  exact hr.apart j k o1 o2 g x x' hjk h1 h2
end Go.Ab
namespace Go.Mth
open Go.Ab
def gC (a b : Nat) : Prop := ((digs a).getD ((digs a).length - 1) 0) ≤ ((digs b).getD ((digs b).length - 1) 0) ∧ 0 < (digs a).length - (digs b).length
instance (a b : Nat) : Decidable (gC a b) := inferInstanceAs (Decidable ((digs a).getD ((digs a).length - 1) 0 ≤ ((digs b).getD ((digs b).length - 1) 0) ∧ 0 < (digs a).length - (digs b).length))
def gSh (a b : Nat) : Nat := if gC a b then (digs a).length - (digs b).length - 1 else (digs a).length - (digs b).length
def gTop (a b : Nat) : Nat := if gC a b then ((digs a).getD ((digs a).length - 1) 0) * 1000000000 + (digs a).getD ((digs a).length - 2) 0 else ((digs a).getD ((digs a).length - 1) 0)
def gQ (a b : Nat) : Nat := max (gTop a b / ((digs b).getD ((digs b).length - 1) 0 + 1)) 1
def guessN (a b : Nat) : Nat := 1000000000 ^ gSh a b * gQ a b
end Go.Mth

namespace Go.Proofs.YtdmkejloknejdaaGreatDoor
open Go Go.Ab Go.Mth
end Go.Proofs.YtdmkejloknejdaaGreatDoor

namespace Go.Proofs.YtdmkejloknejdaaGreatDoor
open Go Go.Ab Go.Mth
end Go.Proofs.YtdmkejloknejdaaGreatDoor

namespace Go.Proofs.YtdmkejloknejdaaGreatDoor
open Go Go.Ab Go.Mth
end Go.Proofs.YtdmkejloknejdaaGreatDoor

namespace Go.Mth
open Go.Ab
theorem cmpL_s1 {x y : List Int} {i : Nat} (hx : i < x.length) (hy : y.length ≤ i) : cmpL (x.drop i) (y.drop i) = 1 := by
 rw [List.drop_of_length_le hy, List.drop_eq_getElem_cons hx]; rfl
theorem cmpL_s2 {x y : List Int} {i : Nat} (hx : i < x.length) (hy : i < y.length) : cmpL (x.drop i) (y.drop i) = if cmpZ (x.getD i 0) (y.getD i 0) = 0 then cmpL (x.drop (i + 1)) (y.drop (i + 1)) else cmpZ (x.getD i 0) (y.getD i 0) := by
 rw [List.drop_eq_getElem_cons hx, List.drop_eq_getElem_cons hy, List.getD_eq_getElem?_getD, List.getD_eq_getElem?_getD, List.getElem?_eq_getElem hx, List.getElem?_eq_getElem hy]; rfl
theorem cmpL_e1 {x y : List Int} {i : Nat} (hx : x.length ≤ i) (hy : i < y.length) : cmpL (x.drop i) (y.drop i) = -1 := by
 rw [List.drop_of_length_le hx, List.drop_eq_getElem_cons hy]; rfl
theorem cmpL_e2 {x y : List Int} {i : Nat} (hx : x.length ≤ i) (hy : y.length ≤ i) : cmpL (x.drop i) (y.drop i) = 0 := by
 rw [List.drop_of_length_le hx, List.drop_of_length_le hy]; rfl
theorem rot_cut {α : Type} (w : List α) {i : Nat} (hi : i ≤ w.length) : ((w.drop i).take (w.length - i)) ++ ((w.drop 0).take (i - 0)) = rotL w i := by
 rw [List.take_of_length_le (by rw [List.length_drop]; exact Nat.le_refl _), List.drop_zero, Nat.sub_zero]; rfl
def orbL (m : MapM) (x : Int) (n : Nat) : List Int := (List.range n).map fun i => iterZ m i x
def leastI (l : List Int) : Nat → Nat
 | 0 => 0
 | i + 1 => if l.getD i default < l.getD (leastI l i) default then i else leastI l i
def rotM (l : List Int) : List Int := rotL l (leastI l l.length)
def cyc (m : MapM) (x : Int) (n : Nat) : List Int := rotM (orbL m x n)
theorem orbL_len (m : MapM) (x : Int) (n : Nat) : (orbL m x n).length = n := by unfold orbL; simp
theorem orbL_s (m : MapM) (x : Int) (n : Nat) : orbL m x n ++ [iterZ m n x] = orbL m x (n + 1) := by unfold orbL; rw [List.range_succ, List.map_append]; rfl
theorem orbL_get {m : MapM} {x : Int} {n i : Nat} (h : i < n) : (orbL m x n).getD i default = iterZ m i x := by unfold orbL; simp [List.getD_eq_getElem?_getD, h]
theorem least_lt {l : List Int} (h : 0 < l.length) : ∀ i, i ≤ l.length → leastI l i < l.length
 | 0, _ => h
 | i + 1, hi => by
  rw [leastI]
  split
  ·omega
  ·exact least_lt h i (by omega)
theorem least_y {l : List Int} {i : Nat} (h : l.getD i default < l.getD (leastI l i) default) : leastI l (i + 1) = i := if_pos h
theorem least_n {l : List Int} {i : Nat} (h : ¬ l.getD i default < l.getD (leastI l i) default) : leastI l (i + 1) = leastI l i := if_neg h
theorem least_le {l : List Int} : ∀ i j, j < i → l.getD (leastI l i) default ≤ l.getD j default
 | 0, j, h => by omega
 | i + 1, j, h => by
  have ih := fun hj => least_le (l := l) i j hj
  rw [leastI]
  split
  ·rename_i e
   rcases Nat.lt_or_ge j i with g | g
   ·have := ih g; omega
   ·rw [show j = i by omega]; exact Int.le_refl _
  ·rename_i e
   rcases Nat.lt_or_ge j i with g | g
   ·exact ih g
   ·rw [show j = i by omega]; omega
theorem iter_len {m : MapM} (hm : OkM m) (z : Int) : ∀ k, (digs (iterZ m k z).natAbs).length ≤ (digs z.natAbs).length + 4 * k
 | 0 => by show (digs z.natAbs).length ≤ _; omega
 | k + 1 => by
  have h1 := iter_len hm z k
  have h2 := step_len' hm (iterZ m k z)
  show (digs (stepZ m (iterZ m k z)).natAbs).length ≤ _
  omega
end Go.Mth

namespace Go.Ab
open Go.RowKit
def reachB : Nat → Array Oper → Nat → Nat → Bool
 | 0, _, _, _ => false
 | f + 1, ops, i, j => match ops[j]? with
  | some o => o.after.any fun e => Region.binds .any e && (Nat.beq e.on i || reachB f ops i e.on)
  | none => false
def pairsT (ops : Array Oper) : List It → Bool
 | [] => true
 | p :: r => r.all (fun q => lateB p q && (reachB 6 ops p.i q.i || indepB ops p q)) && pairsT ops r
def drawT (ops : Array Oper) (es : List Eff) : Bool := edgesB 0 ops.toList && pairsT ops (items 0 ops.toList es)
section
variable {C : Ctx} {n : Nat} {w0 : World} {ops : Array Oper} {Q : Exit → Act → World → Prop}

end
section
variable {C : Ctx} {ops : Array Oper} {s : List (Nat × AV)} {m : List (Nat × AO)} {K : List Eff → St → Prop} {os : List Oper} {d : Nat} {t : TypeId} {p : String} {af : Array Edge} {g : Option (Nat × Bool)}
end
end Go.Ab

namespace Go.Ab
open Go.RowKit
def MarksOk (H : Heap) (B : Nat) : List Deferred → Prop
 | [] => True
 | d :: ds => (∃ D, d = mark D ∧ B ≤ D ∧ H D = some (.deferred (some [])) ∧ ∀ D', mark D' ∈ ds → D' ≠ D) ∧ MarksOk H B ds
theorem MarksOk.le {H H' : Heap} {B : Nat} (hx : H.le H') : ∀ {mk : List Deferred}, MarksOk H B mk → MarksOk H' B mk
 | [], _ => trivial
 | d :: ds, ⟨⟨D, h1, h2, h3, h4⟩, h5⟩ => ⟨⟨D, h1, h2, hx _ _ h3, h4⟩, h5.le hx⟩
theorem MarksOk.known {H : Heap} {B : Nat} : ∀ {mk : List Deferred}, MarksOk H B mk → ∀ {D : Nat}, mark D ∈ mk → H D = some (.deferred (some []))
 | [], _, _, h => by cases h
 | d :: ds, ⟨⟨D, h1, h2, h3, h4⟩, h5⟩, D', h => by
  rcases List.mem_cons.1 h with e | e
  ·rw [h1] at e
   have : D' = D := by simpa [mark] using e
   rw [this]; exact h3
  ·exact h5.known e
def PostM (C : Ctx) (n : Nat) (w0 : World) (H : Heap) (Q : Exit → St → Prop) (e : Exit) (a : Act) (w : World) : Prop := ∃ mk σ' H' L', MarksOk H' w0.heap.size mk ∧ Ext w0.heap.size H H' ∧ Rep { C with marks := mk } n w0 H' L' (St.sem σ') a w ∧ Q e σ'
def awpM (C : Ctx) (n : Nat) (c : Code) (Q : Exit → St → Prop) (σ : St) : Prop :=
 ∀ mk w0 H L a w, MarksOk H w0.heap.size mk → Rep { C with marks := mk } n w0 H L σ.sem a w → c.wpIn (fen none) 0 C.P (PostM C n w0 H Q) a w
def WkM (C : Ctx) (n : Nat) (σ σ' : St) : Prop := ∀ mk, Wk { C with marks := mk } n σ σ'
section
variable {C : Ctx} {n : Nat} {Q : Exit → St → Prop} {σ : St}
theorem PostM.ext {w0 : World} {H H' : Heap} {e : Exit} {a : Act} {w : World} (hx : Ext w0.heap.size H H') (h : PostM C n w0 H' Q e a w) : PostM C n w0 H Q e a w := by
 obtain ⟨mk, σ', H2, L', h1, h2, h3⟩ := h
 exact ⟨mk, σ', H2, L', h1, hx.trans h2, h3⟩
theorem awpM_lift {c : Code} (h : ∀ mk, awp { C with marks := mk } n c Q σ) : awpM C n c Q σ := fun mk w0 H L a w hm hr => wpIn_mono (h mk w0 H L a w hr none) fun e a w ⟨σ', H', L', hx, hr', hq⟩ => ⟨mk, σ', H', L', hm.le hx.1, hx, hr', hq⟩
theorem awpM_wk {c : Code} {σ' : St} (hw : WkM C n σ σ') (h : awpM C n c Q σ') : awpM C n c Q σ := fun mk w0 H L a w hm hr => by
 obtain ⟨H', L', hx, hr'⟩ := hw mk w0 H L a w hr
 exact wpIn_mono (h mk w0 H' L' a w (hm.le hx.1) hr') fun e a w hp => hp.ext hx
theorem awpM_seq {x y : Code} (h : ∀ K : St → Prop, (∀ σ, awpM C n y Q σ → K σ) → awpM C n x (thenK K Q) σ) : awpM C n (.seq x y) Q σ := fun mk w0 H L a w hm hr => by
 refine wpIn_seq (wpIn_mono (h (fun σ => awpM C n y Q σ) (fun _ h => h) mk w0 H L a w hm hr) fun e a w hp => ?_)
 obtain ⟨mk', σ', H', L', hm', hx, hr', hq⟩ := hp
 cases e with
 | normal => exact wpIn_mono (hq mk' w0 H' L' a w hm' hr') fun e a w hp => hp.ext hx
 | _ => exact ⟨mk', σ', H', L', hm', hx, hr', hq⟩
theorem awpM_block {id : Nat} {c : Code} (h : awpM C n c (inBlk id Q) σ) : awpM C n (.block id c) Q σ := fun mk w0 H L a w hm hr => by
 refine wpIn_block (wpIn_mono (h mk w0 H L a w hm hr) fun e a w hp => ?_)
 obtain ⟨mk', σ', H', L', hm', hx, hr', hq⟩ := hp
 cases e with
 | exit i =>
  simp only [Exit.inBlock]
  simp only [inBlk] at hq
  by_cases hi : i = id
  ·subst hi
   simp at hq
   simp only [if_true]
   exact ⟨mk', σ', H', L', hm', hx, hr', hq⟩
  ·simp only [beq_ne hi, cond_false] at hq
   simp only [hi, if_false]
   exact ⟨mk', σ', H', L', hm', hx, hr', hq⟩
 | _ => exact ⟨mk', σ', H', L', hm', hx, hr', hq⟩
def LoopJ (C : Ctx) (n : Nat) (w0 : World) (H : Heap) (I : Nat → St → Prop) (k : Nat) (a : Act) (w : World) : Prop := ∃ σ' mk' H' L', I k σ' ∧ MarksOk H' w0.heap.size mk' ∧ Ext w0.heap.size H H' ∧ Rep { C with marks := mk' } n w0 H' L' (St.sem σ') a w
theorem awpM_loopR {c : Code} (I : Nat → St → Prop) (h0 : ∃ k σ', I k σ' ∧ WkM C n σ σ') (round : ∀ k σ', I k σ' → awpM C n c (thenK (fun σ2 => ∃ k' σ3, k' < k ∧ I k' σ3 ∧ WkM C n σ2 σ3) Q) σ') : awpM C n (.loop c) Q σ := fun mk w0 H L a w hm hr => by
 obtain ⟨k0, σ0, hi0, hw0⟩ := h0
 obtain ⟨H1, L1, hx1, hr1⟩ := hw0 mk w0 H L a w hr
 have hJ : LoopJ C n w0 H I k0 a w := ⟨σ0, mk, H1, L1, hi0, hm.le hx1.1, hx1, hr1⟩
 refine wpIn_loop (fun a w => ∃ k, LoopJ C n w0 H I k a w) (fun a w => leastOf (fun k => LoopJ C n w0 H I k a w)) ⟨k0, hJ⟩ ?_
 intro a w hI
 obtain ⟨σ', mk', H', L', hi, hm', hx, hr'⟩ := (leastOf_spec hI).1
 refine wpIn_mono (round _ σ' hi mk' w0 H' L' a w hm' hr') ?_
 intro e a' w' hq
 obtain ⟨mk2, σ2, H2, L2, hm2, hx2, hr2, hq⟩ := hq
 cases e with
 | normal =>
  obtain ⟨k', σ3, hlt, hi', hw'⟩ := hq
  obtain ⟨H3, L3, hx3, hr3⟩ := hw' mk2 w0 H2 L2 a' w' hr2
  have hJ' : LoopJ C n w0 H I k' a' w' := ⟨σ3, mk2, H3, L3, hi', hm2.le hx3.1, (hx.trans hx2).trans hx3, hr3⟩
  exact show (∃ k, LoopJ C n w0 H I k a' w') ∧ leastOf (fun k => LoopJ C n w0 H I k a' w') < leastOf (fun k => LoopJ C n w0 H I k a w) from ⟨⟨k', hJ'⟩, Nat.lt_of_le_of_lt ((leastOf_spec ⟨k', hJ'⟩).2 k' hJ') hlt⟩
 | _ => exact ⟨mk2, σ2, H2, L2, hm2, hx.trans hx2, hr2, hq⟩
end
theorem yldAt_of_roundR {C : Ctx} (hmk : C.marks = []) {nI n : Nat} {l D D' : Nat} {asx : List AV} {sI so : List (Nat × AV)} {m : List (Nat × AO)} {fn : FuncId} {tmps : Array Value} {ps : Array Tmp} {assign body : Code} {KN : List (Nat × AO) → Prop} {KX : Code → List (Nat × AO) → Prop}
  (hn : tmps.size = n) (hps : ∀ p ∈ ps.toList, p < n) (hl : asx.length = ps.toList.length) (hcl : hasL 9005 asx = false) (hnd : nodB (sI.map (·.1)) = true) (h3 : lookO m 9003 = some (pinA so tmps)) (h4 : lookO m 9004 = some (pinL l D')) (hfr : St.freshB ⟨sI, (9001, .blk (.loop (lrec fn tmps ps assign body D .ready none))) :: m⟩ 9005 = true)
  (hbody : ∀ us : List Value, awpRound C n assign body (.loop (lrec fn tmps ps assign body D .ready none)) (.loop (lrec fn tmps ps assign body D .busy none)) (pinL l D') (roundQ C n (.loop (lrec fn tmps ps assign body D .busy none)) (.pin (valsOf sI) us) l D' KN KX)
   ⟨parS ps.toList asx so, (9005, .pin (valsOf sI) us) :: (9001, .blk (.loop (lrec fn tmps ps assign body D .ready none))) :: m⟩) :
  YldAt C nI l asx ⟨sI, (9001, .blk (.loop (lrec fn tmps ps assign body D .ready none))) :: m⟩ fun b σ' =>
   (b = true ∧ ∃ m', σ' = ⟨sI, (9001, .blk (.loop (lrec fn tmps ps assign body D .ready none))) :: m'⟩ ∧ KN m') ∨ (b = false ∧ ∃ c m', σ' = ⟨sI, (9001, .blk (.loop (lrec fn tmps ps assign body D .done (some c)))) :: m'⟩ ∧ KX c m') := by
 intro w0 H L a w vals hr hv
 have hlv := hv.length
 have hfs := fresh_sem hfr
 have hall : sI.all (fun p => !p.2.has 9005) = true := by
  simp only [St.freshB, Bool.and_eq_true] at hfr
  exact hfr.1
 obtain ⟨hl1, hh, hB, hH⟩ := pinL_loc hr (l := l) (D := D') (by rw [mu_sem]; exact h4) (o := .loop (lrec fn tmps ps assign body D .ready none)) (by rw [mu_sem]; exact lookO_hd _ _ _)
 refine ⟨fn, _, assign, body, run_yield hh (by show vals.toArray.size = ps.size; simp; rw [hlv, hl]; simp), ?_⟩
 have hpin := hr.pinned (id := 9005) hfs (cs := valsOf sI) (us := sI.map fun p => a.tmps.getD p.1 undef) (slots_rep (t := fun i => a.tmps.getD i undef) fun p hp => by
  have := hr.slot p.1
  rw [show (St.sem ⟨sI, _⟩).ρ p.1 = look sI p.1 from rfl, nod_look hnd p hp] at this
  exact this) (valsOf_has hall)
 have hμ3 : (St.sem ⟨sI, (9001, .blk (.loop (lrec fn tmps ps assign body D .ready none))) :: m⟩).μ 9003 = some (pinA so tmps) := by
  rw [mu_sem]
  exact h3
 have hso := (hpin.objs 9003 (pinA so tmps) (by simpa using hμ3)).2
 have hpar := par_rep ps.toList asx vals so tmps (RepL.setL (y := some (.tuple #[])) hcl hv) (fun p hp => by rw [hn]; exact hps p hp) hl (slots_of (t := fun i => tmps.getD i undef) hso)
 have hzip : (Array.foldl (fun (t : Array Value) (p : Nat × Value) => t.setIfInBounds p.1 p.2) tmps (ps.zip vals.toArray)) = (ps.toList.zip vals).foldl (fun (t : Array Value) (p : Nat × Value) => t.setIfInBounds p.1 p.2) tmps := by
  rw [← Array.foldl_toList, Array.toList_zip]
 have hrd := hpin.frameS (n' := n) (a' := { tmps := (ps.toList.zip vals).foldl (fun (t : Array Value) (p : Nat × Value) => t.setIfInBounds p.1 p.2) tmps, defers := [] }) [] (by rw [foldl_size]; exact hn) rfl hpar
  (m := (9005, .pin (valsOf sI) (sI.map fun p => a.tmps.getD p.1 undef)) :: (9001, .blk (.loop (lrec fn tmps ps assign body D .ready none))) :: m) (fun i o hi => by
   show (if i = 9005 then _ else (St.sem ⟨sI, _⟩).μ i) = _
   rw [mu_sem]
   rw [lookO] at hi
   by_cases h5 : i = 9005
   ·subst h5; simpa using hi
   ·rw [beq_ne (fun e => h5 e.symm)] at hi; simpa [h5] using hi)
 rw [marks_nil hmk] at hrd
 refine roundIn_of_wpIn trivial ?_
 show assign.wpIn (fen (some l)) 0 C.P _ { tmps := (Array.foldl (fun (t : Array Value) (p : Nat × Value) => t.setIfInBounds p.1 p.2) tmps (ps.zip vals.toArray)), defers := [] } w
 rw [hzip]
 refine wpIn_mono (hbody _ w0 H _ _ w hrd (some l)) ?_
 rintro e a1 w1 ⟨σ1, H1, L1, hx1, hr1, hq⟩
 cases e with
 | normal =>
  obtain ⟨s1, m1, hwk, h41, hb⟩ := hq
  obtain ⟨H2, L2, hx2, hr2⟩ := hwk w0 H1 L1 a1 w1 hr1
  have h42 : lookO ((9001, AO.blk (.loop (lrec fn tmps ps assign body D .ready none))) :: m1) 9004 = some (pinL l D') := by exact h41
  obtain ⟨hl2, hh2, hB2, hH2⟩ := pinL_loc hr2 (by rw [mu_sem]; exact h42) (o := .loop (lrec fn tmps ps assign body D .ready none)) (by rw [mu_sem]; exact lookO_hd _ _ _)
  refine ⟨_, run_beginRound hh2 rfl, ?_⟩
  have hr3 := hr2.putRec (lookO_hd _ _ _) h42 (.loop (lrec fn tmps ps assign body D .busy none)) ((9001, .blk (.loop (lrec fn tmps ps assign body D .busy none))) :: m1) (fun i => by
   by_cases h : i = 9001
   ·subst h; simp [lookO]
   ·simp [lookO, beq_ne (fun e => h e.symm), h])
  refine wpIn_mono (hb w0 H2 L2 a1 _ hr3 (some l)) ?_
  rintro e a2 w2 ⟨σ2, H3, L3, hx3, hr4, hq⟩
  have fin : ∀ (jump : Option Code) (m' : List (Nat × AO)), Wk C n σ2 ⟨[], (9005, .pin (valsOf sI) (sI.map fun p => a.tmps.getD p.1 undef)) :: (9001, .blk (.loop (lrec fn tmps ps assign body D .busy none))) :: m'⟩ → lookO m' 9004 = some (pinL l D') → lookO m' 9005 = none →
    ∃ w4 H4 L4, (Instr.endRound l jump).run C.P w2 = .ok (.bool jump.isNone) w4 ∧ Ext w0.heap.size H H4 ∧ Rep C nI w0 H4 L4 (St.sem ⟨sI, (9001, .blk (.loop (lrec fn tmps ps assign body D (if jump.isNone then .ready else .done) jump))) :: m'⟩) a w4 := by
   intro jump m' hwk2 h43 h45
   obtain ⟨H4, L4, hx4, hr5⟩ := hwk2 w0 H3 L3 a2 w2 hr4
   have h44 : lookO ((9005, AO.pin (valsOf sI) (sI.map fun p => a.tmps.getD p.1 undef)) :: (9001, .blk (.loop (lrec fn tmps ps assign body D .busy none))) :: m') 9004 = some (pinL l D') := by exact h43
   obtain ⟨hl5, hh5, hB5, hH5⟩ := pinL_loc hr5 (by rw [mu_sem]; exact h44) (o := .loop (lrec fn tmps ps assign body D .busy none)) (by rw [mu_sem]; rfl)
   have hback := (hr5.objs 9005 (.pin (valsOf sI) (sI.map fun p => a.tmps.getD p.1 undef)) (by rw [mu_sem]; exact lookO_hd _ _ _)).2
   have hr6 := hr5.frameS (n' := nI) (a' := a) C.marks hr.size hr.defers (slots_of (t := fun i => a.tmps.getD i undef) hback) (m := (9001, .blk (.loop (lrec fn tmps ps assign body D .busy none))) :: m') (fun i o hi => by
    rw [mu_sem]
    by_cases h5 : i = 9005
    ·subst h5
     have hdup : lookO m' 9005 = some o := hi
     rw [h45] at hdup
     cases hdup
    ·rw [lookO, beq_ne (fun e => h5 e.symm)]; exact hi)
   have hr7 := Rep.putRec (C := C) hr6 (lookO_hd _ _ _) (l := l) (D := D') (by exact h43) (.loop (lrec fn tmps ps assign body D (if jump.isNone then .ready else .done) jump)) ((9001, .blk (.loop (lrec fn tmps ps assign body D (if jump.isNone then .ready else .done) jump))) :: m') (fun i => by
    by_cases h : i = 9001
    ·subst h; simp [lookO]
    ·simp [lookO, beq_ne (fun e => h e.symm), h])
   exact ⟨_, H4, L4, run_endRound jump hh5, (((hx1.trans hx2).trans hx3).trans hx4), hr7⟩
  cases e with
  | normal =>
   obtain ⟨m', hwk2, h43, h45, hK⟩ := hq
   obtain ⟨w4, H4, L4, hrun, hx4, hr7⟩ := fin none m' hwk2 h43 h45
   exact ⟨_, w4, hrun, true, _, H4, L4, rfl, hx4, hr7, .inl ⟨rfl, m', rfl, hK⟩⟩
  | ret =>
   obtain ⟨m', hwk2, h43, h45, hK⟩ := hq
   obtain ⟨w4, H4, L4, hrun, hx4, hr7⟩ := fin (some .ret) m' hwk2 h43 h45
   exact ⟨_, w4, hrun, false, _, H4, L4, rfl, hx4, hr7, .inr ⟨rfl, .ret, m', rfl, hK⟩⟩
  | exit id =>
   obtain ⟨m', hwk2, h43, h45, hK⟩ := hq
   obtain ⟨w4, H4, L4, hrun, hx4, hr7⟩ := fin (some (.exit id)) m' hwk2 h43 h45
   exact ⟨_, w4, hrun, false, _, H4, L4, rfl, hx4, hr7, .inr ⟨rfl, .exit id, m', rfl, hK⟩⟩
  | goto t => exact hq.elim
  | panic c => exact hq.elim
  | outgrown => exact hq.elim
 | exit id => exact hq.elim
 | goto t => exact hq.elim
 | ret => exact hq.elim
 | panic c => exact hq.elim
 | outgrown => exact hq.elim


theorem awpRound_eq {C : Ctx} {n : Nat} {a a' b b' : Code} {o o' : Obj} {pl : AO} {Q : Exit → St → Prop} {σ : St} (ha : a' = a) (hb : b' = b) (h : awpRound C n a b o o' pl Q σ) : awpRound C n a' b' o o' pl Q σ := by subst ha; subst hb; exact h
theorem yldAt_of_roundG {C : Ctx} (hmk : C.marks = []) {ps0 : Array Tmp} {assign0 body0 : Code} {ps : Array Tmp} {assign body : Code} (e1 : ps = ps0) (e2 : assign = assign0) (e3 : body = body0) {nI n : Nat} {l D D' : Nat} {asx : List AV} {sI so : List (Nat × AV)} {m : List (Nat × AO)} {fn : FuncId} {tmps : Array Value} {KN : List (Nat × AO) → Prop} {KX : Code → List (Nat × AO) → Prop}
  (hn : tmps.size = n) (hps : ∀ p ∈ ps0.toList, p < n) (hl : asx.length = ps0.toList.length) (hcl : hasL 9005 asx = false) (hnd : nodB (sI.map (·.1)) = true) (h3 : lookO m 9003 = some (pinA so tmps)) (h4 : lookO m 9004 = some (pinL l D')) (hfr : St.freshB ⟨sI, (9001, .blk (.loop (lrec fn tmps ps assign body D .ready none))) :: m⟩ 9005 = true)
  (hbody : ∀ us : List Value, awpRound C n assign0 body0 (.loop (lrec fn tmps ps assign body D .ready none)) (.loop (lrec fn tmps ps assign body D .busy none)) (pinL l D') (roundQ C n (.loop (lrec fn tmps ps assign body D .busy none)) (.pin (valsOf sI) us) l D' KN KX)
   ⟨parS ps0.toList asx so, (9005, .pin (valsOf sI) us) :: (9001, .blk (.loop (lrec fn tmps ps assign body D .ready none))) :: m⟩) :
  YldAt C nI l asx ⟨sI, (9001, .blk (.loop (lrec fn tmps ps assign body D .ready none))) :: m⟩ fun b σ' =>
   (b = true ∧ ∃ m', σ' = ⟨sI, (9001, .blk (.loop (lrec fn tmps ps assign body D .ready none))) :: m'⟩ ∧ KN m') ∨ (b = false ∧ ∃ c m', σ' = ⟨sI, (9001, .blk (.loop (lrec fn tmps ps assign body D .done (some c)))) :: m'⟩ ∧ KX c m') :=
 yldAt_of_roundR hmk hn (by rw [e1]; exact hps) (by rw [e1]; exact hl) hcl hnd h3 h4 hfr fun us => by
  rw [congrArg Array.toList e1]
  exact awpRound_eq e2 e3 (hbody us)
theorem awp_regionYK {C : Ctx} {n : Nat} {Q : Exit → St → Prop} {σ : St} {id : Nat} {ops : Array Oper} (k d : Nat) (y : Operand) (args : Array Operand) (tys : Array TypeId) (t : TypeId) (p : String) (af : Array Edge) (l : Nat) (asx : List AV)
  (hk : ops.toList[k]? = some ⟨some d, .call { callee := .value y, args := args, argTypes := tys }, t, p, af, none⟩) (hd : dstsB n ops.toList = true)
  (h : aops C ops σ (ops.toList.take k) fun _ σ' => ∃ σ1, Wk C n σ' σ1 ∧ σ1.ev y = .lit (.func (.yield l) #[] #[]) ∧ args.toList.map σ1.sem.ev = asx ∧ YldAt C n l asx σ1 fun b σ2 => aops C ops ⟨(d, .lit (.bool b)) :: σ2.slots, σ2.objs⟩ (ops.toList.drop (k + 1)) fun _ σ3 => Q .normal σ3) :
  awp C n (.region id ops false) Q σ := fun w0 H L a w hr r => by
 obtain ⟨es, σ', ht, σ1, hwk, hy, has, hY⟩ := h
 obtain ⟨hl, hx⟩ := List.getElem?_eq_some_iff.1 hk
 have hdst := dsts_spec hd
 refine wpIn_region ?_
 rw [List.range_eq_range']
 have htl : (ops.toList.take k).length = k := by rw [List.length_take]; omega
 have hsz : ops.size = (ops.toList.take k).length + ((ops.toList.drop (k + 1)).length + 1) := by rw [htl, List.length_drop]; have : ops.toList.length = ops.size := Array.length_toList; omega
 rw [hsz, ← List.range'_append_1, List.range'_succ]
 refine lex_prefix (C := C) (n := n) (w0 := w0) r _ (ops.toList.take k) 0 σ.sem σ'.sem es H L a w (by rw [List.drop_zero, htl]) ht hr (fun o ho => hdst o (List.mem_of_mem_take ho)) fun a' w' Hq Lq hxq hrq => ?_
 obtain ⟨H', L', hxw, hr'⟩ := hwk w0 Hq Lq a' w' hrq
 have hx := hxq.trans hxw
 simp only [Nat.zero_add]
 rw [wpOpsIn_cons, htl]
 have hi : ops[k]? = some ⟨some d, .call { callee := .value y, args := args, argTypes := tys }, t, p, af, none⟩ := by
  rw [← Array.getElem?_toList]; exact hk
 unfold wpOpIn
 simp only [hi]
 rw [if_pos (by simp [Region.wanted])]
 have hyv := hr'.ev y
 rw [ev_sem, hy] at hyv
 simp only [RepV] at hyv
 have hargs : ∀ (xs : List Operand), RepL H' (xs.map σ1.sem.ev) L' (xs.map a'.eval) := by
  intro xs
  induction xs with
  | nil => simp only [List.map_nil, RepL]
  | cons x xs ih => simp only [List.map_cons, RepL]; exact ⟨_, _, rfl, hr'.ev x, ih⟩
 have hal := hargs args.toList
 rw [has] at hal
 obtain ⟨fn, tmps, assign, body, hrun, hround⟩ := hY w0 H' L' a' w' _ hr' hal
 have e1 : (List.map a'.eval args.toList).toArray = args.map a'.eval := by apply Array.ext'; rw [Array.toList_map]
 rw [e1] at hrun
 have hex : (execOp a'.eval ⟨some d, .call { callee := .value y, args := args, argTypes := tys }, t, p, af, none⟩).run C.P w' = .ok (.round l fn tmps assign body) w' := by
  unfold execOp
  simp only [resolve, hyv, Deferred.ofValue, invoke, Sem.run_bind, Sem.run_pure, Result.andThen_ok, Array.empty_append, Array.append_empty, hrun]
 refine ⟨fun _ _ => trivial, ?_⟩
 rw [semAt_of hex (fun d hd => by cases hd)]
 refine ⟨fen_depth, RoundIn.mono (F := fen r) hround ?_⟩
 rintro e w2 ⟨b, σ2, H2, L2, rfl, hx2, hr2, hq⟩
 obtain ⟨es2, σ3, ht2, hQ⟩ := hq
 have hdn : d < n := hdst ⟨some d, .call { callee := .value y, args := args, argTypes := tys }, t, p, af, none⟩ (List.mem_of_getElem? hk) d rfl
 have hv := hr2.val (dst := some d) (fun d' hd' => by cases hd'; exact hdn) (x := .lit (.bool b)) (v := .bool b) (by simp [RepV]) [] []
 rw [← sem_app] at hv
 exact lex_sound r (ops.toList.drop (k + 1)) (k + 1) _ _ es2 H2 L2 _ w2 rfl ht2 hv (fun o ho => hdst o (List.mem_of_mem_drop ho)) fun a3 w3 H3 L3 hx3 hr3 => ⟨σ3, H3, L3, (hx.trans hx2).trans hx3, hr3, hQ⟩
theorem Rep.frzBlk {C : Ctx} {n : Nat} {w0 : World} {H : Heap} {L : Loc} {S : SS} {a : Act} {w : World} (hr : Rep C n w0 H L S a w) {id : Nat} {o : Obj} (h : S.μ id = some (.blk o)) {g : Nat} (hl : L id = some (.pointer (some ⟨g, 0, none⟩))) :
  ∃ H', Ext w0.heap.size H H' ∧ H' g = some o ∧ w0.heap.size ≤ g ∧ Rep C n w0 H' L ⟨S.ρ, fun i => if i = id then none else S.μ i⟩ a w := by
 obtain ⟨g', a1, a2, a3, a4⟩ := hr.objs id _ h
 rw [hl] at a1
 cases a1
 have hle : H.le (fun b => if b = g then some o else H b) := fun b ob hb => by
  have : b ≠ g := fun e => by subst e; rw [a4] at hb; cases hb
  simp [this, hb]
 have hheap : ∀ b ob, (if b = g then some o else H b) = some ob → w.heap[b]? = some ob := fun b ob hb => by
  by_cases hbg : b = g
  ·subst hbg; simp at hb; subst hb; exact a2
  ·simp [hbg] at hb; exact hr.heap b ob hb
 refine ⟨fun b => if b = g then some o else H b, ⟨hle, fun b hb => ?_⟩, by simp, a3, hr.hide h hl hle hheap fun g' hg' => ?_⟩
 ·have : b ≠ g := fun e => by omega
  simp [this]
 ·have : g' ≠ g := fun e => hg' (by rw [e]; rfl)
  simp [this]
theorem awpM_range {C : Ctx} (hmk : C.marks = []) {n : Nat} {Q : Exit → St → Prop} {σ : St} {g : Operand} {ps : Array Tmp} {assign body : Code} {gf : FuncId} {caps : List AV} {fnI : Func} {cI : Code} {so : List (Nat × AV)}
  (hs : subS σ so) (hf : C.P.funcs[gf]? = some fnI) (hb : fnI.body = some cI) (hcall : callable C.P gf = true) (hnI : caps.length + 1 ≤ fnI.ntmps) (hres : fnI.results = #[]) (hg : σ.ev g = .clo gf caps) (hnd : nodB (so.map (·.1)) = true)
  (hfr : (σ.freshB 9001 && σ.freshB 9002 && σ.freshB 9003 && σ.freshB 9004) = true) (hso : so.all (fun p => !p.2.has 9003 && !p.2.has 9004) = true)
  (X : (fn : FuncId) → (tmps : Array Value) → (D l : Nat) → Option Code → List (Nat × AO) → Prop)
  (hit : ∀ (fn : FuncId) (tmps : Array Value) (D l : Nat), tmps.size = n → awp C fnI.ntmps cI (fun e σ2 => (e = .normal ∨ e = .ret) ∧ ∃ st pe m', st ≠ LoopState.busy ∧ X fn tmps D l pe m' ∧ lookO m' 9001 = none ∧ lookO m' 9003 = none ∧ lookO m' 9002 = none ∧ lookO m' 9004 = none ∧
    Wk C fnI.ntmps σ2 ⟨[], (9001, .blk (.loop (lrec fn tmps ps assign body D st pe))) :: (9002, .blk (.deferred (some []))) :: (9003, pinA so tmps) :: (9004, pinL l D) :: m'⟩)
   ⟨ent 0 (.lit (.func (.yield l) #[] #[]) :: caps), (9004, pinL l D) :: (9003, pinA so tmps) :: (9001, .blk (.loop (lrec fn tmps ps assign body D .ready none))) :: (9002, .blk (.deferred (some []))) :: σ.objs⟩)
  (hQ : ∀ (fn : FuncId) (tmps : Array Value) (D l : Nat) pe m', X fn tmps D l pe m' → jumpQ Q ⟨so, m'⟩ pe) : awpM C n (.rangeFunc g ps assign body) Q σ := by
 intro mk w0 H L a w hm hr
 have hdef : a.defers = mk := hr.defers
 simp only [Bool.and_eq_true] at hfr
 obtain ⟨⟨⟨f1, f2⟩, f3⟩, f4⟩ := hfr
 obtain ⟨s, m⟩ := σ
 have hgv := hr.ev g
 rw [ev_sem, hg] at hgv
 simp only [RepV] at hgv
 obtain ⟨vs, hgv, hcaps⟩ := hgv
 have hc1 : hasL 9001 caps = false := clo_has g (fresh_sem f1) hg
 have hc2 : hasL 9002 caps = false := clo_has g (fresh_sem f2) hg
 have hc3 : hasL 9003 caps = false := clo_has g (fresh_sem f3) hg
 have hc4 : hasL 9004 caps = false := clo_has g (fresh_sem f4) hg
 have hcaps4 := RepL.setL (y := some (.tuple #[])) hc4 (RepL.setL (y := some (.tuple #[])) hc3 (RepL.setL (y := some (.pointer (some ⟨w.heap.size + 1, 0, none⟩))) hc1 (RepL.setL (y := some (.pointer (some ⟨w.heap.size, 0, none⟩))) hc2 hcaps)))
 refine wpIn_rangeFunc ?_
 intro fn hfn
 show ∃ l mark w₁ d w₁' f args w₂, (Instr.enterLoop fn a.tmps ps assign body none).run C.P w = _ ∧ _
 -- the two blocks, and the ghosts
 have r1 := hr.blkS f2 (.deferred (some []))
 have r2 := r1.blkS (freshB_cons f1 rfl rfl) (.loop (lrec fn a.tmps ps assign body w.heap.size .ready none))
 rw [World.size_alloc] at r2
 have hslot2 : ∀ p ∈ so, RepV H p.2 ((L.set 9002 (some (.pointer (some ⟨w.heap.size, 0, none⟩)))).set 9001 (some (.pointer (some ⟨w.heap.size + 1, 0, none⟩)))) (a.tmps.getD p.1 undef) := fun p hp => by
  have h1 := r2.slot p.1
  rw [show (St.sem ⟨s, _⟩).ρ p.1 = look s p.1 from rfl] at h1
  rw [show look s p.1 = p.2 from subS_mem hs hp] at h1
  exact h1
 have hno3 : so.all (fun p => !p.2.has 9003) = true := List.all_eq_true.2 fun p hp => by
  have := List.all_eq_true.1 hso p hp
  simp only [Bool.and_eq_true] at this
  exact this.1
 have hno4 : so.all (fun p => !p.2.has 9004) = true := List.all_eq_true.2 fun p hp => by
  have := List.all_eq_true.1 hso p hp
  simp only [Bool.and_eq_true] at this
  exact this.2
 have r3 := r2.pinS (id := 9003) (freshB_cons (freshB_cons f3 rfl rfl) rfl rfl) (slots_rep (t := fun i => a.tmps.getD i undef) hslot2) (valsOf_has hno3)
 have r4 := r3.pinS (id := 9004) (cs := [.ref 9001 0, .ref 9002 0]) (us := [.pointer (some ⟨w.heap.size + 1, 0, none⟩), .pointer (some ⟨w.heap.size, 0, none⟩)])
  (freshB_cons (freshB_cons (freshB_cons f4 rfl rfl) rfl rfl) rfl (valsOf_has hno4)) (by simp [RepL, RepV, Loc.set, ownB]) rfl
 obtain ⟨W1, hW1⟩ : ∃ W1, W1 = (w.alloc (.deferred (some []))).alloc (.loop (lrec fn a.tmps ps assign body w.heap.size .ready none)) := ⟨_, rfl⟩
 rw [← hW1] at r4
 refine ⟨w.heap.size + 1, [mark w.heap.size], W1, { target := .fn (.func gf) vs.toArray, args := #[.func (.yield (w.heap.size + 1)) #[] #[]] }, W1, gf, #[.func (.yield (w.heap.size + 1)) #[] #[]] ++ vs.toArray, W1, ?_, ?_, ?_, ?_, fen_depth, ?_⟩
 ·rw [hW1]
  exact run_enterLoop_outer fn a.tmps ps assign body
 ·simp only [resolve, hgv]
  simp [go_sem]
 ·intro f' hf'
  trivial
 ·simp only [invoke]
  exact run_callFunc hcall _ _
 ·-- the iterator
  have hcl := RepL.cons (x := .lit (.func (.yield (w.heap.size + 1)) #[] #[])) (v := .func (.yield (w.heap.size + 1)) #[] #[]) (by simp [RepV]) hcaps4
  obtain ⟨e1, e2⟩ := entry_rep (C := C) (n := fnI.ntmps) (w0 := w) (by simpa using hnI) hcl
  have ea : (Value.func (.yield (w.heap.size + 1)) #[] #[] :: vs).toArray = #[.func (.yield (w.heap.size + 1)) #[] #[]] ++ vs.toArray := by simp
  rw [ea] at e1 e2
  refine callsIn_of_wp hf hb trivial ?_
  have r5 := r4.frameS (n' := fnI.ntmps) (a' := { tmps := #[.func (.yield (w.heap.size + 1)) #[] #[]] ++ vs.toArray ++ Array.replicate (fnI.ntmps - (#[Value.func (.yield (w.heap.size + 1)) #[] #[]] ++ vs.toArray).size) undef, defers := [] }) [] e1 rfl e2 (fun i o h => h)
  have r5 := (show Rep { C with marks := [] } _ _ _ _ _ _ _ from r5)
  rw [marks_nil hmk] at r5
  refine wpIn_mono (hit fn a.tmps w.heap.size (w.heap.size + 1) hr.size w0 H _ _ W1 r5 none) ?_
  rintro e a2 w2 ⟨σ2, H2, L2, hx2, hr2, he, st, pe, m', hst, hX, hn1, hn3, hn2, hn4, hwk⟩
  obtain ⟨H3, L3, hx3, hr3⟩ := hwk w0 H2 L2 a2 w2 hr2
  have hback := (hr3.objs 9003 (pinA so a.tmps) rfl).2
  obtain ⟨hl1, hh1, hB1, hH1⟩ := pinL_loc hr3 (l := w.heap.size + 1) (D := w.heap.size) rfl (o := .loop (lrec fn a.tmps ps assign body w.heap.size st pe)) rfl
  have r6 := Rep.putRec hr3 rfl (l := w.heap.size + 1) (D := w.heap.size) rfl (.loop (lrec fn a.tmps ps assign body w.heap.size .exhausted pe)) ((9001, .blk (.loop (lrec fn a.tmps ps assign body w.heap.size .exhausted pe))) :: (9002, .blk (.deferred (some []))) :: (9003, pinA so a.tmps) :: (9004, pinL (w.heap.size + 1) w.heap.size) :: m') (fun i => by
   by_cases h : i = 9001
   ·subst h; rfl
   ·simp [lookO, beq_ne (fun e => h e.symm), h])
  obtain ⟨_, hp4⟩ := r6.objs 9004 (pinL (w.heap.size + 1) w.heap.size) rfl
  simp only [RepL] at hp4
  obtain ⟨v1, q1, e41, _, v2, q2, e42, hv2, _⟩ := hp4
  subst e42
  cases e41
  simp only [RepV] at hv2
  obtain ⟨x9, g9, k91, k92, k93⟩ := hv2
  obtain ⟨g9', b91, b92, b93, b94⟩ := r6.objs 9002 (.blk (.deferred (some []))) rfl
  rw [k91] at b91
  cases b91
  simp [ownB] at k92 k93
  subst k92
  subst k93
  obtain ⟨H5, hx5, hD5, hB5, r65⟩ := r6.frzBlk (id := 9002) (o := .deferred (some [])) rfl k91
  have r7 := r65.frameS (n' := n) (a' := { tmps := a.tmps, defers := mark w.heap.size :: mk }) (mark w.heap.size :: mk) hr.size rfl (slots_of (t := fun i => a.tmps.getD i undef) (RepL.mono hx5.1 (Loc.le_refl _) hback)) (m := m') (fun i o hi => by
   have n1 : i ≠ 9001 := fun e => by rw [e, hn1] at hi; cases hi
   have n2 : i ≠ 9002 := fun e => by rw [e, hn2] at hi; cases hi
   have n3 : i ≠ 9003 := fun e => by rw [e, hn3] at hi; cases hi
   have n4 : i ≠ 9004 := fun e => by rw [e, hn4] at hi; cases hi
   show (if i = 9002 then none else _) = _
   rw [if_neg n2, mu_sem, lookO, beq_ne (fun e => n1 e.symm), cond_false, lookO, beq_ne (fun e => n2 e.symm), cond_false, lookO, beq_ne (fun e => n3 e.symm), cond_false, lookO, beq_ne (fun e => n4 e.symm), cond_false]
   exact hi)
  have hm7 : MarksOk H5 w0.heap.size (mark w.heap.size :: mk) := ⟨⟨w.heap.size, rfl, hB5, hD5, fun D' hD' e => by
   have hk := hr.heap _ _ (hm.known hD')
   rw [e] at hk
   have := (Array.getElem?_eq_some_iff.1 hk).1
   omega⟩, hm.le ((hx2.trans hx3).trans hx5).1⟩
  have hend := run_endLoop (P := C.P) hh1 (by simpa [lrec] using hst)
  have hJ := hQ fn a.tmps w.heap.size (w.heap.size + 1) pe m' hX
  have fin : rangePost (fen none) 0 C.P (w.heap.size + 1) (PostM C n w0 H Q) { a with defers := [mark w.heap.size] ++ a.defers } (.returned (.tuple #[])) w2 := by
   refine ⟨pe, _, hend, ?_⟩
   rw [hdef]
   have hx : Ext w0.heap.size H H5 := (hx2.trans hx3).trans hx5
   cases pe with
   | none => exact ⟨mark w.heap.size :: mk, _, H5, _, hm7, hx, r7, hJ⟩
   | some c =>
    cases c with
    | ret => exact wpIn_ret ⟨mark w.heap.size :: mk, _, H5, _, hm7, hx, r7, hJ⟩
    | exit id => exact wpIn_exit ⟨mark w.heap.size :: mk, _, H5, _, hm7, hx, r7, hJ⟩
    | _ => exact hJ.elim
  have hres0 : (results fnI a2.tmps).run C.P w2 = .ok (.tuple #[]) w2 := by
   have hm : (fnI.results.mapM (resOne a2.tmps)).run C.P w2 = .ok #[] w2 := by
    rw [hres, Array.mapM_eq_mapM_toList]
    simp
   show (do let vs ← fnI.results.mapM (resOne a2.tmps); pure (if h : vs.size = 1 then vs[0] else .tuple vs) : Sem Value).run C.P w2 = _
   simp only [Sem.run_bind, hm, Result.andThen_ok, Sem.run_pure]
   rfl
  rcases he with rfl | rfl
  ·exact ⟨hr2.defers.trans hmk, _, hres0, fin⟩
  ·exact ⟨hr2.defers.trans hmk, _, hres0, fin⟩


theorem awpM_rangeG {C : Ctx} (hmk : C.marks = []) {n : Nat} {Q : Exit → St → Prop} {σ : St} {g : Operand} {ps : Array Tmp} {assign body : Code} {gf : FuncId} {caps : List AV} {fnI : Func} {cI : Code} {so : List (Nat × AV)}
  (hs : subS σ so) (hf : C.P.funcs[gf]? = some fnI) (hb : fnI.body = some cI) (hcall : callable C.P gf = true) (hnI : caps.length + 1 ≤ fnI.ntmps) (hres : fnI.results = #[]) (hg : σ.ev g = .clo gf caps) (hnd : nodB (so.map (·.1)) = true)
  (hfr : (σ.freshB 9001 && σ.freshB 9002 && σ.freshB 9003 && σ.freshB 9004) = true) (hso : so.all (fun p => !p.2.has 9003 && !p.2.has 9004) = true)
  (X : (fn : FuncId) → (tmps : Array Value) → (D l : Nat) → Option Code → List (Nat × AO) → Prop)
  (hit : ∀ (ps' : Array Tmp) (as' bo' : Code), ps' = ps → as' = assign → bo' = body → ∀ (fn : FuncId) (tmps : Array Value) (D l : Nat), tmps.size = n → awp C fnI.ntmps cI (fun e σ2 => (e = .normal ∨ e = .ret) ∧ ∃ st pe m', st ≠ LoopState.busy ∧ X fn tmps D l pe m' ∧ lookO m' 9001 = none ∧ lookO m' 9003 = none ∧ lookO m' 9002 = none ∧ lookO m' 9004 = none ∧
    Wk C fnI.ntmps σ2 ⟨[], (9001, .blk (.loop (lrec fn tmps ps' as' bo' D st pe))) :: (9002, .blk (.deferred (some []))) :: (9003, pinA so tmps) :: (9004, pinL l D) :: m'⟩)
   ⟨ent 0 (.lit (.func (.yield l) #[] #[]) :: caps), (9004, pinL l D) :: (9003, pinA so tmps) :: (9001, .blk (.loop (lrec fn tmps ps' as' bo' D .ready none))) :: (9002, .blk (.deferred (some []))) :: σ.objs⟩)
  (hQ : ∀ (fn : FuncId) (tmps : Array Value) (D l : Nat) pe m', X fn tmps D l pe m' → jumpQ Q ⟨so, m'⟩ pe) : awpM C n (.rangeFunc g ps assign body) Q σ :=
 awpM_range hmk hs hf hb hcall hnI hres hg hnd hfr hso X (hit ps assign body rfl rfl rfl) hQ
mutual
/-- What is told of a value speaks of blocks of cells alone. -/
theorem RepV.cells {H H' : Heap} (hH : ∀ b o t fr, H b = some (.cells o t fr) → H' b = some (.cells o t fr)) : ∀ {x : AV} {L : Loc} {v : Value}, RepV H x L v → RepV H' x L v
 | .any, _, _, _ => by simp [RepV]
 | .lit _, _, _, h => by simpa [RepV] using h
 | .sl sz cs, _, _, h => by
  simp only [RepV] at h ⊢
  obtain ⟨A, n, cap, rfl, h1, h2, h3, h4, h4', h5⟩ := h
  refine ⟨A, n, cap, rfl, h1, h2, h3, h4, h4', fun hn => ?_⟩
  obtain ⟨b, off, o, t, fr, vs, e, hb, hc, hr, h1c⟩ := h5 hn
  exact ⟨b, off, o, t, fr, vs, e, hH _ _ _ _ hb, hc, RepL.cells hH hr, h1c⟩
 | .slc sz cs cap, _, _, h => by
  simp only [RepV] at h ⊢
  obtain ⟨A, n, rfl, h1, h2, h3, h4, h4', h5⟩ := h
  refine ⟨A, n, rfl, h1, h2, h3, h4, h4', fun hn => ?_⟩
  obtain ⟨b, off, o, t, fr, vs, e, hb, hc, hr, h1c⟩ := h5 hn
  exact ⟨b, off, o, t, fr, vs, e, hH _ _ _ _ hb, hc, RepL.cells hH hr, h1c⟩
 | .agg fs, _, _, h => by
  simp only [RepV] at h ⊢
  obtain ⟨vs, rfl, hr, h1⟩ := h
  exact ⟨vs, rfl, RepL.cells hH hr, h1⟩
 | .tup fs, _, _, h => by
  simp only [RepV] at h ⊢
  obtain ⟨vs, rfl, hr⟩ := h
  exact ⟨vs, rfl, RepL.cells hH hr⟩
 | .ref id off, _, _, h => by simpa [RepV] using h
 | .row id, _, _, h => by simpa [RepV] using h
 | .vw id off sz n, _, _, h => by simpa [RepV] using h
 | .ip cs, _, _, h => by
  simp only [RepV] at h ⊢
  obtain ⟨b, off, o, t, fr, vs, e, hb, hc, hr, h1c⟩ := h
  exact ⟨b, off, o, t, fr, vs, e, hH _ _ _ _ hb, hc, RepL.cells hH hr, h1c⟩
 | .clo f cs, _, _, h => by
  simp only [RepV] at h ⊢
  obtain ⟨vs, rfl, hr⟩ := h
  exact ⟨vs, rfl, RepL.cells hH hr⟩
theorem RepL.cells {H H' : Heap} (hH : ∀ b o t fr, H b = some (.cells o t fr) → H' b = some (.cells o t fr)) : ∀ {xs : List AV} {L : Loc} {vs : List Value}, RepL H xs L vs → RepL H' xs L vs
 | [], _, _, h => by simpa [RepL] using h
 | x :: xs, _, _, h => by
  simp only [RepL] at h ⊢
  obtain ⟨v, r, rfl, h1, h2⟩ := h
  exact ⟨v, r, rfl, RepV.cells hH h1, RepL.cells hH h2⟩
end
theorem Rep.take {C : Ctx} (hG : ∀ H, C.G H) {n : Nat} {w0 : World} {H : Heap} {L : Loc} {S : SS} {a : Act} {w : World} (hr : Rep C n w0 H L S a w) {D : Nat} {ds : Option (List Deferred)} (h : H D = some (.deferred ds)) (hB : w0.heap.size ≤ D) (o : Obj) :
  Rep C n w0 (fun b => if b = D then none else H b) L S a (w.putObj D o) := by
 have hc : ∀ b o t fr, H b = some (.cells o t fr) → (if b = D then none else H b) = some (.cells o t fr) := fun b o t fr hb => by
  have : b ≠ D := fun e => by rw [e, h] at hb; cases hb
  simp [this, hb]
 have hne : ∀ {g : Nat}, H g = none → g ≠ D := fun hg e => by rw [e, h] at hg; cases hg
 refine ⟨hG _, fun b o' hb => ?_, hr.size, fun i => RepV.cells hc (hr.slot i), fun id ob ho => ?_, hr.apart, hr.below.trans ⟨rfl, rfl, rfl, by simp, fun k hk => World.putObj_heap_other (by omega), Nat.le_refl _⟩, hr.defers⟩
 ·by_cases hbD : b = D
  ·simp [hbD] at hb
  ·simp [hbD] at hb
   rw [World.putObj_heap_other hbD]
   exact hr.heap b o' hb
 ·have h0 := hr.objs id ob ho
  cases ob with
  | var t cs =>
   obtain ⟨g, vs, a1, a2, a3, a4, a5, a6⟩ := h0
   exact ⟨g, vs, a1, by rw [World.putObj_heap_other (hne a6)]; exact a2, RepL.cells hc a3, a4, a5, by simp [a6]⟩
  | row e sz cs =>
   obtain ⟨v, vs, m, a1, a2, a3, a4, a5, a6, a7, a8⟩ := h0
   refine ⟨v, vs, m, a1, a2, ⟨a3.1, a3.2.imp (fun x => x) fun ⟨g, cap, cur, r1, r2, r3, r4⟩ => ⟨g, cap, cur, r1, r2, ?_, r4⟩⟩, RepL.cells hc a4, a5, a6, a7, fun g hg => by simp [a8 g hg]⟩
   rw [World.putObj_heap_other (hne (a8 g (by rw [r1]; rfl)))]; exact r3
  | blk o2 =>
   obtain ⟨g, a1, a2, a3, a4⟩ := h0
   exact ⟨g, a1, by rw [World.putObj_heap_other (hne a4)]; exact a2, a3, by simp [a4]⟩
  | pin cs us => exact ⟨h0.1, RepL.cells hc h0.2⟩
theorem leaves_marks {C : Ctx} (hG : ∀ H, C.G H) {n : Nat} {w0 : World} {L : Loc} {S : SS} {a : Act} {P : Program} {fn : Func} {tmps : Array Value} {R : Ending → World → Prop} {u : FrameMode} (hu : u ≠ .run) : ∀ (mk : List Deferred) (H : Heap) (w : World), MarksOk H w0.heap.size mk → Rep C n w0 H L S a w →
  (∀ (H' : Heap) (w' : World), (∀ b, b < w0.heap.size → H' b = H b) → Rep C n w0 H' L S a w' → LeavesIn (fen none) 0 P fn tmps R [] u w') → LeavesInM (fen none) 0 P fn tmps R mk u w
 | [], H, w, _, hr, k => k H w (fun _ _ => rfl) hr
 | d :: ds, H, w, ⟨⟨D, h1, h2, h3, h4⟩, h5⟩, hr, k => by
  refine ⟨hu, .inl ⟨D, w.putObj D (.deferred none), by rw [h1]; rfl, run_takeDeferred (hr.heap _ _ h3), ?_⟩⟩
  have hm : ∀ {ds : List Deferred}, (∀ D', mark D' ∈ ds → D' ≠ D) → MarksOk H w0.heap.size ds → MarksOk (fun b => if b = D then none else H b) w0.heap.size ds := by
   intro ds
   induction ds with
   | nil => intro _ _; trivial
   | cons e es ih =>
    rintro hne ⟨⟨E, g1, g2, g3, g4⟩, g5⟩
    refine ⟨⟨E, g1, g2, ?_, g4⟩, ih (fun D' hD' => hne D' (by simp [hD'])) g5⟩
    have : E ≠ D := hne E (by rw [g1]; simp)
    simp [this, g3]
  refine leaves_marks hG hu ds (fun b => if b = D then none else H b) (w.putObj D (.deferred none)) (hm h4 h5) (hr.take hG h3 h2 _) fun H' w' a1 a2 => k H' w' (fun b hb => ?_) a2
  rw [a1 b hb]
  have : b ≠ D := fun e => by omega
  simp [this]
theorem resOk_any {C : Ctx} {mk : List Deferred} {σ : St} : ∀ (rs : List ResultVar) (vs : List AV), ResOk C σ rs vs → ResOk { C with G := fun _ => True, mono := fun _ _ _ _ => trivial, marks := mk } σ rs vs := by
 intro rs
 induction rs with
 | nil => intro vs h; cases vs <;> exact h
 | cons r rs ih =>
  intro vs h
  cases vs with
  | nil => cases r <;> exact h.elim
  | cons v vs =>
   cases r with
   | tmp t => exact ⟨h.1, ih _ h.2⟩
   | cell t ty => exact ⟨h.1, ih _ h.2⟩
theorem ecalls_of_awpM {C : Ctx} {f : FuncId} {fn : Func} {c : Code} {args : List AV} {res : AV} (hf : C.P.funcs[f]? = some fn) (hb : fn.body = some c) (hn : args.length ≤ fn.ntmps) (h : awpM C fn.ntmps c (postF C fn res) (entry args)) (hmk : C.marks = [] := by rfl) : ECalls C f args res := by
 intro H L vals w hG hH hr
 have hrep := entry_Rep hmk hG hH hn hr
 rw [← marks_nil hmk] at hrep
 refine (callsIn_wide (n := 0)).1 ?_
 refine callsIn_of_wp_marks hf hb trivial ?_
 refine wpIn_mono (h [] w H L _ w trivial hrep) fun e a' w' hp => ?_
 obtain ⟨mk', σ', H', L', hm, hx, hr', hq⟩ := hp
 have fin : (∃ vs, ResOk C σ' fn.results.toList vs ∧ closedL vs = true ∧ res = packR vs) → LeavesInM (fen none) 0 C.P fn a'.tmps (fun e w' => ∃ H' v, e = .returned v ∧ RepV H' res noLoc v ∧ Ext w.heap.size H H' ∧ (∀ b o, H' b = some o → w'.heap[b]? = some o) ∧ Bel w.heap.size w w') a'.defers .returning w' := by
  rintro ⟨vs, hres, hcl, rfl⟩
  rw [hr'.defers]
  have r2 : Rep { C with G := fun _ => True, mono := fun _ _ _ _ => trivial, marks := mk' } fn.ntmps w H' L' (St.sem σ') a' w' := ⟨trivial, hr'.heap, hr'.size, hr'.slot, hr'.objs, hr'.apart, hr'.below, hr'.defers⟩
  refine leaves_marks (fun _ => trivial) (by simp) mk' H' w' hm r2 fun H2 w2 e2 r3 => ?_
  have hres2 : ResOk { C with G := fun _ => True, mono := fun _ _ _ _ => trivial, marks := mk' } σ' fn.results.toList vs := resOk_any _ _ hres
  obtain ⟨v, hrun, hv⟩ := res_ends r3 hres2 hcl
  refine ⟨v, hrun, H2, v, rfl, hv, ⟨fun b o hb => ?_, fun b hb => (e2 b hb).trans (hx.2 b hb)⟩, r3.heap, r3.below⟩
  have hlt := (Array.getElem?_eq_some_iff.1 (hH b o hb)).1
  rw [e2 b hlt]
  exact hx.1 b o hb
 cases e with
 | ret => exact fin hq
 | normal => exact fin hq
 | _ => exact hq.elim
end Go.Ab

namespace Go.Ab
open Go.RowKit
theorem gcells_dropA {α : Type} {c : α → List AV} {n : Nat} (hc : ∀ x, (c x).length = n) : ∀ (l : List α) (i : Nat), (gcells c l).drop (i * n) = gcells c (l.drop i)
 | [], i => by simp [gcells]
 | x :: l, 0 => by simp
 | x :: l, i + 1 => by
  have ih := gcells_dropA hc l i
  rw [List.drop_succ_cons, ← ih, Nat.succ_mul, Nat.add_comm]
  show (c x ++ gcells c l).drop (n + i * n) = _
  rw [List.drop_append, hc, List.drop_of_length_le (by rw [hc]; omega), List.nil_append, show n + i * n - n = i * n by omega]
theorem gcells_takeA {α : Type} {c : α → List AV} {n : Nat} (hc : ∀ x, (c x).length = n) : ∀ (l : List α) (i : Nat), (gcells c l).take (i * n) = gcells c (l.take i)
 | [], i => by simp [gcells]
 | x :: l, 0 => by simp [gcells]
 | x :: l, i + 1 => by
  have ih := gcells_takeA hc l i
  rw [List.take_succ_cons, Nat.succ_mul, Nat.add_comm]
  show (c x ++ gcells c l).take (n + i * n) = c x ++ gcells c (l.take i)
  rw [← ih, List.take_append, hc, List.take_of_length_le (by rw [hc]; omega), show n + i * n - n = i * n by omega]
section
variable {C : Ctx} {ops : Array Oper} {s : List (Nat × AV)} {m : List (Nat × AO)} {K : List Eff → St → Prop} {os : List Oper} {d : Nat} {t : TypeId} {p : String} {af : Array Edge} {g : Option (Nat × Bool)}
theorem g_slice {α : Type} {ty : TypeId} {x : Operand} {lo hi mx : Option Operand} {e n by' : Nat} (c : α → List AV) (xs : List α) (l h : Nat) (hc : ∀ x, (c x).length = n) (hg : Gd ops s g) (ht : tyElem C.P ty = some (e, n, by')) (hx : ev s x = .sl n (gcells c xs))
  (hlo : (St.sem ⟨s, m⟩).loOk lo l) (hhi : (St.sem ⟨s, m⟩).hiOk hi xs.length h) (hmx : (St.sem ⟨s, m⟩).mxOk mx hi.isSome h) (h1 : l ≤ h) (h2 : h ≤ xs.length)
  (kk : aops C ops ⟨(d, .sl n (gcells c ((xs.drop l).take (h - l)))) :: s, m⟩ os fun es σ' => K ({ val := .sl n (gcells c ((xs.drop l).take (h - l))) } :: es) σ') : aops C ops ⟨s, m⟩ (⟨some d, .slice ty x lo hi mx, t, p, af, g⟩ :: os) K :=
 o_slice l h _ hg ht hx (gcells_len hc xs) hlo hhi hmx h1 h2 (by rw [gcells_dropA hc, gcells_takeA hc]) kk
end
end Go.Ab

namespace Go.Proofs.YtdmkejloknejdaaGreatDoor
open Go Go.Ab Go.Mth
theorem f105_ : callable cx.P 143 = true := by kernel_rfl
theorem f106_ : callable cx.P 115 = true := by kernel_rfl
theorem f107_ : cx.P.underlying 96 = some (.slice 90) := by kernel_rfl
theorem f108_ : tyElem cx.P 96 = some (90, 2, 32) := by kernel_rfl
theorem f109_ : callable cx.P 90 = true := by kernel_rfl
theorem f110_ : callable cx.P 89 = true := by kernel_rfl
theorem f111_ : callable cx.P 96 = true := by kernel_rfl
theorem f112_ : callable cx.P 50 = true := by kernel_rfl
theorem f113_ : callable cx.P 97 = true := by kernel_rfl
theorem c_isNaN (x : Int) : ECalls cx 143 [Iv x] Fv := by
 refine ecalls_of_awp Tryz.func143 (c := _) rfl (Nat.le_of_ble_eq_true rfl) ?_
 show awp cx 6 _ (postF cx Tryz.f143 _) ⟨[(0, Iv x)], []⟩
 refine awp_seq fun K0 hK0 => awp_region rfl (o_as Fv rfl (aops_end (hK0 _ (awp_seq fun K1 hK1 => awp_region rfl (o_mv (Iv x) rfl (o_mv (Iv x) rfl ?_))))))
 refine o_neq (a := x) (c := x) gn rfl rfl ?_
 refine n_as (v' := Fv) (by exact bpn (fun h => h rfl)) ?_
 refine o_as Fv rfl (aops_end (hK1 _ ?_))
 refine awp_ret ?_
 refine post_ret ⟨[Fv], ⟨AV.le_refl _, trivial⟩, rfl, ?_⟩
 rfl

theorem c_cmpInt (x y : Int) : ECalls cx 115 [Iv x, Iv y] (.lit (.int .i64 (cmpZ x y))) := by
 refine ecalls_of_awp Tryz.func115 (c := _) rfl (Nat.le_of_ble_eq_true rfl) ?_
 show awp cx 20 _ (postF cx Tryz.f115 _) ⟨[(0, Iv x), (1, Iv y)], []⟩
 refine awp_seq fun K0 hK0 => awp_region rfl (o_as (Nv 0) rfl (aops_end (hK0 _ (awp_seq fun K1 hK1 => awp_region rfl (o_mv (Iv x) rfl ?_)))))
 refine o_ct (c_isNaN _) gn f105_ rfl ?_
 refine o_as Fv rfl (aops_end (hK1 _ (awp_seq fun K2 hK2 => awp_region rfl (o_mv (Iv y) rfl ?_))))
 refine o_ct (c_isNaN _) gn f105_ rfl ?_
 refine o_as Fv rfl (aops_end (hK2 _ (awp_seq fun K3 hK3 => awp_seq fun K4 hK4 => awp_region rfl (o_mv Fv rfl (aops_end (hK4 _ ?_))))))
 refine awp_condB (b := false) rfl (fun hh => absurd (hh.symm.trans rfl) (by decide)) (fun _ => ?_)
 refine awp_skip (hK3 _ (awp_seq fun K5 hK5 => awp_seq fun K6 hK6 => awp_region rfl (o_mv Fv rfl (aops_end (hK6 _ ?_)))))
 refine awp_condB (b := false) rfl (fun hh => absurd (hh.symm.trans rfl) (by decide)) (fun _ => ?_)
 refine awp_skip (hK5 _ (awp_seq fun K7 hK7 => awp_seq fun K8 hK8 => awp_region rfl (o_mv (Iv x) rfl (o_mv (Iv y) rfl ?_))))
 refine o_lss (a := x) (c := y) gn rfl rfl ?_
 refine aops_end (hK8 _ ?_)
 refine awp_condQ (q := x < y) rfl (fun h1 => ?_) (fun h1 => ?_)
 ·refine awp_seq fun K9 hK9 => awp_region rfl (o_as (Iv (-1)) rfl (aops_end (hK9 _ ?_)))
  refine awp_ret ?_
  refine post_ret ⟨[Iv (-1)], ⟨AV.le_refl _, trivial⟩, rfl, ?_⟩
  exact congrArg (fun z => AV.lit (.int .i64 z)) (by unfold cmpZ; rw [if_pos (by assumption)]; all_goals rfl)
 ·refine awp_skip (hK7 _ (awp_seq fun K10 hK10 => awp_seq fun K11 hK11 => awp_region rfl (o_mv (Iv x) rfl (o_mv (Iv y) rfl ?_))))
  refine o_gtr (a := x) (c := y) gn rfl rfl ?_
  refine aops_end (hK11 _ ?_)
  refine awp_condQ (q := y < x) rfl (fun h2 => ?_) (fun h2 => ?_)
  ·refine awp_seq fun K12 hK12 => awp_region rfl (o_as (Nv 1) rfl (aops_end (hK12 _ ?_)))
   refine awp_ret ?_
   refine post_ret ⟨[Nv 1], ⟨AV.le_refl _, trivial⟩, rfl, ?_⟩
   exact congrArg (fun z => AV.lit (.int .i64 z)) (by unfold cmpZ; rw [if_neg (by assumption), if_pos (by assumption)]; all_goals rfl)
  ·refine awp_skip (hK10 _ (awp_seq fun K13 hK13 => awp_region rfl (o_as (Nv 0) rfl (aops_end (hK13 _ ?_)))))
   refine awp_ret ?_
   refine post_ret ⟨[Nv 0], ⟨AV.le_refl _, trivial⟩, rfl, ?_⟩
   exact congrArg (fun z => AV.lit (.int .i64 z)) (by unfold cmpZ; rw [if_neg (by assumption), if_neg (by assumption)]; all_goals rfl)

theorem c_cmpL (x y : List Int) : ECalls cx 89 [Lv x, Lv y] (.lit (.int .i64 (cmpL x y))) := by
 refine ecalls_of_awp Tryz.func89 (c := _) rfl (Nat.le_of_ble_eq_true rfl) ?_
 show awp cx 36 _ (postF cx Tryz.f89 _) ⟨[(0, Lv x), (1, Lv y)], []⟩
 refine awp_bound (i := 0) rfl fun hxl => ?_
 replace hxl := is_bnd hxl
 refine awp_bound (i := 1) rfl fun hyl => ?_
 replace hyl := is_bnd hyl
 refine awp_seq fun K0 hK0 => awp_region rfl (o_as (Nv 0) rfl (aops_end (hK0 _ (awp_seq fun K1 hK1 => awp_seq fun K2 hK2 => awp_region rfl (o_mv (Lv x) rfl ?_)))))
 refine i_len x gn f2_ rfl ?_
 refine o_mv (Nv 0) rfl (aops_end (hK2 _ ?_))
 refine awp_block ?_
 refine awp_loopR (fun κ σ => ∃ (i : Nat), (i ≤ x.length) ∧ (cmpL x y = cmpL (x.drop i) (y.drop i)) ∧ (x.length - i) = κ ∧ σ = ⟨[(0, Lv x), (1, Lv y), (9, Lv x), (10, Nv (x.length)), (11, Nv i)], []⟩) ⟨_, _, ⟨0, Nat.zero_le _, rfl, rfl, rfl⟩, ?wk0⟩ ?rd0
 case wk0 =>
  exact Wk.sub ⟨rfl, rfl, rfl, rfl, (by first | rfl | exact nm_int (by omega)), trivial⟩ trivial
 rintro κ _ ⟨i, hi, hc, rfl, rfl⟩
 refine awp_seq fun K3 hK3 => awp_region rfl ?_
 refine n_lss i (x.length) gn rfl rfl ?_
 refine aops_end (hK3 _ (awp_seq fun K4 hK4 => ?_))
 refine awp_condQ (q := i < (x.length)) rfl (fun h1 => ?_) (fun h1 => ?_)
 ·refine awp_skip (hK4 _ (awp_seq fun K5 hK5 => ?_))
  refine awp_block ?_
  refine awp_seq fun K6 hK6 => awp_region rfl (o_mv (Nv i) rfl ?_)
  refine i_index x i gn f10_ rfl rfl (by omega) ?_
  refine i_loadI x i gn f11_ rfl (by omega) ?_
  refine o_as (Nv i) rfl (o_as (Iv (x.getD i 0)) rfl (aops_end (hK6 _ (awp_seq fun K7 hK7 => awp_seq fun K8 hK8 => awp_region rfl (o_mv (Nv i) rfl (o_mv (Lv y) rfl ?_))))))
  refine i_len y gn f2_ rfl ?_
  refine n_geq i (y.length) gn rfl rfl ?_
  refine aops_end (hK8 _ ?_)
  refine awp_condQ (q := (y.length) ≤ i) rfl (fun h2 => ?_) (fun h2 => ?_)
  ·refine awp_seq fun K9 hK9 => awp_region rfl (o_as (Nv 1) rfl (aops_end (hK9 _ ?_)))
   refine awp_ret ?_
   refine post_ret ⟨[Nv 1], ⟨AV.le_refl _, trivial⟩, rfl, ?_⟩
   exact congrArg (fun z => AV.lit (.int .i64 z)) (hc.trans (cmpL_s1 (by assumption) (by omega)))
  ·refine awp_skip (hK7 _ (awp_seq fun K10 hK10 => awp_region rfl (o_mv (Lv y) rfl (o_mv (Nv i) rfl ?_))))
   refine i_index y i gn f10_ rfl rfl (by omega) ?_
   refine i_loadI y i gn f11_ rfl (by omega) ?_
   refine o_as (Iv (y.getD i 0)) rfl (aops_end (hK10 _ (awp_seq fun K11 hK11 => awp_region rfl (o_mv (Iv (x.getD i 0)) rfl (o_mv (Iv (y.getD i 0)) rfl ?_)))))
   refine o_ct (c_cmpInt (x.getD i 0) (y.getD i 0)) gn f106_ rfl ?_
   refine o_as (Iv (cmpZ (x.getD i 0) (y.getD i 0))) rfl (aops_end (hK11 _ (awp_seq fun K12 hK12 => awp_region rfl (o_mv (Iv (cmpZ (x.getD i 0) (y.getD i 0))) rfl ?_))))
   refine o_neq (a := (cmpZ (x.getD i 0) (y.getD i 0))) (c := ((0 : Nat) : Int)) gn rfl rfl ?_
   refine aops_end (hK12 _ ?_)
   refine awp_condQ (q := (cmpZ (x.getD i 0) (y.getD i 0)) ≠ ((0 : Nat) : Int)) rfl (fun h3 => ?_) (fun h3 => ?_)
   ·refine awp_seq fun K13 hK13 => awp_region rfl (o_mv (Iv (cmpZ (x.getD i 0) (y.getD i 0))) rfl (o_as (Iv (cmpZ (x.getD i 0) (y.getD i 0))) rfl (aops_end (hK13 _ ?_))))
    refine awp_ret ?_
    refine post_ret ⟨[Iv (cmpZ (x.getD i 0) (y.getD i 0))], ⟨AV.le_refl _, trivial⟩, rfl, ?_⟩
    exact congrArg (fun z => AV.lit (.int .i64 z)) (hc.trans ((cmpL_s2 (by assumption) (by omega)).trans (if_neg (by assumption))))
   ·refine awp_skip (hK5 _ (awp_region rfl ?_))
    refine n_add i 1 gn rfl rfl (by simp only [topOf]; omega) ?_
    refine o_mv (Nv (i + 1)) rfl (aops_end ?_)
    refine ⟨_, _, ?lt, ⟨i + 1, (by omega), (hc.trans ((cmpL_s2 (by assumption) (by omega)).trans (if_pos (Decidable.not_not.1 (by assumption))))), rfl, rfl⟩, ?wk⟩
    case lt => omega
    case wk => exact Wk.sub ⟨rfl, rfl, rfl, rfl, (by first | rfl | exact nm_int (by omega)), trivial⟩ trivial
 ·refine awp_exit ?_
  refine hK1 _ (awp_seq fun K14 hK14 => awp_seq fun K15 hK15 => awp_region rfl (o_mv (Lv x) rfl ?_))
  refine i_len x gn f2_ rfl ?_
  refine o_mv (Lv y) rfl ?_
  refine i_len y gn f2_ rfl ?_
  refine n_lss (x.length) (y.length) gn rfl rfl ?_
  refine aops_end (hK15 _ ?_)
  refine awp_condQ (q := (x.length) < (y.length)) rfl (fun h4 => ?_) (fun h4 => ?_)
  ·refine awp_seq fun K16 hK16 => awp_region rfl (o_as (Iv (-1)) rfl (aops_end (hK16 _ ?_)))
   refine awp_ret ?_
   refine post_ret ⟨[Iv (-1)], ⟨AV.le_refl _, trivial⟩, rfl, ?_⟩
   exact congrArg (fun z => AV.lit (.int .i64 z)) (hc.trans (cmpL_e1 (by omega) (by omega)))
  ·refine awp_skip (hK14 _ (awp_seq fun K17 hK17 => awp_region rfl (o_as (Nv 0) rfl (aops_end (hK17 _ ?_)))))
   refine awp_ret ?_
   refine post_ret ⟨[Nv 0], ⟨AV.le_refl _, trivial⟩, rfl, ?_⟩
   exact congrArg (fun z => AV.lit (.int .i64 z)) (hc.trans (cmpL_e2 (by omega) (by omega)))

theorem c_clone (l : List Int) (hl : 0 < l.length) (hb : l.length ≤ 1000) : ECallsM cx 90 [Lv l] (.row 701) 701 3 1 (is .i64 l) := by
 refine ecallsM_of_awp Tryz.func90 (c := _) rfl (Nat.le_of_ble_eq_true rfl) ?_
 show awp cx 8 _ (postM cx Tryz.f90 _ 701 3 1 (is .i64 l)) ⟨[(0, Lv l)], []⟩
 refine awp_seq fun K0 hK0 => awp_region rfl (o_as Zv rfl (aops_end (hK0 _ (awp_seq fun K1 hK1 => awp_seq fun K2 hK2 => awp_region rfl (o_mv (Lv l) rfl ?_)))))
 refine o_eqlNilSl gn f2_ rfl rfl (by simp [is, ns]; omega) ?_
 refine aops_end (hK2 _ ?_)
 refine awp_condB (b := false) rfl (fun hh => absurd (hh.symm.trans rfl) (by decide)) (fun _ => ?_)
 refine awp_skip (hK1 _ (awp_seq fun K3 hK3 => awp_region rfl ?_))
 refine o_buildSlice 2 (is .i64 ([])) [] gn f10_ rfl f26_ rfl rfl rfl rfl rfl rfl rfl ?_
 refine o_mv (Lv l) rfl ?_
 refine i_appendSl 3 ([]) l [] gn f10_ f26_ rfl rfl rfl rfl (by simp only [List.length_append, List.length_cons, List.length_nil]; omega) (by decide) rfl rfl ?_
 refine o_as (.row 3) rfl (aops_end (hK3 _ ?_))
 refine awp_wk (σ' := ⟨[(2, .row 3)], [(3, .row 3 1 (is .i64 l))]⟩) (Wk.sub ⟨rfl, trivial⟩ ⟨rfl, trivial⟩) ?_
 refine awp_wk (σ' := ⟨[(2, .row 701)], [(701, .row 3 1 (is .i64 l))]⟩) (Wk.ren (id := 3) (id' := 701) rfl) ?_
 refine awp_ret ?_
 refine postM_ret ⟨[.row 701], ⟨AV.le_refl _, trivial⟩, rfl, rfl, ?_⟩
 rfl

theorem c_cloneW (l : List Int) (hl : 0 < l.length) (hb : l.length ≤ 1000) : ECallsM cx 97 [.sl 2 (gcells cW l)] (.row 701) 701 90 2 (gcells cW l) := by
 refine ecallsM_of_awp Tryz.func97 (c := _) rfl (Nat.le_of_ble_eq_true rfl) ?_
 show awp cx 8 _ (postM cx Tryz.f97 _ 701 90 2 (gcells cW l)) ⟨[(0, .sl 2 (gcells cW l))], []⟩
 refine awp_seq fun K0 hK0 => awp_region rfl (o_as Zv rfl (aops_end (hK0 _ (awp_seq fun K1 hK1 => awp_seq fun K2 hK2 => awp_region rfl (o_mv (.sl 2 (gcells cW l)) rfl ?_)))))
 refine o_eqlNilSl gn f107_ rfl rfl (by rw [gcells_len cW_len]; omega) ?_
 refine aops_end (hK2 _ ?_)
 refine awp_condB (b := false) rfl (fun hh => absurd (hh.symm.trans rfl) (by decide)) (fun _ => ?_)
 refine awp_skip (hK1 _ (awp_seq fun K3 hK3 => awp_region rfl ?_))
 refine o_buildSlice 2 (gcells cW ([])) [] gn f108_ rfl f15_ rfl rfl rfl rfl rfl rfl rfl ?_
 refine o_mv (.sl 2 (gcells cW l)) rfl ?_
 refine g_appendSl cW 3 ([]) l [] cW_len rfl gn f108_ f15_ rfl rfl rfl rfl (by simp only [List.length_append, List.length_cons, List.length_nil]; omega) (by simp only [List.length_append, List.length_cons, List.length_nil]; omega) rfl rfl ?_
 refine o_as (.row 3) rfl (aops_end (hK3 _ ?_))
 refine awp_wk (σ' := ⟨[(2, .row 3)], [(3, .row 90 2 (gcells cW l))]⟩) (Wk.sub ⟨rfl, trivial⟩ ⟨rfl, trivial⟩) ?_
 refine awp_wk (σ' := ⟨[(2, .row 701)], [(701, .row 90 2 (gcells cW l))]⟩) (Wk.ren (id := 3) (id' := 701) rfl) ?_
 refine awp_ret ?_
 refine postM_ret ⟨[.row 701], ⟨AV.le_refl _, trivial⟩, rfl, rfl, ?_⟩
 rfl

theorem c_first (w : List Int) (hl : w.length ≤ 1000) : ECalls cx 48 [Lv w] (bp (firstP w)) := by
 refine ecalls_of_awp Tryz.func48 (c := _) rfl (Nat.le_of_ble_eq_true rfl) ?_
 show awp cx 21 _ (postF cx Tryz.f48 _) ⟨[(0, Lv w)], []⟩
 refine awp_seq fun K0 hK0 => awp_region rfl (o_as Fv rfl (aops_end (hK0 _ (awp_seq fun K1 hK1 => awp_seq fun K2 hK2 => awp_region rfl (o_as (Nv 1) rfl (aops_end (hK2 _ ?_)))))))
 refine awp_block ?_
 refine awp_loopR (fun κ σ => ∃ (i : Nat), (1 ≤ i) ∧ (∀ j, j < i → 0 < j → ¬ cmpL (rotL w j) w ≤ 0) ∧ (w.length - i) = κ ∧ σ = ⟨[(0, Lv w), (3, Nv i)], []⟩) ⟨_, _, ⟨1, (by omega), (fun j h1 h2 => by omega), rfl, rfl⟩, ?wk0⟩ ?rd0
 case wk0 =>
  exact Wk.sub ⟨rfl, (by first | rfl | exact nm_int (by omega)), trivial⟩ trivial
 rintro κ _ ⟨i, hi0, hf, rfl, rfl⟩
 refine awp_seq fun K3 hK3 => awp_seq fun K4 hK4 => awp_region rfl (o_mv (Nv i) rfl (o_mv (Lv w) rfl ?_))
 refine i_len w gn f2_ rfl ?_
 refine n_lss i (w.length) gn rfl rfl ?_
 refine aops_end (hK4 _ ?_)
 refine awp_condQ (q := i < (w.length)) rfl (fun h1 => ?_) (fun h1 => ?_)
 ·refine awp_skip (hK3 _ (awp_seq fun K5 hK5 => ?_))
  refine awp_block ?_
  refine awp_seq fun K6 hK6 => awp_regionD rfl (o_mv (Lv w) rfl (o_mv (Nv i) rfl ?_))
  refine i_slice w i (w.length) gn f10_ rfl (lo_nm rfl) rfl trivial (by omega) (by omega) ?_
  refine o_callM 701 [Lv ((w.drop i).take (w.length - i))] gn f109_ rfl (c_clone ((w.drop i).take (w.length - i)) (by simp only [List.length_take, List.length_drop]; omega) (by simp only [List.length_take, List.length_drop]; omega)) rfl ?_
  refine o_mv (Lv w) rfl (o_mv (Nv i) rfl ?_)
  refine i_slice w 0 i gn f10_ rfl rfl (hi_nm rfl) trivial (by omega) (by omega) ?_
  refine i_appendSl 101 ((w.drop i).take (w.length - i)) ((w.drop 0).take (i - 0)) [] gn f10_ f26_ rfl rfl rfl rfl (by simp only [List.length_append, List.length_take, List.length_drop]; omega) (by decide) rfl rfl ?_
  refine o_mv (Lv w) rfl ?_
  refine o_callG [(101, 1, is .i64 (((w.drop i).take (w.length - i)) ++ ((w.drop 0).take (i - 0))))] [Lv (((w.drop i).take (w.length - i)) ++ ((w.drop 0).take (i - 0))), Lv w] _ (Iv (cmpL (((w.drop i).take (w.length - i)) ++ ((w.drop 0).take (i - 0))) w)) [] gn f110_ rfl ⟨⟨_, rfl⟩, trivial⟩ rfl rfl (LeL.cons (AV.le_refl _) (LeL.cons (AV.le_refl _) LeL.nil)) (c_cmpL (((w.drop i).take (w.length - i)) ++ ((w.drop 0).take (i - 0))) w) rfl ?_
  refine n_as (v' := (Iv (cmpL (rotL w i) w))) (by exact congrArg (fun z => AV.lit (.int .i64 z)) (congrArg (fun l => cmpL l w) (rot_cut w (by omega)))) ?_
  refine o_leq (a := (cmpL (rotL w i) w)) (c := ((0 : Nat) : Int)) gn rfl rfl ?_
  refine aops_end ⟨by kernel_rfl, ?_⟩
  refine hK6 _ ?_
  refine awp_condQ (q := (cmpL (rotL w i) w) ≤ ((0 : Nat) : Int)) rfl (fun h2 => ?_) (fun h2 => ?_)
  ·refine awp_seq fun K7 hK7 => awp_region rfl (o_as Fv rfl (aops_end (hK7 _ ?_)))
   refine awp_ret ?_
   refine post_ret ⟨[Fv], ⟨AV.le_refl _, trivial⟩, rfl, ?_⟩
   exact bpn (fun h => h i (by assumption) (by omega) (by assumption))
  ·refine awp_skip (hK5 _ (awp_region rfl (o_mv (Nv i) rfl ?_)))
   refine n_add i 1 gn rfl rfl (by simp only [topOf]; omega) ?_
   refine o_as (Nv (i + 1)) rfl (aops_end ?_)
   refine ⟨_, _, ?lt, ⟨i + 1, (by omega), (fun j h8 h9 => by rcases Nat.lt_or_ge j i with e | e; exact hf j e h9; rw [show j = i by omega]; assumption), rfl, rfl⟩, ?wk⟩
   case lt => omega
   case wk => exact Wk.sub ⟨rfl, (by first | rfl | exact nm_int (by omega)), trivial⟩ trivial
 ·refine awp_exit ?_
  refine hK1 _ (awp_seq fun K8 hK8 => awp_region rfl (o_as Tv rfl (aops_end (hK8 _ ?_))))
  refine awp_ret ?_
  refine post_ret ⟨[Tv], ⟨AV.le_refl _, trivial⟩, rfl, ?_⟩
  exact bpy (fun j h8 h9 => hf j (by omega) h9)

theorem c_loop (m : MapM) (x : Int) (n : Nat) (hM : OkM m) (hn1 : 1 ≤ n) (hn : n ≤ 200) (hx : (digs x.natAbs).length ≤ 1000) : ECalls cx 52 [mapV m, intW x, Nv n] (.sl 2 (gcells cW (cyc m x n))) := by
 refine ecalls_of_awp Tryz.func52 (c := _) rfl (Nat.le_of_ble_eq_true rfl) ?_
 show awp cx 58 _ (postF cx Tryz.f52 _) ⟨[(0, mapV m), (1, intW x), (2, Nv n)], []⟩
 refine awp_seq fun K0 hK0 => awp_region rfl ?_
 refine o_box 2 [Iv m.mod, Lv m.mul, Lv m.add] gn rfl rfl ?_
 refine o_box 3 [bp (x < 0), .sl 1 (ns .u32 (digs x.natAbs))] gn rfl rfl ?_
 refine o_as Zv rfl (aops_end (hK0 _ (awp_seq fun K1 hK1 => awp_region rfl ?_)))
 refine o_loadA [bp (x < 0), .sl 1 (ns .u32 (digs x.natAbs))] gn f20_ rfl rfl rfl rfl rfl ?_
 refine o_buildSlice 4 (gcells cW ([x])) [(0, [bp (x < 0), .sl 1 (ns .u32 (digs x.natAbs))])] gn f108_ rfl f15_ rfl rfl rfl rfl rfl rfl rfl ?_
 refine o_as (.row 4) rfl (aops_end (hK1 _ (awp_seq fun K2 hK2 => ?_)))
 refine awp_block ?_
 refine awp_loopR (fun κ σ => ∃ (j : Nat), (j + 1 ≤ n) ∧ (n - j) = κ ∧ σ = ⟨[(2, Nv n), (3, .ref 2 0), (7, .row 50)], [(2, oM 24 m), (50, .row 90 2 (gcells cW (orbL m x (j + 1))))]⟩) ⟨_, _, ⟨0, (by omega), rfl, rfl⟩, ?wk0⟩ ?rd0
 case wk0 =>
  exact Wk.trans (Wk.sub (σ' := ⟨[(2, Nv n), (3, .ref 2 0), (7, .row 4)], [(2, oM 24 m), (4, .row 90 2 (gcells cW ([x])))]⟩) ⟨rfl, rfl, rfl, trivial⟩ ⟨rfl, rfl, trivial⟩) (Wk.trans (Wk.ren (id := 4) (id' := 50) rfl) (Wk.sub ⟨rfl, rfl, (by first | rfl | simp), trivial⟩ ⟨(by first | rfl | (first | exact row_gs' (orbL_s m x _) | exact row_gs' (by rfl) | exact row_gs' (by rw [show j + 1 = n by omega]))), (by first | rfl | exact row_ns (by simp) | (first | exact row_gs' (orbL_s m x _) | exact row_gs' (by rfl) | exact row_gs' (by rw [show j + 1 = n by omega]))), trivial⟩))
 rintro κ _ ⟨j, hj, rfl, rfl⟩
 have k1 := orbL_len m x (j + 1)
 have k2 := iter_len hM x j
 refine awp_seq fun K3 hK3 => awp_seq fun K4 hK4 => awp_region rfl (o_mv (.row 50) rfl ?_)
 refine g_lenRow cW (orbL m x (j + 1)) cW_len gn f107_ rfl rfl ?_
 refine o_mv (Nv n) rfl ?_
 refine n_lss ((orbL m x (j + 1)).length) n gn rfl rfl ?_
 refine aops_end (hK4 _ ?_)
 refine awp_condQ (q := ((orbL m x (j + 1)).length) < n) rfl (fun h1 => ?_) (fun h1 => ?_)
 ·refine awp_skip (hK3 _ ?_)
  refine awp_block ?_
  refine awp_seq fun K5 hK5 => awp_regionD rfl ?_
  refine o_loadA [Iv m.mod, Lv m.mul, Lv m.add] gn f63_ rfl rfl rfl rfl rfl ?_
  refine o_mv (.row 50) rfl (o_mv (.row 50) rfl ?_)
  refine g_lenRow cW (orbL m x (j + 1)) cW_len gn f107_ rfl rfl ?_
  refine n_sub ((orbL m x (j + 1)).length) 1 gn rfl rfl (by omega) (by simp only [topOf]; omega) ?_
  refine g_indexRow cW (orbL m x (j + 1)) (((orbL m x (j + 1)).length) - 1) cW_len rfl gn f108_ rfl rfl rfl (by omega) ?_
  refine g_loadRowA cW (orbL m x (j + 1)) (((orbL m x (j + 1)).length) - 1) default cW_len gn f20_ rfl rfl (by omega) ?_
  refine n_as (v' := (intW (iterZ m j x))) (by exact congrArg intW ((congrArg (fun i => (orbL m x (j + 1)).getD i default) (by rw [orbL_len]; rfl)).trans (orbL_get (Nat.lt_succ_self j)))) ?_
  refine o_ct (c_sNext m (iterZ m j x) (by first | assumption | exact okM_iff.1 (by assumption)) (by first | omega | assumption | (simp only [Int.natAbs_neg]; omega))) gn f111_ rfl ?_
  refine o_mv (.tup [intW (stepZ m (iterZ m j x)), Iv ((iterZ m j x) % m.mod)]) rfl (o_extract (intW (stepZ m (iterZ m j x))) gn rfl rfl ?_)
  refine n_as (v' := (intW (iterZ m (j + 1) x))) (by exact rfl) ?_
  refine o_extract (Iv ((iterZ m j x) % m.mod)) gn rfl rfl ?_
  refine o_alloc 101 [Fv, Zv] gn f15_ rfl rfl rfl ?_
  refine o_store [(101, oZ 90 .u32 (iterZ m (j + 1) x)), (2, oM 24 m), (50, .row 90 2 (gcells cW (orbL m x (j + 1))))] gn f19_ rfl rfl rfl rfl rfl rfl ?_
  refine o_as (Iv ((iterZ m j x) % m.mod)) rfl ?_
  refine aops_end ⟨by kernel_rfl, ?_⟩
  refine hK5 _ (awp_region rfl (o_mv (.row 50) rfl ?_))
  refine o_loadA [bp ((iterZ m (j + 1) x) < 0), .sl 1 (ns .u32 (digs (iterZ m (j + 1) x).natAbs))] gn f20_ rfl rfl rfl rfl rfl ?_
  refine o_buildSlice 102 (gcells cW ([iterZ m (j + 1) x])) [(0, [bp ((iterZ m (j + 1) x) < 0), .sl 1 (ns .u32 (digs (iterZ m (j + 1) x).natAbs))])] gn f108_ rfl f15_ rfl rfl rfl rfl rfl rfl rfl ?_
  refine g_append cW 103 (orbL m x (j + 1)) ([iterZ m (j + 1) x]) [(102, .row 90 2 (gcells cW ([iterZ m (j + 1) x]))), (101, oZ 90 .u32 (iterZ m (j + 1) x)), (2, oM 24 m)] cW_len rfl gn f108_ f15_ rfl rfl rfl rfl rfl (by simp only [List.length_append, List.length_cons, List.length_nil]; omega) (by simp only [List.length_append, List.length_cons, List.length_nil]; omega) rfl rfl ?_
  refine o_as (.row 103) rfl (aops_end ?_)
  refine ⟨_, _, ?lt, ⟨j + 1, (by omega), rfl, rfl⟩, ?wk⟩
  case lt => omega
  case wk => exact Wk.trans (Wk.sub (σ' := ⟨[(2, Nv n), (3, .ref 2 0), (7, .row 103)], [(2, oM 24 m), (103, .row 90 2 (gcells cW ((orbL m x (j + 1)) ++ ([iterZ m (j + 1) x]))))]⟩) ⟨rfl, rfl, rfl, trivial⟩ ⟨rfl, rfl, trivial⟩) (Wk.trans (Wk.ren (id := 103) (id' := 50) rfl) (Wk.sub ⟨rfl, rfl, (by first | rfl | simp), trivial⟩ ⟨rfl, (by first | rfl | exact row_ns (by simp) | (first | exact row_gs' (orbL_s m x _) | exact row_gs' (by rfl) | exact row_gs' (by rw [show j + 1 = n by omega]))), trivial⟩))
 ·refine awp_exit ?_
  refine hK2 _ (awp_seq fun K6 hK6 => awp_region rfl (o_as (Nv 0) rfl ?_))
  refine n_as (v' := (Nv (leastI (orbL m x n) 0))) (by exact congrArg (nm _) (by first | rfl | exact (least_y (cmpZ_lt.1 (by assumption))).symm)) ?_
  refine aops_end (hK6 _ (awp_seq fun K7 hK7 => awp_seq fun K8 hK8 => awp_region rfl (o_mv (.row 50) rfl ?_)))
  refine g_lenRow cW (orbL m x (j + 1)) cW_len gn f107_ rfl rfl ?_
  refine n_as (v' := (Nv n)) (congrArg (nm _) (by rw [orbL_len]; omega)) ?_
  refine o_mv (Nv 0) rfl (aops_end (hK8 _ ?_))
  refine awp_block ?_
  refine awp_loopR (fun κ σ => ∃ (i : Nat), (i ≤ n) ∧ (n - i) = κ ∧ σ = ⟨[(7, .row 50), (10, Nv (leastI (orbL m x n) i)), (34, Nv n), (35, Nv i)], [(50, .row 90 2 (gcells cW (orbL m x n)))]⟩) ⟨_, _, ⟨0, (by omega), rfl, rfl⟩, ?wk1⟩ ?rd1
  case wk1 =>
   exact Wk.sub ⟨rfl, (by first | rfl | exact nm_int (by omega)), rfl, (by first | rfl | exact nm_int (by omega)), trivial⟩ ⟨(by first | rfl | exact row_ns (by simp) | (first | exact row_gs' (orbL_s m x _) | exact row_gs' (by rfl) | exact row_gs' (by rw [show j + 1 = n by omega]))), trivial⟩
  rintro κ _ ⟨i, hi, rfl, rfl⟩
  have k1 := orbL_len m x n
  have k3 := least_lt (l := orbL m x n) (by omega) i (by omega)
  refine awp_seq fun K9 hK9 => awp_region rfl ?_
  refine n_lss i n gn rfl rfl ?_
  refine aops_end (hK9 _ (awp_seq fun K10 hK10 => ?_))
  refine awp_condQ (q := i < n) rfl (fun h2 => ?_) (fun h2 => ?_)
  ·refine awp_skip (hK10 _ (awp_seq fun K11 hK11 => ?_))
   refine awp_block ?_
   refine awp_seq fun K12 hK12 => awp_region rfl (o_mv (Nv i) rfl (o_as (Nv i) rfl (aops_end (hK12 _ (awp_seq fun K13 hK13 => awp_regionD rfl (o_mv (.row 50) rfl (o_mv (Nv i) rfl ?_)))))))
   refine g_indexRow cW (orbL m x n) i cW_len rfl gn f108_ rfl rfl rfl (by omega) ?_
   refine g_loadRowA cW (orbL m x n) i default cW_len gn f20_ rfl rfl (by omega) ?_
   refine o_mv (.row 50) rfl (o_mv (Nv (leastI (orbL m x n) i)) rfl ?_)
   refine g_indexRow cW (orbL m x n) (leastI (orbL m x n) i) cW_len rfl gn f108_ rfl rfl rfl (by omega) ?_
   refine g_loadRowA cW (orbL m x n) (leastI (orbL m x n) i) default cW_len gn f20_ rfl rfl (by omega) ?_
   refine o_ct (c_wCmp ((orbL m x n).getD i default) ((orbL m x n).getD (leastI (orbL m x n) i) default)) gn f112_ rfl ?_
   refine o_lss (a := (cmpZ ((orbL m x n).getD i default) ((orbL m x n).getD (leastI (orbL m x n) i) default))) (c := ((0 : Nat) : Int)) gn rfl rfl ?_
   refine aops_end ⟨by kernel_rfl, ?_⟩
   refine hK13 _ ?_
   refine awp_condQ (q := (cmpZ ((orbL m x n).getD i default) ((orbL m x n).getD (leastI (orbL m x n) i) default)) < ((0 : Nat) : Int)) rfl (fun h3 => ?_) (fun h3 => ?_)
   ·refine awp_region rfl (o_mv (Nv i) rfl (o_as (Nv i) rfl ?_))
    refine n_as (v' := (Nv (leastI (orbL m x n) (i + 1)))) (by exact congrArg (nm _) (by first | rfl | exact (least_y (cmpZ_lt.1 (by assumption))).symm)) ?_
    refine aops_end (hK11 _ (awp_region rfl ?_))
    refine n_add i 1 gn rfl rfl (by simp only [topOf]; omega) ?_
    refine o_mv (Nv (i + 1)) rfl (aops_end ?_)
    refine ⟨_, _, ?lt, ⟨i + 1, (by omega), rfl, rfl⟩, ?wk⟩
    case lt => omega
    case wk => exact Wk.sub ⟨rfl, (by first | rfl | exact nm_int (by omega)), rfl, (by first | rfl | exact nm_int (by omega)), trivial⟩ ⟨rfl, trivial⟩
   ·refine awp_wk (Wk.slot (i := 10) (y := (Nv (leastI (orbL m x n) (i + 1)))) (AV.le_eq (by exact congrArg (nm _) (least_n (fun e => absurd (cmpZ_lt.2 e) (by assumption))).symm))) ?_
    refine awp_skip (hK11 _ (awp_region rfl ?_))
    refine n_add i 1 gn rfl rfl (by simp only [topOf]; omega) ?_
    refine o_mv (Nv (i + 1)) rfl (aops_end ?_)
    refine ⟨_, _, ?lt, ⟨i + 1, (by omega), rfl, rfl⟩, ?wk⟩
    case lt => omega
    case wk => exact Wk.sub ⟨rfl, (by first | rfl | exact nm_int (by omega)), rfl, (by first | rfl | exact nm_int (by omega)), trivial⟩ ⟨rfl, trivial⟩
  ·refine awp_exit ?_
   refine hK7 _ (awp_seq fun K14 hK14 => ?_)
   refine awp_wk (σ' := ⟨[(7, .row 50), (10, Nv (leastI (orbL m x n) i)), (35, Nv i)], [(50, .row 90 2 (gcells cW (orbL m x n)))]⟩) (Wk.sub ⟨rfl, rfl, rfl, trivial⟩ ⟨rfl, trivial⟩) ?_
   refine awp_wk (σ' := ⟨[(7, .sl 2 (gcells cW (orbL m x n))), (10, Nv (leastI (orbL m x n) i)), (35, Nv i)], []⟩) (Wk.freeze (id := 50) (e := 90) (sz := 2) (cs := (gcells cW (orbL m x n))) rfl) ?_
   refine awp_regionD rfl (o_mv (.sl 2 (gcells cW (orbL m x n))) rfl (o_mv (Nv (leastI (orbL m x n) i)) rfl ?_))
   refine g_slice cW (orbL m x n) (leastI (orbL m x n) i) ((orbL m x n).length) cW_len gn f108_ rfl (lo_nm rfl) rfl trivial (by omega) (by omega) ?_
   refine o_callM 701 [.sl 2 (gcells cW (((orbL m x n).drop (leastI (orbL m x n) i)).take ((orbL m x n).length - leastI (orbL m x n) i)))] gn f113_ rfl (c_cloneW (((orbL m x n).drop (leastI (orbL m x n) i)).take ((orbL m x n).length - leastI (orbL m x n) i)) (by simp only [List.length_take, List.length_drop]; omega) (by simp only [List.length_take, List.length_drop]; omega)) rfl ?_
   refine o_mv (.sl 2 (gcells cW (orbL m x n))) rfl (o_mv (Nv (leastI (orbL m x n) i)) rfl ?_)
   refine g_slice cW (orbL m x n) 0 (leastI (orbL m x n) i) cW_len gn f108_ rfl rfl (hi_nm rfl) trivial (by omega) (by omega) ?_
   refine g_appendSl cW 201 (((orbL m x n).drop (leastI (orbL m x n) i)).take ((orbL m x n).length - leastI (orbL m x n) i)) (((orbL m x n).drop 0).take (leastI (orbL m x n) i - 0)) [] cW_len rfl gn f108_ f15_ rfl rfl rfl rfl (by simp only [List.length_append, List.length_take, List.length_drop]; omega) (by simp only [List.length_append, List.length_take, List.length_drop]; omega) rfl rfl ?_
   refine o_as (.row 201) rfl ?_
   refine aops_end ⟨by kernel_rfl, ?_⟩
   refine hK14 _ ?_
   refine awp_wk (σ' := ⟨[(6, .row 201)], [(201, .row 90 2 (gcells cW ((((orbL m x n).drop (leastI (orbL m x n) i)).take ((orbL m x n).length - leastI (orbL m x n) i)) ++ (((orbL m x n).drop 0).take (leastI (orbL m x n) i - 0)))))]⟩) (Wk.sub ⟨rfl, trivial⟩ ⟨rfl, trivial⟩) ?_
   refine awp_wk (σ' := ⟨[(6, .sl 2 (gcells cW ((((orbL m x n).drop (leastI (orbL m x n) i)).take ((orbL m x n).length - leastI (orbL m x n) i)) ++ (((orbL m x n).drop 0).take (leastI (orbL m x n) i - 0)))))], []⟩) (Wk.freeze (id := 201) (e := 90) (sz := 2) (cs := (gcells cW ((((orbL m x n).drop (leastI (orbL m x n) i)).take ((orbL m x n).length - leastI (orbL m x n) i)) ++ (((orbL m x n).drop 0).take (leastI (orbL m x n) i - 0))))) rfl) ?_
   refine awp_ret ?_
   refine post_ret ⟨[.sl 2 (gcells cW ((((orbL m x n).drop (leastI (orbL m x n) i)).take ((orbL m x n).length - leastI (orbL m x n) i)) ++ (((orbL m x n).drop 0).take (leastI (orbL m x n) i - 0))))], ⟨AV.le_refl _, trivial⟩, rfl, ?_⟩
   have hin : i = n := by omega
   subst hin
   exact gs_as (((congrArg (fun q => rotL (orbL m x i) (leastI (orbL m x i) q)) k1).trans rfl).trans (rot_cut _ (by omega)).symm)

end Go.Proofs.YtdmkejloknejdaaGreatDoor

namespace Go.Mth
open Go Go.Ab
structure Fal where
 steps : Int
 rest : Int
 lmul : ByteArray
 ladd : ByteArray
 ldiv : ByteArray
 bound : ByteArray
 deriving Inhabited, DecidableEq
def cL (f : Fal) : List AV := [.lit (.int .i64 f.steps), .lit (.int .i64 f.rest), .lit (.string f.lmul), .lit (.string f.ladd), .lit (.string f.ldiv), .lit (.string f.bound)]
def falV (f : Fal) : AV := .agg (cL f)
def zFal : Fal := ⟨0, 0, noS, noS, noS, noS⟩
def bndZ (l : LinZ) : Int := l.add / (l.div - l.mul)
def falO (s r : Int) (l : LinZ) : Fal := ⟨s, r, txt l.mul, txt l.add, txt l.div, txt (bndZ l)⟩
def fallsW (m : MapM) (w : List Int) : Prop := (lineZ m w).mul < (lineZ m w).div
instance (m : MapM) (w : List Int) : Decidable (fallsW m w) := by unfold fallsW; infer_instance
def ffal (m : MapM) (z : Int) : Nat → Nat
 | 0 => 0
 | k + 1 => if ffal m z k ≠ 0 then ffal m z k else if fallsW m (wordZ m z (k + 1)) then k + 1 else 0
def fndF (m : MapM) (z : Int) (k : Nat) : Fal := if ffal m z k = 0 then zFal else falO (ffal m z k) (z % m.mod ^ ffal m z k) (lineZ m (wordZ m z (ffal m z k)))
def fndB (m : MapM) (z : Int) (k : Nat) : Prop := ffal m z k ≠ 0
instance (m : MapM) (z : Int) (k : Nat) : Decidable (fndB m z k) := by unfold fndB; infer_instance
def mayS (m : MapM) (k : Int) : Prop := freeM m ∧ 1 ≤ k ∧ m.mod ^ k.toNat ≤ 65536
noncomputable instance (m : MapM) (k : Int) : Decidable (mayS m k) := Classical.propDecidable _
noncomputable def chkE (m : MapM) (k : Int) : Nat := if okM m = true then (if mayS m k then 0 else 2) else 1
theorem may_16 {m : MapM} (hm : OkM m) {k : Nat} (h : m.mod ^ k ≤ 65536) : k ≤ 16 := by
 refine Decidable.byContradiction fun e => ?_
 have h1 : (2 : Int) ^ k ≤ m.mod ^ k := by
  have a : (2 : Int) = ((2 : Nat) : Int) := rfl
  have b : m.mod = ((m.mod.toNat : Nat) : Int) := (Int.toNat_of_nonneg (by have := hm.1; omega)).symm
  rw [a, b, ← Int.natCast_pow, ← Int.natCast_pow]
  have : (2 : Nat) ^ k ≤ m.mod.toNat ^ k := Nat.pow_le_pow_left (by have := hm.1; omega) k
  omega
 have h2 : (2 : Nat) ^ 17 ≤ 2 ^ k := Nat.pow_le_pow_right (by decide) (by omega)
 have h3 : ((2 : Nat) ^ k : Nat) = ((2 : Int) ^ k) := by rw [Int.natCast_pow]; rfl
 have h4 : (2 : Nat) ^ 17 = 131072 := by decide
 omega
theorem pow_le_of {m : MapM} (hm : OkM m) {j k : Nat} (h : j ≤ k) : m.mod ^ j ≤ m.mod ^ k := by
 have b : m.mod = ((m.mod.toNat : Nat) : Int) := (Int.toNat_of_nonneg (by have := hm.1; omega)).symm
 rw [b, ← Int.natCast_pow, ← Int.natCast_pow]
 have : m.mod.toNat ^ j ≤ m.mod.toNat ^ k := Nat.pow_le_pow_right (by have := hm.1; omega) h
 omega
theorem chk_1 {m : MapM} {k : Int} (h : ¬ okM m = true) : chkE m k = 1 := if_neg h
theorem chk_2 {m : MapM} {k : Int} (h : okM m = true) (h2 : ¬ mayS m k) : chkE m k = 2 := (if_pos h).trans (if_neg h2)
theorem chk_0 {m : MapM} {k : Int} (h : okM m = true) (h2 : mayS m k) : chkE m k = 0 := (if_pos h).trans (if_pos h2)
theorem may_big {m : MapM} {k : Int} {i : Nat} (hm : OkM m) (h : 65536 < m.mod ^ (i + 1)) (hi : ((i : Nat) : Int) < k) : ¬ mayS m k := fun e => by
 have := pow_le_of hm (j := i + 1) (k := k.toNat) (by omega)
 have := e.2.2
 omega
noncomputable def fdE (m : MapM) (a : ByteArray) (k : Int) : Nat := if okM m = true ∧ okS a = true then chkE m k else 1
noncomputable def fdF (m : MapM) (a : ByteArray) (k : Int) : Fal := if fdE m a k = 0 then fndF m (numS a) k.toNat else zFal
def fdB (m : MapM) (a : ByteArray) (k : Int) : Prop := fdE m a k = 0 ∧ fndB m (numS a) k.toNat
noncomputable instance (m : MapM) (a : ByteArray) (k : Int) : Decidable (fdB m a k) := Classical.propDecidable _
noncomputable def rstN (m : MapM) (k : Int) : Int := if 1 ≤ k ∧ m.mod ^ k.toNat ≤ 65536 then m.mod ^ k.toNat else 0
theorem rst_big {m : MapM} {k : Int} {i : Nat} (hm : OkM m) (h : 65536 < m.mod ^ (i + 1)) (hi : ((i : Nat) : Int) < k) : rstN m k = 0 := if_neg fun e => by
 have := pow_le_of hm (j := i + 1) (k := k.toNat) (by omega)
 omega
def fln (m : MapM) (z : Int) (k : Nat) : LinZ := lineZ m (wordZ m z (if ffal m z k = 0 then k else ffal m z k))
end Go.Mth

namespace Go.Proofs
open Go.Shelf
def Tryz.sortW_ren : Go.Shelf.Ren := ⟨fun | 6 => 53 | 15 => 99 | 14 => 98 | 28 => 129 | 29 => 130 | 20 => 121 | 21 => 122 | 22 => 123 | 23 => 124 | 24 => 125 | 25 => 126 | 26 => 127 | 27 => 128 | 46 => 145 | 47 => 146 | 48 => 147 | 49 => 148 | 50 => 149 | 57 => 162 | n => n, fun | 22 => 84 | 24 => 96 | 25 => 99 | 3 => 3 | 39 => 151 | 0 => 0 | 53 => 145 | 55 => 144 | 4 => 4 | 46 => 175 | 45 => 174 | 50 => 166 | 5 => 5 | 9 => 9 | 66 => 192 | 70 => 196 | 76 => 208 | 77 => 209 | n => n, fun | n => n⟩
theorem Tryz.sortW : Go.Proofs.SlLaysF.n6 Tryz.prog Tryz.sortW_ren := {
 mixed := by kernel_rfl
 f6 := ⟨Tryz.f53.name, by decide, Tryz.func53.trans (congrArg some (by kernel_rfl))⟩
 f14 := ⟨Tryz.f98.name, by decide, Tryz.func98.trans (congrArg some (by kernel_rfl))⟩
 f15 := Tryz.func99.trans (congrArg some (by kernel_rfl))
 f20 := ⟨Tryz.f121.name, by decide, Tryz.func121.trans (congrArg some (by kernel_rfl))⟩
 f21 := ⟨Tryz.f122.name, by decide, Tryz.func122.trans (congrArg some (by kernel_rfl))⟩
 f22 := ⟨Tryz.f123.name, by decide, Tryz.func123.trans (congrArg some (by kernel_rfl))⟩
 f23 := ⟨Tryz.f124.name, by decide, Tryz.func124.trans (congrArg some (by kernel_rfl))⟩
 f24 := ⟨Tryz.f125.name, by decide, Tryz.func125.trans (congrArg some (by kernel_rfl))⟩
 f25 := ⟨Tryz.f126.name, by decide, Tryz.func126.trans (congrArg some (by kernel_rfl))⟩
 f26 := ⟨Tryz.f127.name, by decide, Tryz.func127.trans (congrArg some (by kernel_rfl))⟩
 f27 := ⟨Tryz.f128.name, by decide, Tryz.func128.trans (congrArg some (by kernel_rfl))⟩
 f28 := Tryz.func129.trans (congrArg some (by kernel_rfl))
 f29 := Tryz.func130.trans (congrArg some (by kernel_rfl))
 f46 := ⟨Tryz.f145.name, by decide, Tryz.func145.trans (congrArg some (by kernel_rfl))⟩
 f47 := Tryz.func146.trans (congrArg some (by kernel_rfl))
 f48 := Tryz.func147.trans (congrArg some (by kernel_rfl))
 f49 := ⟨Tryz.f148.name, by decide, Tryz.func148.trans (congrArg some (by kernel_rfl))⟩
 f50 := ⟨Tryz.f149.name, by decide, Tryz.func149.trans (congrArg some (by kernel_rfl))⟩
 f57 := ⟨Tryz.f162.name, by decide, Tryz.func162.trans (congrArg some (by kernel_rfl))⟩
 t0 := Tryz.underlying0
 a0 := Tryz.isAgg0
 z0 := Tryz.sizeOf0
 v0 := Tryz.zeroValue0
 t3 := Tryz.underlying3
 a3 := Tryz.isAgg3
 z3 := Tryz.sizeOf3
 v3 := Tryz.zeroValue3
 t4 := Tryz.underlying4
 a4 := Tryz.isAgg4
 z4 := Tryz.sizeOf4
 v4 := Tryz.zeroValue4
 t5 := Tryz.underlying5
 a5 := Tryz.isAgg5
 z5 := Tryz.sizeOf5
 v5 := Tryz.zeroValue5
 t9 := Tryz.underlying9
 a9 := Tryz.isAgg9
 z9 := Tryz.sizeOf9
 v9 := Tryz.zeroValue9
 t22 := Tryz.underlying84
 a22 := Tryz.isAgg84
 z22 := Tryz.sizeOf84
 v22 := Tryz.zeroValue84
 a24 := Tryz.isAgg96
 z24 := Tryz.sizeOf96
 t25 := Tryz.underlying99
 a25 := Tryz.isAgg99
 z25 := Tryz.sizeOf99
 v25 := Tryz.zeroValue99
 t39 := Tryz.underlying151
 a39 := Tryz.isAgg151
 z39 := Tryz.sizeOf151
 v39 := Tryz.zeroValue151
 t45 := Tryz.underlying174
 a45 := Tryz.isAgg174
 z45 := Tryz.sizeOf174
 v45 := Tryz.zeroValue174
 t46 := Tryz.underlying175
 a46 := Tryz.isAgg175
 z46 := Tryz.sizeOf175
 v46 := Tryz.zeroValue175
 t50 := Tryz.underlying166
 a50 := Tryz.isAgg166
 z50 := Tryz.sizeOf166
 v50 := Tryz.zeroValue166
 t53 := Tryz.underlying145
 a53 := Tryz.isAgg145
 z53 := Tryz.sizeOf145
 v53 := Tryz.zeroValue145
 t55 := Tryz.underlying144
 a55 := Tryz.isAgg144
 z55 := Tryz.sizeOf144
 v55 := Tryz.zeroValue144
 t66 := Tryz.underlying192
 a66 := Tryz.isAgg192
 z66 := Tryz.sizeOf192
 v66 := Tryz.zeroValue192
 t70 := Tryz.underlying196
 a70 := Tryz.isAgg196
 z70 := Tryz.sizeOf196
 v70 := Tryz.zeroValue196
 t76 := Tryz.underlying208
 a76 := Tryz.isAgg208
 z76 := Tryz.sizeOf208
 v76 := Tryz.zeroValue208
 t77 := Tryz.underlying209
 a77 := Tryz.isAgg209
 z77 := Tryz.sizeOf209
 v77 := Tryz.zeroValue209 }
end Go.Proofs

namespace Go.Mth
open Go.Ab
def hdL (l : List Int) : Int := l.getD 0 default
def insK (x : List Int) : List (List Int) → List (List Int)
 | [] => [x]
 | y :: l => if hdL x ≤ hdL y then x :: y :: l else y :: insK x l
def sortK (l : List (List Int)) : List (List Int) := l.foldr insK []
theorem insK_perm (x : List Int) : ∀ l, (insK x l).Perm (x :: l)
 | [] => List.Perm.refl _
 | y :: l => by
  rw [insK]
  split
  ·exact List.Perm.refl _
  ·exact ((insK_perm x l).cons y).trans (List.Perm.swap x y l)
theorem sortK_perm : ∀ l, (sortK l).Perm l
 | [] => List.Perm.refl _
 | x :: l => (insK_perm x _).trans ((sortK_perm l).cons x)
theorem insK_srt (x : List Int) : ∀ l : List (List Int), l.Pairwise (fun a b => hdL a ≤ hdL b) → (insK x l).Pairwise (fun a b => hdL a ≤ hdL b)
 | [], _ => by simp [insK]
 | y :: l, h => by
  obtain ⟨h1, h2⟩ := List.pairwise_cons.1 h
  rw [insK]
  split
  ·rename_i e
   refine List.pairwise_cons.2 ⟨fun b hb => ?_, h⟩
   rcases List.mem_cons.1 hb with q | q
   ·rw [q]; exact e
   ·have := h1 b q; omega
  ·rename_i e
   refine List.pairwise_cons.2 ⟨fun b hb => ?_, insK_srt x l h2⟩
   rcases List.mem_cons.1 ((insK_perm x l).mem_iff.1 hb) with q | q
   ·rw [q]; omega
   ·exact h1 b q
theorem sortK_srt : ∀ l : List (List Int), (sortK l).Pairwise (fun a b => hdL a ≤ hdL b)
 | [] => List.Pairwise.nil
 | x :: l => insK_srt x _ (sortK_srt l)
theorem sortK_uniq {l l' : List (List Int)} (hp : l'.Perm l) (hs : l'.Pairwise (fun a b => hdL a ≤ hdL b)) (hinj : ∀ a ∈ l, ∀ b ∈ l, hdL a = hdL b → a = b) : l' = sortK l :=
 List.Perm.eq_of_pairwise (fun a b ha hb h1 h2 => hinj a (hp.mem_iff.1 ha) b ((sortK_perm l).mem_iff.1 hb) (Int.le_antisymm h1 h2)) hs (sortK_srt l) (hp.trans (sortK_perm l).symm)
end Go.Mth
namespace Go.Ab
open Go.RowKit Go.Mth Go.Sort
abbrev TldV (H : Heap) : Type := { p : List Int × Value // p.1 ≠ [] ∧ RepV H (.sl 2 (gcells cW p.1)) noLoc p.2 }
theorem told_ex {H : Heap} : ∀ (ls : List (List Int)) (vs : List Value), RepL H (gcells cV ls) noLoc vs → (∀ l ∈ ls, l ≠ []) → ∃ ds : List (TldV H), ds.map (fun p => p.1.1) = ls ∧ ds.map (fun p => p.1.2) = vs
 | [], vs, h, _ => by
  simp only [gcells, List.flatMap_nil, RepL] at h
  exact ⟨[], rfl, by rw [h]; rfl⟩
 | l :: ls, vs, h, hne => by
  have h' : RepL H (AV.sl 2 (gcells cW l) :: gcells cV ls) noLoc vs := h
  rw [RepL] at h'
  obtain ⟨v, r, rfl, h1, h2⟩ := h'
  obtain ⟨ds, e1, e2⟩ := told_ex ls r h2 fun x hx => hne x (by simp [hx])
  exact ⟨⟨(l, v), hne l (by simp), h1⟩ :: ds, by simp [e1], by simp [e2]⟩
theorem told_rep {H : Heap} : ∀ ds : List (TldV H), RepL H (gcells cV (ds.map fun p => p.1.1)) noLoc (ds.map fun p => p.1.2)
 | [] => by simp [gcells, RepL]
 | p :: ds => by
  show RepL H (AV.sl 2 (gcells cW p.1.1) :: gcells cV (ds.map fun p => p.1.1)) noLoc (p.1.2 :: ds.map fun p => p.1.2)
  rw [RepL]
  exact ⟨_, _, rfl, p.2.2, told_rep ds⟩
theorem told_one {H : Heap} (p : TldV H) : p.1.2.oneCell' = true := by
 have h := p.2.2
 simp only [RepV] at h
 obtain ⟨A, n, cap, e, _⟩ := h
 rw [e]; rfl
theorem heap_putRow_other {α : Type} [Inhabited α] (enc : α → Value) (w : World) (g off : Nat) (d : Array α) {k : Nat} (hk : k ≠ g) : (putRow enc w g off d).heap[k]? = w.heap[k]? := by
 simp only [putRow, mapBlock, Array.getElem?_modify]
 rw [if_neg (fun e => hk e.symm)]
theorem heap_putRow_same {α : Type} [Inhabited α] (enc : α → Value) (w : World) (g off : Nat) (d : Array α) {cur : Array Value} {e : TypeId} {fr : Nat × Nat} (h : w.heap[g]? = some (.cells cur e fr)) : (putRow enc w g off d).heap[g]? = some (.cells (putCells enc off d cur) e fr) := by
 simp only [putRow, mapBlock, Array.getElem?_modify]
 rw [if_pos trivial, h]; rfl
theorem heap_grow {w : World} {os : Array Obj} {k : Nat} (hk : k < w.heap.size) : (grow w os).heap[k]? = w.heap[k]? := by
 simp only [grow]
 rw [Array.getElem?_append_left hk]
theorem SWO_hd {α : Type} (f : α → Int) : SWO (Proofs.ltOf fun x y => cmpZ (f x) (f y)) := by
 have e : ∀ x y : α, Proofs.ltOf (fun x y => cmpZ (f x) (f y)) x y = decide (f x < f y) := fun x y => by unfold Proofs.ltOf; exact decide_eq_decide.2 cmpZ_lt
 exact ⟨fun x => by rw [e]; simp, fun x y z h1 h2 => by rw [e] at *; simp at *; omega, fun x y z h1 h2 => by rw [e] at *; simp at *; omega⟩
end Go.Ab
namespace Go.Proofs.YtdmkejloknejdaaGreatDoor
open Go Go.Ab Go.Mth Go.RowKit Go.Sort
def LessOk (f : FuncId) : Prop := ∀ a b : List Int, a ≠ [] → b ≠ [] → ECalls cx f [.sl 2 (gcells cW a), .sl 2 (gcells cW b)] (.lit (.int .i64 (cmpZ (hdL a) (hdL b))))
theorem cmp_lays {f : FuncId} (hf : LessOk f) {H : Heap} [Inhabited (TldV H)] {w : World} (hG : cx.G H) (hH : ∀ b o, H b = some o → w.heap[b]? = some o) {g off size : Nat} (hg : H g = none) :
  CmpLays1 Tryz.prog f #[] (fun p : TldV H => p.1.2) (fun x y => cmpZ (hdL x.1.1) (hdL y.1.1)) g off size w := fun mm os dk hdk x y => by
 have hW : ∀ b o, H b = some o → (sortWorld (fun p : TldV H => p.1.2) w g off mm dk os).heap[b]? = some o := fun b o hb => by
  have hlt := (Array.getElem?_eq_some_iff.1 (hH b o hb)).1
  have hne : b ≠ g := fun e => by rw [e, hg] at hb; cases hb
  unfold sortWorld
  rw [heap_grow (by rw [size_putRow]; exact hlt), heap_putRow_other _ _ _ _ _ hne]
  exact hH b o hb
 have h := hf x.1.1 y.1.1 x.2.1 y.2.1 H noLoc [x.1.2, y.1.2] _ hG hW (RepL.cons x.2.2 (RepL.cons y.2.2 (by simp [RepL])))
 refine Calls.mono h ?_
 rintro e w' ⟨H', v, rfl, hv, _, _, hb⟩
 simp only [RepV] at hv
 subst hv
 obtain ⟨p, hp⟩ := regrown_of_below hb.low
 refine ⟨rfl, p.d - (sortWorld (fun p : TldV H => p.1.2) w g off mm dk os).drawn, p.os, ?_⟩
 have hd := hb.drawn
 rw [hp] at hd ⊢
 have hd' : (sortWorld (fun p : TldV H => p.1.2) w g off mm dk os).drawn ≤ p.d := hd
 unfold World.drewN redrawn
 rw [Nat.add_sub_cancel' hd']
theorem c_sort (mk : List Deferred) {f : FuncId} (hf : LessOk f) (hfc : callable cx.P f = true) {n : Nat} {so : List (Nat × AV)} {m m' : List (Nat × AO)} (id : Nat) (ls : List (List Int)) (ho : lookO m id = some (.row 96 1 (gcells cV ls)))
  (hm : ∀ i, lookO m' i = if i = id then some (.row 96 1 (gcells cV (sortK ls))) else lookO m i) (hne : ∀ l ∈ ls, l ≠ []) (hinj : ∀ a ∈ ls, ∀ b ∈ ls, hdL a = hdL b → a = b) (hlen : ls.length ≤ 1000000) :
  SCalls { cx with marks := mk } n 53 [.row id, .clo f []] so m (.tup []) m' := by
 intro w0 H L a w vals hr hra
 simp only [RepL, RepV] at hra
 obtain ⟨v, _, rfl, ⟨hl, hv1⟩, _, _, rfl, ⟨vs0, rfl, rfl⟩, rfl⟩ := hra
 obtain ⟨v', vs, k, hl', hlen', hown, hrl, h1c, hsz, hmx, hH⟩ := hr.objs id _ ho
 rw [hl] at hl'
 cases hl'
 rw [gcells_len cV_len] at hlen'
 have hk : k = ls.length := by omega
 subst hk
 by_cases hls : ls = []
 ·subst hls
  have hv : ∃ p cap, v = .slice p 0 cap := by
   rcases hown.2 with ⟨rfl, _⟩ | ⟨g, cap, cur, rfl, _⟩
   ·exact ⟨none, 0, rfl⟩
   ·exact ⟨some ⟨g, 0, none⟩, cap, rfl⟩
  obtain ⟨p, cap, rfl⟩ := hv
  have h := AnyF.slices_SortFunc_none (P := Tryz.prog) (ρ := Tryz.sortW_ren) { Tryz.sortW with } p cap (.func (.func f) #[] #[]) w
  refine Calls.mono h ?_
  rintro e w' ⟨rfl, rfl⟩
  refine ⟨.tuple #[], H, L, rfl, Ext.refl _ _, by simp only [RepV]; exact ⟨[], rfl, by simp [RepL]⟩, ?_⟩
  exact hr.fewer (μ := lookO m') fun i o hi => by
   rw [hm i] at hi
   by_cases hid : i = id
   ·subst hid; rw [if_pos rfl] at hi; rw [← hi]; exact ho
   ·rw [if_neg hid] at hi; exact hi
 ·rcases hown.2 with ⟨rfl, hk0⟩ | ⟨g, cap, cur, rfl, hB, hh, hnc, hcm, hcs, htake⟩
  ·exact absurd (List.eq_nil_of_length_eq_zero hk0) hls
  obtain ⟨ds, e1, e2⟩ := told_ex ls vs hrl hne
  have hdl : ds.length = ls.length := by rw [← e1, List.length_map]
  obtain ⟨x0, _, hx0⟩ : ∃ x l, ds = x :: l := by
   cases ds with
   | nil => exact absurd (by rw [← e1]; rfl) hls
   | cons x l => exact ⟨x, l, rfl⟩
  haveI : Inhabited (TldV H) := ⟨x0⟩
  have hgn : H g = none := hH g rfl
  have hglt := (Array.getElem?_eq_some_iff.1 hh).1
  have hget : ∀ (j : Nat), j < ds.length → vs[j]? = some (ds.toArray[j]!).1.2 := fun j hj => by
   have e8 : ds.toArray[j]! = ds[j] := by
    rw [getElem!_pos ds.toArray j (by simpa using hj)]
    exact List.getElem_toArray _
   rw [← e2, List.getElem?_map, List.getElem?_eq_getElem hj, Option.map_some, e8]
  have hHd : Holds (fun p : TldV H => p.1.2) w g 0 ds.toArray := fun j hj => by
   have hj' : j < ds.length := by simpa using hj
   refine ⟨?_, by unfold World.frozen?; simp only [hh]; simp⟩
   unfold World.cell?
   simp only [hh]
   have := hget j hj'
   rw [← htake, List.getElem?_take] at this
   split at this
   ·simpa using this
   ·cases this
  have h := Any.slices_SortFunc (P := Tryz.prog) (ρ := Tryz.sortW_ren) Tryz.sortW (fun p : TldV H => p.1.2) told_one (fun x y => cmpZ (hdL x.1.1) (hdL y.1.1)) (SWO_hd fun p : TldV H => hdL p.1.1) f #[] g 0 cap ds.toArray w
   (fun args w => run_callFunc hfc args w) (cmp_lays hf hr.glob hr.heap hgn) hHd hglt (by have h9 : ds.toArray.size = ds.length := List.size_toArray; omega)
  have hsz2 : ds.toArray.size = ls.length := by simp [hdl]
  rw [hsz2] at h
  refine Calls.mono h ?_
  rintro e w' ⟨rfl, d', q, os, hp, hs, rfl⟩
  have hds : d'.size = ls.length := hp.1.trans hsz2
  have hp2 : d'.toList.Perm ds := by
   have := hp.2.2
   rw [show d'.extract 0 ls.length = d' by rw [← hds]; exact Array.extract_size, show ds.toArray.extract 0 ls.length = ds.toArray by rw [← hsz2]; exact Array.extract_size] at this
   exact this
  have hls' : d'.toList.map (fun p => p.1.1) = sortK ls := by
   refine sortK_uniq (by rw [← e1]; exact hp2.map _) ?_ hinj
   rw [List.pairwise_map, List.pairwise_iff_getElem]
   intro i j hi hj hij
   have h1 := hs i j (Nat.zero_le _) hij (by have h9 : j < d'.size := (by simpa using hj); omega)
   have e9 : ∀ x y : TldV H, Proofs.ltOf (fun x y => cmpZ (hdL x.1.1) (hdL y.1.1)) x y = decide (hdL x.1.1 < hdL y.1.1) := fun x y => by unfold Proofs.ltOf; exact decide_eq_decide.2 cmpZ_lt
   rw [e9] at h1
   have h2 := of_decide_eq_false h1
   have hi' : i < d'.size := by simpa using hi
   have hj' : j < d'.size := by simpa using hj
   rw [getElem!_pos d' i hi', getElem!_pos d' j hj'] at h2
   simp only [Array.getElem_toList]
   omega
  have hrl' := told_rep d'.toList
  rw [hls'] at hrl'
  have hsl : (sortK ls).length = ls.length := (sortK_perm ls).length_eq
  have hw1 := hr.wrote (ob' := .row 96 1 (gcells cV (sortK ls))) ho hl rfl (w' := putRow (fun p : TldV H => p.1.2) (Sort.ahead w q) g 0 d') (fun k hk => heap_putRow_other _ _ _ _ _ hk)
   ⟨rfl, rfl, rfl, by rw [size_putRow]; exact Nat.le_refl _, fun k hk => heap_putRow_other _ _ _ _ _ (by omega), Nat.le_add_right _ _⟩
   ⟨_, d'.toList.map (fun p => p.1.2), ls.length, hl, by rw [gcells_len cV_len, hsl], ⟨by rw [List.length_map, Array.length_toList, hds, Nat.mul_one], .inr ⟨g, cap, putCells (fun p : TldV H => p.1.2) 0 d' cur, rfl, hB, heap_putRow_same _ (Sort.ahead w q) _ _ _ hh, hnc, hcm, by simp [putCells, hcs], ?_⟩⟩, hrl', fun u hu => ?_, hsz, by rw [gcells_len cV_len, hsl]; rw [gcells_len cV_len] at hmx; exact hmx, hH⟩
  ·refine ⟨.tuple #[], H, L, rfl, Ext.refl _ _, by simp only [RepV]; exact ⟨[], rfl, by simp [RepL]⟩, ?_⟩
   have hg2 := hw1.grow (Ext.refl _ _) (w' := grow (putRow (fun p : TldV H => p.1.2) (Sort.ahead w q) g 0 d') os) (fun b o hb => by rw [heap_grow (Array.getElem?_eq_some_iff.1 (hw1.heap b o hb)).1]; exact hw1.heap b o hb)
    ⟨rfl, rfl, rfl, by simp [grow], fun k hk => heap_grow hk, Nat.le_refl _⟩
   exact hg2.fewer (μ := lookO m') fun i o hi => by
    rw [hm i] at hi
    exact hi
  ·apply List.ext_getElem?
   intro j
   rw [List.getElem?_take, List.getElem?_map]
   by_cases hj : j < ls.length * 1
   ·have hj2 : j < d'.size := by omega
    have hj3 : j < cur.size := by rw [hcs]; omega
    rw [if_pos hj]
    simp only [putCells, Array.getElem?_toList, Array.getElem?_mapIdx]
    rw [Array.getElem?_eq_getElem hj3, Array.getElem?_eq_getElem hj2]
    simp only [Option.map_some]
    rw [if_pos ⟨Nat.zero_le _, by omega⟩, Nat.sub_zero, getElem!_pos d' j hj2]
   ·rw [if_neg hj, Array.getElem?_toList, Array.getElem?_eq_none (by omega)]; rfl
  ·obtain ⟨p, _, rfl⟩ := List.mem_map.1 hu
   exact told_one p
end Go.Proofs.YtdmkejloknejdaaGreatDoor

namespace Go.Mth
open Go.Ab
theorem iterZ_add (m : MapM) (x : Int) (a : Nat) : ∀ k, iterZ m k (iterZ m a x) = iterZ m (k + a) x
 | 0 => by rw [Nat.zero_add]; rfl
 | k + 1 => by rw [Nat.succ_add]; show stepZ m _ = stepZ m _; rw [iterZ_add m x a k]
theorem iterZ_per {m : MapM} {x : Int} {n : Nat} (h : iterZ m n x = x) (k : Nat) : iterZ m (k + n) x = iterZ m k x := by rw [← iterZ_add, h]
theorem iterZ_mul {m : MapM} {x : Int} {n : Nat} (h : iterZ m n x = x) : ∀ q, iterZ m (q * n) x = x
 | 0 => by rw [Nat.zero_mul]; rfl
 | q + 1 => by rw [Nat.succ_mul, iterZ_per h, iterZ_mul h q]
theorem iterZ_mod {m : MapM} {x : Int} {n : Nat} (h : iterZ m n x = x) (k : Nat) : iterZ m k x = iterZ m (k % n) x := by
 have e := Nat.div_add_mod k n
 have h2 := iterZ_add m x (n * (k / n)) (k % n)
 rw [Nat.mul_comm, iterZ_mul h] at h2
 rw [h2]; congr 1; rw [Nat.mul_comm]; omega
theorem rot_get {l : List Int} {a k : Nat} (ha : a ≤ l.length) (hk : k < l.length) : (rotL l a).getD k default = if a + k < l.length then l.getD (a + k) default else l.getD (a + k - l.length) default := by
 unfold rotL
 simp only [List.getD_eq_getElem?_getD]
 split
 ·rename_i h
  rw [List.getElem?_append_left (by rw [List.length_drop]; omega), List.getElem?_drop]
 ·rename_i h
  rw [List.getElem?_append_right (by rw [List.length_drop]; omega), List.length_drop, List.getElem?_take_of_lt (by omega)]
  congr 2; omega
theorem listI_ext {x y : List Int} (hl : x.length = y.length) (h : ∀ k, k < x.length → x.getD k default = y.getD k default) : x = y := by
 refine List.ext_getElem hl fun k h1 h2 => ?_
 have := h k h1
 simpa [List.getD_eq_getElem?_getD, List.getElem?_eq_getElem h1, List.getElem?_eq_getElem h2] using this
theorem cyc_orb {m : MapM} {x : Int} {n : Nat} (h : iterZ m n x = x) (hn : 0 < n) : cyc m x n = orbL m (iterZ m (leastI (orbL m x n) n) x) n := by
 have hl := orbL_len m x n
 have ha := least_lt (l := orbL m x n) (by omega) n (by omega)
 unfold cyc rotM
 rw [hl] at ha ⊢
 refine listI_ext (by rw [rot_len, hl, orbL_len]) fun k hk => ?_
 rw [rot_len, hl] at hk
 rw [rot_get (by omega) (by omega), hl, orbL_get hk, iterZ_add]
 split
 ·rename_i e; rw [orbL_get (by omega), Nat.add_comm]
 ·rename_i e
  rw [orbL_get (by omega), ← iterZ_per h]
  congr 1; omega
theorem cyc_len (m : MapM) (x : Int) (n : Nat) : (cyc m x n).length = n := by unfold cyc rotM; rw [rot_len, orbL_len]
def hitW (m : MapM) (w : List Int) : Prop := firstP w ∧ (fixZ m w).den = 1
instance (m : MapM) (w : List Int) : Decidable (hitW m w) := inferInstanceAs (Decidable (firstP w ∧ (fixZ m w).den = 1))
def cyT (m : MapM) (n t : Nat) : List Int := cyc m (fixZ m (wordT m.mod.toNat n t)).num n
def lsT (m : MapM) (n t : Nat) : List (List Int) := ((List.range t).filter fun t => decide (hitW m (wordT m.mod.toNat n t))).map (cyT m n)
def lpN (m : MapM) (n : Nat) : List (List Int) := sortK (lsT m n (m.mod.toNat ^ n))
def cyU (m : MapM) : Nat → List (List Int)
 | 0 => []
 | k + 1 => cyU m k ++ lpN m (k + 1)
noncomputable def lpL (m : MapM) (k : Int) : List (List Int) := if chkE m k = 0 then cyU m k.toNat else []
theorem lsT_y {m : MapM} {n t : Nat} (h1 : firstP (wordT m.mod.toNat n t)) (h2 : (fixZ m (wordT m.mod.toNat n t)).den = 1) : lsT m n t ++ [cyT m n t] = lsT m n (t + 1) := by
 have h : hitW m (wordT m.mod.toNat n t) := ⟨h1, h2⟩
 unfold lsT
 rw [List.range_succ, List.filter_append, List.filter_cons, if_pos (decide_eq_true h), List.filter_nil, List.map_append]; rfl
theorem lsT_n {m : MapM} {n t : Nat} (h : ¬ (firstP (wordT m.mod.toNat n t) ∧ (fixZ m (wordT m.mod.toNat n t)).den = 1)) : lsT m n t = lsT m n (t + 1) := by
 have h : ¬ hitW m (wordT m.mod.toNat n t) := h
 unfold lsT
 rw [List.range_succ, List.filter_append, List.filter_cons, if_neg (by simp [h]), List.filter_nil, List.append_nil]
theorem lsT_len (m : MapM) (n t : Nat) : (lsT m n t).length ≤ t := by
 unfold lsT
 rw [List.length_map]
 have := List.length_filter_le (fun t => decide (hitW m (wordT m.mod.toNat n t))) (List.range t)
 rw [List.length_range] at this
 exact this
theorem lpN_len (m : MapM) (n : Nat) : (lpN m n).length ≤ m.mod.toNat ^ n := by unfold lpN; rw [(sortK_perm _).length_eq]; exact lsT_len _ _ _
structure Loo (m : MapM) (n : Nat) (l : List Int) : Prop where
 pos : 0 < n
 back : iterZ m n (hdL l) = hdL l
 orb : l = orbL m (hdL l) n
 low : ∀ i, i < n → hdL l ≤ iterZ m i (hdL l)
 alone : ∀ i, 0 < i → i < n → iterZ m i (hdL l) ≠ hdL l
 fit : Fit (hdL l)
theorem valW_pos_rot {m : MapM} (hm : OkM m) {x : Int} {n d : Nat} (h : iterZ m n x = x) (hd : d ≤ n) : rotL (wordZ m x n) d = wordZ m (iterZ m d x) n := by
 have hl := wordZ_len m x n
 refine list_extZ (by rw [rot_len, wordZ_len, wordZ_len]) fun k hk => ?_
 rw [rot_len, hl] at hk
 have h1 := rot_get (l := wordZ m x n) (a := d) (k := k) (by omega) (by omega)
 rw [show (default : Int) = 0 from rfl] at h1
 rw [h1, hl, wordZ_get m _ _ k hk, iterZ_add]
 split
 ·rw [wordZ_get m _ _ _ (by omega), Nat.add_comm]
 ·rw [wordZ_get m _ _ _ (by omega), ← iterZ_per h]
  congr 2; omega
theorem first_alone {m : MapM} (hm : OkM m) {x : Int} {n : Nat} (h : iterZ m n x = x) (hf : firstP (wordZ m x n)) : ∀ i, 0 < i → i < n → iterZ m i x ≠ x := fun i h1 h2 e => by
 have h3 := (first_val hm (wordZ_is hm x n)).1 hf i (by rw [wordZ_len]; exact h2) h1
 rw [valW_pos_rot hm h (by omega), e] at h3
 exact absurd h3 (Int.lt_irrefl _)
theorem iter_alone {m : MapM} {x : Int} {n : Nat} (h : iterZ m n x = x) (ha : ∀ i, 0 < i → i < n → iterZ m i x ≠ x) {a : Nat} (hn : a < n) : ∀ i, 0 < i → i < n → iterZ m i (iterZ m a x) ≠ iterZ m a x := fun i h1 h2 e => by
 refine ha i h1 h2 ?_
 have e2 := congrArg (iterZ m (n - a)) e
 rw [iterZ_add, iterZ_add, iterZ_add, show n - a + a = n by omega, h, show n - a + i + a = i + n by omega, iterZ_per h] at e2
 exact e2
theorem hd_orb (m : MapM) (x : Int) {n : Nat} (hn : 0 < n) : hdL (orbL m x n) = x := by unfold hdL; rw [orbL_get hn]; rfl
theorem cyc_loo {m : MapM} (hm : OkM m) {x : Int} {n : Nat} (h : iterZ m n x = x) (hn : 0 < n) (hn2 : n ≤ 200) (ha : ∀ i, 0 < i → i < n → iterZ m i x ≠ x) {E : Nat} (hE : 6 ≤ E ∧ E ≤ 1000) (hx : x.natAbs < 10 ^ E) : Loo m n (cyc m x n) := by
 have hl := orbL_len m x n
 have hlt := least_lt (l := orbL m x n) (by omega) n (by omega)
 rw [hl] at hlt
 have hc := cyc_orb h hn
 have hh : hdL (cyc m x n) = iterZ m (leastI (orbL m x n) n) x := by rw [hc, hd_orb m _ hn]
 have hb : iterZ m n (iterZ m (leastI (orbL m x n) n) x) = iterZ m (leastI (orbL m x n) n) x := by rw [iterZ_add, Nat.add_comm, iterZ_per h]
 refine ⟨hn, by rw [hh]; exact hb, by rw [hh]; exact hc, fun i hi => ?_, fun i h1 h2 => by rw [hh]; exact iter_alone h ha hlt i h1 h2, ?_⟩
 ·rw [hh, iterZ_add, iterZ_mod h (i + leastI (orbL m x n) n)]
  have h3 := least_le (l := orbL m x n) n ((i + leastI (orbL m x n) n) % n) (Nat.mod_lt _ hn)
  rw [orbL_get hlt, orbL_get (Nat.mod_lt _ hn)] at h3
  exact h3
 ·rw [hh]
  exact fit_of_pow' (iter_abs hm hE.1 hx _) (by omega) (by omega)
theorem lsT_mem {m : MapM} (hm : OkM m) (hf : freeM m) {n t : Nat} (hn : 0 < n) (hn2 : n ≤ 100) {l : List Int} (h : l ∈ lsT m n t) : ∃ t', t' < t ∧ hitW m (wordT m.mod.toNat n t') ∧ l = cyT m n t' ∧ iterZ m n (fixZ m (wordT m.mod.toNat n t')).num = (fixZ m (wordT m.mod.toNat n t')).num ∧ wordZ m (fixZ m (wordT m.mod.toNat n t')).num n = wordT m.mod.toNat n t' ∧ Loo m n l := by
 obtain ⟨t', h1, rfl⟩ := List.mem_map.1 h
 obtain ⟨h2, h3⟩ := List.mem_filter.1 h1
 have h4 := of_decide_eq_true h3
 have hw := wordT_is hm n t'
 have hl := wordT_len m.mod.toNat n t'
 have hne : wordT m.mod.toNat n t' ≠ [] := fun e => by rw [e] at hl; simp at hl; omega
 obtain ⟨_, e1, e2⟩ := fix_int hm hf hw h4.2
 rw [hl] at e1 e2
 refine ⟨t', by simpa using h2, h4, rfl, e1, e2, cyc_loo hm e1 hn (by omega) (first_alone hm e1 (by rw [e2]; exact h4.1)) (E := 3 * n + 7) (by omega) ?_⟩
 obtain ⟨a1, _⟩ := redZ_abs (n := (lineZ m (wordT m.mod.toNat n t')).add) (line_ne hm hf hw hne)
 obtain ⟨l1, l2, l3⟩ := line_abs hm _ hw
 rw [hl] at l2
 exact Nat.lt_of_le_of_lt a1 l2
theorem loo_inj {m : MapM} {n : Nat} {a b : List Int} (ha : Loo m n a) (hb : Loo m n b) (h : hdL a = hdL b) : a = b := by rw [ha.orb, hb.orb, h]
theorem loo_len {m : MapM} {n : Nat} {l : List Int} (h : Loo m n l) : l.length = n := by rw [h.orb, orbL_len]
theorem loo_get {m : MapM} {n : Nat} {l : List Int} (h : Loo m n l) {i : Nat} (hi : i < n) : l.getD i default = iterZ m i (hdL l) := by
 have e := h.orb
 rw [congrArg (fun x : List Int => x.getD i default) e]
 exact orbL_get hi
theorem lsT_ne {m : MapM} (hm : OkM m) (hf : freeM m) {n t : Nat} (hn : 0 < n) (hn2 : n ≤ 100) : ∀ l ∈ lsT m n t, l ≠ [] := fun l hl e => by
 obtain ⟨_, _, _, _, _, _, h⟩ := lsT_mem hm hf hn hn2 hl
 have := loo_len h
 rw [e] at this; simp at this; omega
theorem lsT_inj {m : MapM} (hm : OkM m) (hf : freeM m) {n t : Nat} (hn : 0 < n) (hn2 : n ≤ 100) : ∀ a ∈ lsT m n t, ∀ b ∈ lsT m n t, hdL a = hdL b → a = b := fun a ha b hb e => by
 obtain ⟨_, _, _, _, _, _, h1⟩ := lsT_mem hm hf hn hn2 ha
 obtain ⟨_, _, _, _, _, _, h2⟩ := lsT_mem hm hf hn hn2 hb
 exact loo_inj h1 h2 e
theorem lpN_loo {m : MapM} (hm : OkM m) (hf : freeM m) {n : Nat} (hn : 0 < n) (hn2 : n ≤ 100) {l : List Int} (h : l ∈ lpN m n) : Loo m n l := by
 obtain ⟨_, _, _, _, _, _, h1⟩ := lsT_mem hm hf hn hn2 ((sortK_perm _).mem_iff.1 h)
 exact h1
theorem getD_memL {l : List (List Int)} {i : Nat} (h : i < l.length) : l.getD i default ∈ l := by rw [List.getD_eq_getElem?_getD, List.getElem?_eq_getElem h]; exact List.getElem_mem h
theorem loo_dig {m : MapM} (hm : OkM m) {n : Nat} (hn2 : n ≤ 100) {l : List Int} (h : Loo m n l) {i : Nat} (hi : i < n) : (digs (l.getD i default).natAbs).length ≤ 1000 := by
 rw [loo_get h hi]
 have := iter_len hm (hdL l) i
 have := fit_len h.fit
 omega
theorem cyU_len (m : MapM) (hm : OkM m) : ∀ k, (cyU m k).length ≤ k * m.mod.toNat ^ k
 | 0 => by simp [cyU]
 | k + 1 => by
  have h1 := cyU_len m hm k
  have h2 := lpN_len m (k + 1)
  have h3 : m.mod.toNat ^ k ≤ m.mod.toNat ^ (k + 1) := Nat.pow_le_pow_right (by have := hm.1; omega) (by omega)
  have h4 := Nat.mul_le_mul_left k h3
  rw [cyU, List.length_append, Nat.succ_mul]
  omega
theorem toNat_pw {m : MapM} (hM : OkM m) (k : Nat) : ((m.mod.toNat ^ k : Nat) : Int) = m.mod ^ k := by rw [Int.natCast_pow, Int.toNat_of_nonneg (by have := hM.1; omega)]
theorem lpL_no {m : MapM} {k : Int} (h : chkE m k ≠ 0) : lpL m k = [] := if_neg h
theorem lpL_ok {m : MapM} {k : Int} (h : chkE m k = 0) : lpL m k = cyU m k.toNat := if_pos h
theorem ns_rep (n : Nat) : ns .i64 (List.replicate n 0) = is .i64 (List.replicate n (0 : Int)) := by simp [ns, is, nm, im]
theorem wordT_0 (M : Nat) : ∀ n, wordT M n 0 = List.replicate n (0 : Int)
 | 0 => rfl
 | n + 1 => by rw [wordT, Nat.zero_div, wordT_0 M n, Nat.zero_mod, List.replicate_succ']; rfl
theorem next_tot {m : MapM} (hm : OkM m) {n t q : Nat} {w : List Int} (h : nextP m n t w q) (hq : ¬ q < n) (ht : (t : Int) < m.mod ^ n) : t + 1 = m.mod.toNat ^ n := by
 have h3 := h.2.2.1
 have e : q = n := by omega
 subst e
 have h1 := next_n hm h ht
 have h2 := toNat_pw hm q
 omega
theorem out_s {A L : List (List Int)} {i q : Nat} (hi : i < L.length) (hq : (L.getD i default).length ≤ q) : (A ++ L.take i) ++ [(L.getD i default).take q] = A ++ L.take (i + 1) := by
 rw [List.take_of_length_le hq, List.append_assoc, List.take_add_one, List.getD_eq_getElem?_getD, List.getElem?_eq_getElem hi]; rfl
theorem strs_take {l : List Int} {q : Nat} (hq : q < l.length) : sbs ((l.take q).map txt) ++ [.lit (.string (txt (l.getD q default)))] = sbs ((l.take (q + 1)).map txt) := by
 rw [List.take_add_one, List.getD_eq_getElem?_getD, List.getElem?_eq_getElem hq]
 unfold sbs
 rw [List.map_append, List.map_append]; rfl
theorem row_is' {e : TypeId} {k : IntKind} {xs ys : List Int} (h : xs = ys) : (some (AO.row e 1 (is k xs)) : Option AO) = some (AO.row e 1 (is k ys)) := by rw [h]
theorem row_start (e : TypeId) (M n : Nat) : (some (AO.row e 1 (ns .i64 (List.replicate n 0))) : Option AO) = some (AO.row e 1 (is .i64 (wordT M n 0))) := by rw [ns_rep, wordT_0]
end Go.Mth

