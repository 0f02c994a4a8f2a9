/- What the proof of a row of this seat leans on (part 4 of 6): a library of abstract values, walks of functions, and plain laws. -/
import Derived.Test.YtdmkejloknejdaaGreatDoorPkTopCyclesc
set_option linter.unusedVariables false
set_option linter.unusedSimpArgs false
namespace Go.Mth
open Go.Ab
def linK (k : IntKind) (l : LinZ) : AV := .agg [bp (l.mul < 0), .sl 1 (ns k (digs l.mul.natAbs)), bp (l.add < 0), .sl 1 (ns k (digs l.add.natAbs)), bp (l.div < 0), .sl 1 (ns k (digs l.div.natAbs))]
def linW (l : LinZ) : AV := linK .u32 l
def linR (l : LinZ) : AV := linK .i64 l
theorem linK_eq {k : IntKind} {l : LinZ} {a b c : Int} (h1 : l.mul = a) (h2 : l.add = b) (h3 : l.div = c) : linK k l = .agg [bp (a < 0), .sl 1 (ns k (digs a.natAbs)), bp (b < 0), .sl 1 (ns k (digs b.natAbs)), bp (c < 0), .sl 1 (ns k (digs c.natAbs))] := by subst h1; subst h2; subst h3; rfl
structure LineS where
 mul : ByteArray
 add : ByteArray
 div : ByteArray
def lineV (l : LineS) : AV := .agg [.lit (.string l.mul), .lit (.string l.add), .lit (.string l.div)]
def noS : ByteArray := { data := #[] }
def lineT (l : LinZ) : LineS := ⟨txt l.mul, txt l.add, txt l.div⟩
def OkW (m : MapM) (w : List Int) : Prop := IsW m w ∧ w.length ≤ 200
noncomputable instance (m : MapM) (w : List Int) : Decidable (OkW m w) := Classical.propDecidable _
def FitK (m : MapM) (z : Int) (k : Nat) : Prop := ∀ j, j < k → Fit (iterZ m j z)
noncomputable instance (m : MapM) (z : Int) (k : Nat) : Decidable (FitK m z k) := Classical.propDecidable _
noncomputable def wordE (m : MapM) (a : ByteArray) (K : Int) : Nat := if okM m = true ∧ okS a = true then if 0 ≤ K ∧ K ≤ 200 then if FitK m (numS a) K.toNat then 0 else 3 else 2 else 1
noncomputable def wordL (m : MapM) (a : ByteArray) (K : Int) : List Int := if wordE m a K = 0 then wordZ m (numS a) K.toNat else []
noncomputable def lineE (m : MapM) (w : List Int) : Nat := if okM m = true then if OkW m w then 0 else 2 else 1
noncomputable def lineS (m : MapM) (w : List Int) : LineS := if okM m = true ∧ OkW m w then lineT (lineZ m w) else ⟨noS, noS, noS⟩
noncomputable def restE (m : MapM) (w : List Int) : Nat := if okM m = true then if OkW m w ∧ freeM m then 0 else 2 else 1
noncomputable def restS (m : MapM) (w : List Int) : ByteArray := if okM m = true ∧ OkW m w ∧ freeM m then txt (restZ m w).1 else noS
noncomputable def restD (m : MapM) (w : List Int) : ByteArray := if okM m = true ∧ OkW m w ∧ freeM m then txt (m.mod ^ w.length) else noS
noncomputable def okL (l : LineS) : Bool := okS l.mul && okS l.add && okS l.div
noncomputable def appV (l : LineS) (a : ByteArray) : Int := numS l.mul * numS a + numS l.add
noncomputable def appE (l : LineS) (a : ByteArray) : Nat := if okL l = true ∧ okS a = true then if 0 < numS l.div then if Fit (appV l a) then 0 else 3 else 2 else 1
def AppB (l : LineS) (a : ByteArray) : Prop := okL l = true ∧ okS a = true ∧ 0 < numS l.div ∧ Fit (appV l a) ∧ appV l a % numS l.div = 0
noncomputable instance (l : LineS) (a : ByteArray) : Decidable (AppB l a) := Classical.propDecidable _
noncomputable def appS (l : LineS) (a : ByteArray) : ByteArray := if AppB l a then txt (appV l a / numS l.div) else noS
theorem line_len {m : MapM} (hm : OkM m) : ∀ w : List Int, IsW m w → (digs (lineZ m w).mul.natAbs).length ≤ 3 * w.length + 3 ∧ (digs (lineZ m w).add.natAbs).length ≤ 3 * w.length + 3 ∧ (digs (lineZ m w).div.natAbs).length ≤ 3 * w.length + 3 := by
 refine snoc_ind (P := fun w => IsW m w → (digs (lineZ m w).mul.natAbs).length ≤ 3 * w.length + 3 ∧ (digs (lineZ m w).add.natAbs).length ≤ 3 * w.length + 3 ∧ (digs (lineZ m w).div.natAbs).length ≤ 3 * w.length + 3) (fun _ => ?_) fun w r ih hw => ?_
 ·have h1 := small_len (z := 1) (by decide)
  have h0 : (digs (0 : Int).natAbs).length = 0 := by simp [digs_zero]
  refine ⟨?_, ?_, ?_⟩
  ·show (digs (1 : Int).natAbs).length ≤ _; omega
  ·show (digs (0 : Int).natAbs).length ≤ _; omega
  ·show (digs (1 : Int).natAbs).length ≤ _; omega
 ·obtain ⟨i1, i2, i3⟩ := ih fun x hx => hw x (by simp [hx])
  obtain ⟨o1, o2, o3, o4, o5⟩ := hm
  obtain ⟨hr0, hr1⟩ := hw r (by simp)
  have hr := o5 r.toNat (by omega)
  have hq := small_len (z := mulM m r) (by unfold mulM; omega)
  have ha := small_len (z := addM m r) (by unfold addM; omega)
  have hd := small_len (z := m.mod) (by omega)
  have e1 := len_mulZ (mulM m r) (lineZ m w).mul
  have e2 := len_mulZ (mulM m r) (lineZ m w).add
  have e3 := len_mulZ (addM m r) (lineZ m w).div
  have e4 := len_mulZ (lineZ m w).div m.mod
  have e5 := len_addZ (mulM m r * (lineZ m w).add) (addM m r * (lineZ m w).div)
  rw [lineZ_snoc, List.length_append, List.length_singleton]
  refine ⟨?_, ?_, ?_⟩
  ·show (digs (mulM m r * (lineZ m w).mul).natAbs).length ≤ _; omega
  ·show (digs (mulM m r * (lineZ m w).add + addM m r * (lineZ m w).div).natAbs).length ≤ _; omega
  ·show (digs ((lineZ m w).div * m.mod).natAbs).length ≤ _; omega
theorem isW_take {m : MapM} {w : List Int} (h : IsW m w) (i : Nat) : IsW m (w.take i) := fun r hr => h r (List.mem_of_mem_take hr)
theorem isW_get {m : MapM} {w : List Int} (h : IsW m w) {i : Nat} (hi : i < w.length) : 0 ≤ w.getD i 0 ∧ w.getD i 0 < m.mod := h _ (by rw [List.getD_eq_getElem?_getD, List.getElem?_eq_getElem hi]; simp)
theorem take_snoc {w : List Int} {i : Nat} (hi : i < w.length) : w.take (i + 1) = w.take i ++ [w.getD i 0] := by
 rw [List.getD_eq_getElem?_getD, List.getElem?_eq_getElem hi, List.take_add_one, List.getElem?_eq_getElem hi]; rfl
theorem lineZ_next {m : MapM} {w : List Int} {i : Nat} (hi : i < w.length) : thenZ m (lineZ m (w.take i)) (w.getD i 0) = lineZ m (w.take (i + 1)) := by rw [take_snoc hi, lineZ_snoc]
theorem isW_of {m : MapM} {w : List Int} (h : ∀ k, k < w.length → 0 ≤ w.getD k 0 ∧ w.getD k 0 < m.mod) : IsW m w := fun r hr => by
 obtain ⟨k, hk, e⟩ := List.getElem_of_mem hr
 have := h k hk
 rw [List.getD_eq_getElem?_getD, List.getElem?_eq_getElem hk] at this
 subst e
 exact this
theorem bp_no {q : Prop} [Decidable q] (h : ¬ q) : bp q = .lit (.bool false) := by unfold bp; rw [decide_eq_false h]
end Go.Mth

namespace Go.Proofs.YtdmkejloknejdaaGreatDoor
open Go Go.Ab Go.Mth
theorem fieldsFrac : Tryz.prog.fieldsOf 45 = #[{ name := "Num", type := 9, offset := 0, embedded := false, tag := "", pkgPath := "", byteOffset := 0 }, { name := "Den", type := 9, offset := 1, embedded := false, tag := "", pkgPath := "", byteOffset := 16 }] := by kernel_rfl
theorem eq_api_Frac (a1 a2 b1 b2 : ByteArray) : AggEq cx.P 45 [.string a1, .string a2] [.string b1, .string b2] (decide (a1 = b1 ∧ a2 = b2)) := by
 refine ⟨by kernel_rfl, fun w => ?_⟩
 have hS : Tryz.prog.underlying 45 = some (.struct (Tryz.prog.fieldsOf 45)) := by kernel_rfl
 show (Op.equalIn 10000 45 _ _).run Tryz.prog w = _
 rw [show (10000 : Nat) = 9998 + 1 + 1 from rfl, run_equalIn_agg w (9998 + 1) _ _ _ hS (by kernel_rfl), fieldsFrac]
 have uS : Tryz.prog.underlying 9 = some .string := by kernel_rfl
 simp only [Op.eqFields, part_str uS, Sem.run_bind, Sem.run_ite, run_equalIn_string _ _ _ _ _ uS]
 by_cases h1 : a1 = b1 <;> by_cases h2 : a2 = b2 <;> simp [ba_eq, run_equalIn_string _ _ _ _ _ uS, h1, h2]
end Go.Proofs.YtdmkejloknejdaaGreatDoor

namespace Go.Proofs.YtdmkejloknejdaaGreatDoor
open Go Go.Ab Go.Mth
theorem f74_ : callable cx.P 160 = true := by kernel_rfl
theorem f75_ : callable cx.P 161 = true := by kernel_rfl
theorem c_wTrimX (neg : Bool) (xs : List Nat) (hx : Dig xs) : ECalls cx 109 [.lit (.bool neg), .sl 1 (ns .u32 xs)] (intC (sg neg (val xs))) := by
 refine ecalls_of_awp Tryz.func109 (c := _) rfl (Nat.le_of_ble_eq_true rfl) ?_
 show awp cx 30 _ (postF cx Tryz.f109 _) ⟨[(0, .lit (.bool neg)), (1, .sl 1 (ns .u32 xs))], []⟩
 refine awp_bound (i := 1) rfl fun hb => ?_
 replace hb := n_bnd hb
 refine awp_seq fun K0 hK0 => awp_region rfl ?_
 refine o_alloc 2 [Fv, Zv] gn f15_ rfl rfl rfl ?_
 refine aops_end (hK0 _ (awp_seq fun K1 hK1 => awp_region rfl (o_mv (.sl 1 (ns .u32 xs)) rfl ?_)))
 refine n_len xs gn f7_ rfl ?_
 refine o_as (Nv (xs.length)) rfl (aops_end (hK1 _ (awp_seq fun K2 hK2 => ?_)))
 refine awp_block ?_
 refine awp_loopR (fun κ σ => ∃ (n : Nat), (n ≤ xs.length) ∧ (val (xs.take n) = val xs) ∧ n = κ ∧ σ = ⟨[(0, .lit (.bool neg)), (1, .sl 1 (ns .u32 xs)), (4, .ref 2 0), (5, Nv n)], [(2, .var 90 [Fv, Zv])]⟩) ⟨_, _, ⟨xs.length, Nat.le_refl _, (by rw [List.take_length]), rfl, rfl⟩, ?wk0⟩ ?rd0
 case wk0 =>
  exact Wk.sub ⟨rfl, rfl, rfl, (by first | rfl | exact nm_int (by omega)), trivial⟩ ⟨rfl, trivial⟩
 rintro κ _ ⟨n, hn, hv, rfl, rfl⟩
 refine awp_seq fun K3 hK3 => awp_seq fun K4 hK4 => awp_region rfl (o_mv (Nv n) rfl ?_)
 refine n_gtr n 0 gn rfl rfl ?_
 refine o_mv (bp (0 < n)) rfl ?_
 refine o_splitP (q := 0 < n) 10 rfl (fun h1 => ?_) (fun h1 => ?_)
 ·refine o_move (.sl 1 (ns .u32 xs)) (Gd.yes rfl rfl (decide_eq_true h1)) rfl (o_move (Nv n) (Gd.yes rfl rfl (decide_eq_true h1)) rfl ?_)
  refine n_sub n 1 (Gd.yes rfl rfl (decide_eq_true h1)) rfl rfl (by omega) (by simp only [topOf]; omega) ?_
  refine n_index xs (n - 1) (Gd.yes rfl rfl (decide_eq_true h1)) f16_ rfl rfl (by omega) ?_
  refine n_loadI xs (n - 1) (Gd.yes rfl rfl (decide_eq_true h1)) f17_ rfl (by omega) ?_
  refine n_eql (xs.getD (n - 1) 0) 0 (Gd.yes rfl rfl (decide_eq_true h1)) rfl rfl ?_
  refine o_pickT (bp ((xs.getD (n - 1) 0) = 0)) gn rfl (decide_eq_true h1) rfl ?_
  refine aops_end (hK4 _ ?_)
  refine awp_condQ (q := (xs.getD (n - 1) 0) = 0) rfl (fun h2 => ?_) (fun h2 => ?_)
  ·refine awp_skip (hK3 _ ?_)
   refine awp_block ?_
   refine awp_region rfl (o_mv (Nv n) rfl ?_)
   refine n_sub n 1 gn rfl rfl (by omega) (by simp only [topOf]; omega) ?_
   refine o_as (Nv (n - 1)) rfl (aops_end ?_)
   refine ⟨_, _, ?lt, ⟨n - 1, (by omega), (by rw [← take_getD_zero (by assumption) hn (by assumption)]; exact hv), rfl, rfl⟩, ?wk⟩
   case lt => omega
   case wk => exact Wk.sub ⟨rfl, rfl, rfl, (by first | rfl | exact nm_int (by omega)), trivial⟩ ⟨rfl, trivial⟩
  ·refine awp_exit ?_
   refine hK2 _ (awp_seq fun K5 hK5 => awp_region rfl (o_mv (.lit (.bool neg)) rfl (o_mv (.lit (.bool neg)) rfl ?_)))
   refine o_split (b := neg) 21 rfl (fun h3 => ?_) (fun h3 => ?_)
   ·refine o_move (Nv n) (Gd.yes rfl rfl h3) rfl ?_
    refine n_gtr n 0 (Gd.yes rfl rfl h3) rfl rfl ?_
    refine o_pickT (bp (0 < n)) gn rfl h3 rfl ?_
    refine o_mv (.sl 1 (ns .u32 xs)) rfl (o_mv (Nv n) rfl (o_mv (Nv n) rfl ?_))
    refine n_sliceX xs 0 n gn f16_ rfl rfl (hi_nm rfl) (mx_nm rfl) rfl (by omega) (by omega) ?_
    refine o_build [bp (0 < n), .slc 1 (ns .u32 ((xs.drop 0).take (n - 0))) (n - 0)] [(0, [bp (0 < n)]), (1, [.slc 1 (ns .u32 ((xs.drop 0).take (n - 0))) (n - 0)])] gn f18_ f15_ rfl rfl rfl ?_
    refine o_store [(2, .var 90 [bp (0 < n), .slc 1 (ns .u32 ((xs.drop 0).take (n - 0))) (n - 0)])] gn f19_ rfl rfl rfl rfl rfl rfl ?_
    refine aops_end (hK5 _ ?_)
    refine awp_ret ?_
    refine post_ret ⟨[.agg [bp (0 < n), .slc 1 (ns .u32 ((xs.drop 0).take (n - 0))) (n - 0)]], ⟨⟨2, .var 90 [bp (0 < n), .slc 1 (ns .u32 ((xs.drop 0).take (n - 0))) (n - 0)], rfl, rfl, rfl, Or.inl ⟨f20_, AV.le_refl _⟩⟩, trivial⟩, rfl, ?_⟩
    subst h3
    exact (trimc_fin (neg := true) hx hn hv (by first | (left; omega) | (right; assumption))).symm
   ·refine o_skip rfl rfl h3 (o_skip rfl rfl h3 ?_)
    refine o_pickF Fv gn rfl h3 rfl ?_
    refine o_mv (.sl 1 (ns .u32 xs)) rfl (o_mv (Nv n) rfl (o_mv (Nv n) rfl ?_))
    refine n_sliceX xs 0 n gn f16_ rfl rfl (hi_nm rfl) (mx_nm rfl) rfl (by omega) (by omega) ?_
    refine o_build [Fv, .slc 1 (ns .u32 ((xs.drop 0).take (n - 0))) (n - 0)] [(0, [Fv]), (1, [.slc 1 (ns .u32 ((xs.drop 0).take (n - 0))) (n - 0)])] gn f18_ f15_ rfl rfl rfl ?_
    refine o_store [(2, .var 90 [Fv, .slc 1 (ns .u32 ((xs.drop 0).take (n - 0))) (n - 0)])] gn f19_ rfl rfl rfl rfl rfl rfl ?_
    refine aops_end (hK5 _ ?_)
    refine awp_ret ?_
    refine post_ret ⟨[.agg [Fv, .slc 1 (ns .u32 ((xs.drop 0).take (n - 0))) (n - 0)]], ⟨⟨2, .var 90 [Fv, .slc 1 (ns .u32 ((xs.drop 0).take (n - 0))) (n - 0)], rfl, rfl, rfl, Or.inl ⟨f20_, AV.le_refl _⟩⟩, trivial⟩, rfl, ?_⟩
    subst h3
    exact (trimc_fin (neg := false) hx hn hv (by first | (left; omega) | (right; assumption))).symm
 ·refine o_skip rfl rfl (decide_eq_false h1) (o_skip rfl rfl (decide_eq_false h1) (o_skip rfl rfl (decide_eq_false h1) (o_skip rfl rfl (decide_eq_false h1) (o_skip rfl rfl (decide_eq_false h1) (o_skip rfl rfl (decide_eq_false h1) ?_)))))
  refine o_pickF Fv gn rfl (decide_eq_false h1) rfl ?_
  refine aops_end (hK4 _ ?_)
  refine awp_condB (b := false) rfl (fun hh => absurd (hh.symm.trans rfl) (by decide)) (fun _ => ?_)
  refine awp_exit ?_
  refine hK2 _ (awp_seq fun K6 hK6 => awp_region rfl (o_mv (.lit (.bool neg)) rfl (o_mv (.lit (.bool neg)) rfl ?_)))
  refine o_split (b := neg) 21 rfl (fun h4 => ?_) (fun h4 => ?_)
  ·refine o_move (Nv n) (Gd.yes rfl rfl h4) rfl ?_
   refine n_gtr n 0 (Gd.yes rfl rfl h4) rfl rfl ?_
   refine o_pickT (bp (0 < n)) gn rfl h4 rfl ?_
   refine o_mv (.sl 1 (ns .u32 xs)) rfl (o_mv (Nv n) rfl (o_mv (Nv n) rfl ?_))
   refine n_sliceX xs 0 n gn f16_ rfl rfl (hi_nm rfl) (mx_nm rfl) rfl (by omega) (by omega) ?_
   refine o_build [bp (0 < n), .slc 1 (ns .u32 ((xs.drop 0).take (n - 0))) (n - 0)] [(0, [bp (0 < n)]), (1, [.slc 1 (ns .u32 ((xs.drop 0).take (n - 0))) (n - 0)])] gn f18_ f15_ rfl rfl rfl ?_
   refine o_store [(2, .var 90 [bp (0 < n), .slc 1 (ns .u32 ((xs.drop 0).take (n - 0))) (n - 0)])] gn f19_ rfl rfl rfl rfl rfl rfl ?_
   refine aops_end (hK6 _ ?_)
   refine awp_ret ?_
   refine post_ret ⟨[.agg [bp (0 < n), .slc 1 (ns .u32 ((xs.drop 0).take (n - 0))) (n - 0)]], ⟨⟨2, .var 90 [bp (0 < n), .slc 1 (ns .u32 ((xs.drop 0).take (n - 0))) (n - 0)], rfl, rfl, rfl, Or.inl ⟨f20_, AV.le_refl _⟩⟩, trivial⟩, rfl, ?_⟩
   subst h4
   exact (trimc_fin (neg := true) hx hn hv (by first | (left; omega) | (right; assumption))).symm
  ·refine o_skip rfl rfl h4 (o_skip rfl rfl h4 ?_)
   refine o_pickF Fv gn rfl h4 rfl ?_
   refine o_mv (.sl 1 (ns .u32 xs)) rfl (o_mv (Nv n) rfl (o_mv (Nv n) rfl ?_))
   refine n_sliceX xs 0 n gn f16_ rfl rfl (hi_nm rfl) (mx_nm rfl) rfl (by omega) (by omega) ?_
   refine o_build [Fv, .slc 1 (ns .u32 ((xs.drop 0).take (n - 0))) (n - 0)] [(0, [Fv]), (1, [.slc 1 (ns .u32 ((xs.drop 0).take (n - 0))) (n - 0)])] gn f18_ f15_ rfl rfl rfl ?_
   refine o_store [(2, .var 90 [Fv, .slc 1 (ns .u32 ((xs.drop 0).take (n - 0))) (n - 0)])] gn f19_ rfl rfl rfl rfl rfl rfl ?_
   refine aops_end (hK6 _ ?_)
   refine awp_ret ?_
   refine post_ret ⟨[.agg [Fv, .slc 1 (ns .u32 ((xs.drop 0).take (n - 0))) (n - 0)]], ⟨⟨2, .var 90 [Fv, .slc 1 (ns .u32 ((xs.drop 0).take (n - 0))) (n - 0)], rfl, rfl, rfl, Or.inl ⟨f20_, AV.le_refl _⟩⟩, trivial⟩, rfl, ?_⟩
   subst h4
   exact (trimc_fin (neg := false) hx hn hv (by first | (left; omega) | (right; assumption))).symm

theorem c_wTimes (m n : Nat) (hm : (digs m).length ≤ 1000000000) (hn : n < 1000000000) : ECalls cx 161 [.sl 1 (ns .u32 (digs m)), nm .u64 n] (.sl 1 (ns .u32 (digs (m * n)))) := by
 refine ecalls_of_awp Tryz.func161 (c := _) rfl (Nat.le_of_ble_eq_true rfl) ?_
 show awp cx 42 _ (postF cx Tryz.f161 _) ⟨[(0, .sl 1 (ns .u32 (digs m))), (1, nm .u64 n)], []⟩
 refine awp_bound (i := 0) rfl fun hb => ?_
 replace hb := n_bnd hb
 refine awp_seq fun K0 hK0 => awp_region rfl (o_as Zv rfl (aops_end (hK0 _ (awp_seq fun K1 hK1 => awp_region rfl (o_mv (.sl 1 (ns .u32 (digs m))) rfl ?_)))))
 refine n_len (digs m) gn f7_ rfl ?_
 refine n_add ((digs m).length) 1 gn rfl rfl (by simp only [topOf]; omega) ?_
 refine n_make0 .u32 2 (((digs m).length) + 1) gn f16_ f27_ rfl rfl (by omega) (by omega) rfl ?_
 refine o_as (.row 2) rfl (aops_end (hK1 _ (awp_seq fun K2 hK2 => awp_region rfl (o_as (nm .u64 0) rfl (aops_end (hK2 _ (awp_seq fun K3 hK3 => awp_seq fun K4 hK4 => awp_region rfl (o_mv (.sl 1 (ns .u32 (digs m))) rfl ?_))))))))
 refine n_len (digs m) gn f7_ rfl ?_
 refine o_mv (Nv 0) rfl (aops_end (hK4 _ ?_))
 refine awp_block ?_
 refine awp_loopR (fun κ σ => ∃ (i : Nat), ∃ (r : List Nat), ∃ (c : Nat), (r.length = i) ∧ (i ≤ (digs m).length) ∧ (Dig r) ∧ (c < 1000000000) ∧ (val r + 1000000000 ^ i * c = val ((digs m).take i) * n) ∧ ((digs m).length - i) = κ ∧ σ = ⟨[(1, nm .u64 n), (5, .row 3), (6, nm .u64 c), (14, .sl 1 (ns .u32 (digs m))), (15, Nv ((digs m).length)), (16, Nv i)], [(3, .row 145 1 (ns .u32 r))]⟩) ⟨_, _, ⟨0, [], 0, rfl, (by omega), Dig.nil, (by omega), (by simp [val]), rfl, rfl⟩, ?wk0⟩ ?rd0
 case wk0 =>
  exact Wk.trans (Wk.sub (σ' := ⟨[(1, nm .u64 n), (5, .row 2), (6, nm .u64 0), (14, .sl 1 (ns .u32 (digs m))), (15, Nv ((digs m).length)), (16, Nv 0)], [(2, .row 145 1 (ns .u32 ([])))]⟩) ⟨rfl, rfl, rfl, rfl, rfl, rfl, trivial⟩ ⟨rfl, trivial⟩) (Wk.trans (Wk.ren (id := 2) (id' := 3) rfl) (Wk.sub ⟨rfl, (by first | rfl | simp), (by first | rfl | exact nm_int (by omega)), rfl, rfl, (by first | rfl | exact nm_int (by omega)), trivial⟩ ⟨(by first | rfl | exact row_ns (by simp)), trivial⟩))
 rintro κ _ ⟨i, r, c, hl, hi, hd, hc, hv, rfl, rfl⟩
 have hA := Dig.getD (digs_dig m) i
 have hAn : ((digs m).getD i 0) * n ≤ 999999999 * 999999999 := Nat.mul_le_mul (by omega) (by omega)
 refine awp_seq fun K5 hK5 => awp_region rfl ?_
 refine n_lss i ((digs m).length) gn rfl rfl ?_
 refine aops_end (hK5 _ (awp_seq fun K6 hK6 => ?_))
 refine awp_condQ (q := i < ((digs m).length)) rfl (fun h1 => ?_) (fun h1 => ?_)
 ·refine awp_skip (hK6 _ (awp_seq fun K7 hK7 => ?_))
  refine awp_block ?_
  refine awp_seq fun K8 hK8 => awp_region rfl ?_
  refine n_index (digs m) i gn f16_ rfl rfl (by omega) ?_
  refine n_loadI (digs m) i gn f17_ rfl (by omega) ?_
  refine o_as (nm .u32 ((digs m).getD i 0)) rfl (aops_end (hK8 _ (awp_seq fun K9 hK9 => awp_region rfl (o_mv (nm .u32 ((digs m).getD i 0)) rfl ?_))))
  refine n_conv ((digs m).getD i 0) gn rfl f28_ f42_ (by simp only [topOf]; omega) ?_
  refine o_mv (nm .u64 n) rfl ?_
  refine n_mul ((digs m).getD i 0) n gn rfl rfl (by simp only [topOf]; omega) ?_
  refine o_mv (nm .u64 c) rfl ?_
  refine n_add (((digs m).getD i 0) * n) c gn rfl rfl (by simp only [topOf]; omega) ?_
  refine o_as (nm .u64 ((((digs m).getD i 0) * n) + c)) rfl (aops_end (hK9 _ (awp_seq fun K10 hK10 => awp_region rfl (o_mv (.row 3) rfl (o_mv (nm .u64 ((((digs m).getD i 0) * n) + c)) rfl ?_)))))
  refine n_rem ((((digs m).getD i 0) * n) + c) 1000000000 gn rfl rfl (by omega) ?_
  refine n_conv (((((digs m).getD i 0) * n) + c) % 1000000000) gn rfl f42_ f28_ (by simp only [topOf]; omega) ?_
  refine o_buildSlice 101 (ns .u32 ([((((digs m).getD i 0) * n) + c) % 1000000000])) [(0, [nm .u32 (((((digs m).getD i 0) * n) + c) % 1000000000)])] gn f16_ rfl f27_ rfl rfl rfl rfl rfl rfl rfl ?_
  refine n_append 102 r ([((((digs m).getD i 0) * n) + c) % 1000000000]) [(101, .row 145 1 (ns .u32 ([((((digs m).getD i 0) * n) + c) % 1000000000])))] gn f16_ f27_ rfl rfl rfl rfl rfl (by simp only [List.length_append, List.length_cons, List.length_nil]; omega) (by decide) rfl rfl ?_
  refine o_as (.row 102) rfl (aops_end (hK10 _ (awp_region rfl (o_mv (nm .u64 ((((digs m).getD i 0) * n) + c)) rfl ?_))))
  refine n_quo ((((digs m).getD i 0) * n) + c) 1000000000 gn rfl rfl (by omega) (by simp only [topOf]; omega) ?_
  refine o_as (nm .u64 (((((digs m).getD i 0) * n) + c) / 1000000000)) rfl (aops_end (hK7 _ (awp_region rfl ?_)))
  refine n_add i 1 gn rfl rfl (by simp only [topOf]; omega) ?_
  refine o_mv (Nv (i + 1)) rfl (aops_end ?_)
  refine ⟨_, _, ?lt, ⟨i + 1, r ++ ([((((digs m).getD i 0) * n) + c) % 1000000000]), ((((digs m).getD i 0) * n) + c) / 1000000000, (by simp [hl]), (by omega), (hd.snoc (Nat.mod_lt _ (by decide))), (by omega), times_step hl hv rfl, rfl, rfl⟩, ?wk⟩
  case lt => omega
  case wk => exact Wk.trans (Wk.sub (σ' := ⟨[(1, nm .u64 n), (5, .row 102), (6, nm .u64 (((((digs m).getD i 0) * n) + c) / 1000000000)), (14, .sl 1 (ns .u32 (digs m))), (15, Nv ((digs m).length)), (16, Nv (i + 1))], [(102, .row 145 1 (ns .u32 (r ++ ([((((digs m).getD i 0) * n) + c) % 1000000000]))))]⟩) ⟨rfl, rfl, rfl, rfl, rfl, rfl, trivial⟩ ⟨rfl, trivial⟩) (Wk.trans (Wk.ren (id := 102) (id' := 3) rfl) (Wk.sub ⟨rfl, (by first | rfl | simp), (by first | rfl | exact nm_int (by omega)), rfl, rfl, (by first | rfl | exact nm_int (by omega)), trivial⟩ ⟨(by first | rfl | exact row_ns (by simp)), trivial⟩))
 ·refine awp_exit ?_
  refine hK3 _ (awp_seq fun K11 hK11 => awp_region rfl (o_mv (.row 3) rfl (o_mv (nm .u64 c) rfl ?_)))
  refine n_conv c gn rfl f42_ f28_ (by simp only [topOf]; omega) ?_
  refine o_buildSlice 101 (ns .u32 ([c])) [(0, [nm .u32 c])] gn f16_ rfl f27_ rfl rfl rfl rfl rfl rfl rfl ?_
  refine n_append 102 r ([c]) [(101, .row 145 1 (ns .u32 ([c])))] gn f16_ f27_ rfl rfl rfl rfl rfl (by simp only [List.length_append, List.length_cons, List.length_nil]; omega) (by decide) rfl rfl ?_
  refine o_callG [(102, 1, ns .u32 (r ++ ([c])))] [Fv, .sl 1 (ns .u32 (r ++ ([c])))] _ (intW (sg false (val (r ++ ([c]))))) [(101, .row 145 1 (ns .u32 ([c])))] gn f35_ rfl ⟨⟨_, rfl⟩, trivial⟩ rfl rfl (LeL.cons (AV.le_refl _) (LeL.cons (AV.le_refl _) LeL.nil)) (c_wTrim false (r ++ ([c])) (by first | assumption | exact dgn_dig _ _ | exact digs_dig _ | exact Dig.snoc (by assumption) (by assumption) | exact Dig.cons (by omega) (digs_dig _))) rfl ?_
  refine o_fieldS (.sl 1 (ns .u32 (digs (sg false (val (r ++ ([c])))).natAbs))) gn f5_ f6_ rfl rfl ?_
  refine o_as (.sl 1 (ns .u32 (digs (sg false (val (r ++ ([c])))).natAbs))) rfl (aops_end (hK11 _ ?_))
  refine awp_ret ?_
  refine post_ret ⟨[.sl 1 (ns .u32 (digs (sg false (val (r ++ ([c])))).natAbs))], ⟨AV.le_refl _, trivial⟩, rfl, ?_⟩
  refine ns_congr ?_
  rw [sg_abs, times_fin (by omega) hl hv]

theorem c_wQuot (m n : Nat) (hn0 : 0 < n) (hm : (digs m).length ≤ 900000000) (hn : (digs n).length ≤ 900000000) : ECalls cx 144 [.sl 1 (ns .u32 (digs m)), .sl 1 (ns .u32 (digs n))] (.tup [.sl 1 (ns .u32 (dgn (digs m).length (m / n))), .sl 1 (ns .u32 (digs (m % n)))]) := by
 refine ecalls_of_awp Tryz.func144 (c := _) rfl (Nat.le_of_ble_eq_true rfl) ?_
 show awp cx 65 _ (postF cx Tryz.f144 _) ⟨[(0, .sl 1 (ns .u32 (digs m))), (1, .sl 1 (ns .u32 (digs n)))], []⟩
 refine awp_bound (i := 0) rfl fun hb => ?_
 replace hb := n_bnd hb
 refine awp_bound (i := 1) rfl fun hb2 => ?_
 replace hb2 := n_bnd hb2
 refine awp_seq fun K0 hK0 => awp_region rfl (o_as Zv rfl (o_as Zv rfl (aops_end (hK0 _ (awp_seq fun K1 hK1 => awp_region rfl (o_mv (.sl 1 (ns .u32 (digs m))) rfl ?_))))))
 refine n_len (digs m) gn f7_ rfl ?_
 refine n_make 2 ((digs m).length) gn f16_ f27_ rfl rfl (by omega) rfl rfl ?_
 refine o_as (.row 2) rfl (aops_end (hK1 _ (awp_seq fun K2 hK2 => awp_region rfl (o_as Zv rfl (aops_end (hK2 _ (awp_seq fun K3 hK3 => awp_seq fun K4 hK4 => awp_region rfl (o_mv (.sl 1 (ns .u32 (digs m))) rfl ?_))))))))
 refine n_len (digs m) gn f7_ rfl ?_
 refine o_sub (a := (((digs m).length : Nat) : Int)) (c := ((1 : Nat) : Int)) gn rfl rfl (by exact wrap64 (by omega) (by omega)) ?_
 refine o_as (Iv ((((digs m).length : Nat) : Int) - ((1 : Nat) : Int))) rfl (aops_end (hK4 _ ?_))
 refine awp_block ?_
 refine awp_wk (Wk.slot (i := 7) (y := (.slc 1 (ns .u32 (digs 0)) ((digs 0).length))) (AV.le_nilc' (by decide) (by simp [digs_zero, ns]) (by simp [digs_zero]))) ?_
 refine awp_loopR (fun κ σ => ∃ (j : Nat), ∃ (o : List Nat), ∃ (r : Nat), (j ≤ (digs m).length) ∧ (o.length = (digs m).length) ∧ (Dig o) ∧ (∀ k, k < j → o.getD k 0 = 0) ∧ (r < n) ∧ (val ((digs m).drop j) = n * val (o.drop j) + r) ∧ j = κ ∧ σ = ⟨[(0, .sl 1 (ns .u32 (digs m))), (1, .sl 1 (ns .u32 (digs n))), (6, .row 3), (8, (Iv ((j : Int) - 1))), (7, .slc 1 (ns .u32 (digs r)) ((digs r).length))], [(3, .row 145 1 (ns .u32 o))]⟩) ⟨_, _, ⟨(digs m).length, List.replicate (digs m).length 0, 0, Nat.le_refl _, (by simp), Dig.repl _, (fun k hk => by rw [List.getD_eq_getElem?_getD, List.getElem?_replicate]; split <;> rfl), hn0, (by rw [val_drop_all (Nat.le_refl _), val_drop_all (by simp)]; simp), rfl, rfl⟩, ?wk0⟩ ?rd0
 case wk0 =>
  exact Wk.trans (Wk.sub (σ' := ⟨[(0, .sl 1 (ns .u32 (digs m))), (1, .sl 1 (ns .u32 (digs n))), (6, .row 2), (8, (Iv ((((digs m).length : Nat) : Int) - ((1 : Nat) : Int)))), (7, .slc 1 (ns .u32 (digs 0)) ((digs 0).length))], [(2, .row 145 1 (ns .u32 (List.replicate ((digs m).length) 0)))]⟩) ⟨rfl, rfl, rfl, rfl, rfl, trivial⟩ ⟨rfl, trivial⟩) (Wk.trans (Wk.ren (id := 2) (id' := 3) rfl) (Wk.sub ⟨rfl, rfl, (by first | rfl | simp), (by first | rfl | exact int_eq (by omega) | exact int_nm (by omega)), (by first | rfl | simp), trivial⟩ ⟨(by first | rfl | exact row_ns (by simp)), trivial⟩))
 rintro κ _ ⟨j, o, r, hj, hl, hd, hz, hr, hv, rfl, rfl⟩
 have hA := Dig.getD (digs_dig m) (j - 1)
 have hrl := digs_len_le (Nat.le_of_lt hr)
 have hXt := quo_top hA hr
 have hXl := digs_len_le (Nat.le_of_lt hXt)
 have hXm := digs_mul_len n 1000000000
 have h10 : (digs 1000000000).length ≤ 3 := digs_len_small (by decide)
 refine awp_seq fun K5 hK5 => awp_seq fun K6 hK6 => awp_region rfl (o_mv (Iv ((j : Int) - 1)) rfl ?_)
 refine o_geq (a := ((j : Int) - 1)) (c := ((0 : Nat) : Int)) gn rfl rfl ?_
 refine aops_end (hK6 _ ?_)
 refine awp_condQ (q := ((0 : Nat) : Int) ≤ ((j : Int) - 1)) rfl (fun h1 => ?_) (fun h1 => ?_)
 ·refine awp_wk (Wk.slot (i := 8) (y := (Nv (j - 1))) (AV.le_eq (by exact nm_int (by omega)))) ?_
  refine awp_skip (hK5 _ (awp_seq fun K7 hK7 => ?_))
  refine awp_block ?_
  refine awp_seq fun K8 hK8 => awp_region rfl (o_mv (.slc 1 (ns .u32 (digs r)) ((digs r).length)) rfl (o_mv (.sl 1 (ns .u32 (digs m))) rfl (o_mv (Nv (j - 1)) rfl ?_)))
  refine n_index (digs m) (j - 1) gn f16_ rfl rfl (by omega) ?_
  refine n_loadI (digs m) (j - 1) gn f17_ rfl (by omega) ?_
  refine o_buildSlice 101 (ns .u32 ([(digs m).getD (j - 1) 0])) [(0, [nm .u32 ((digs m).getD (j - 1) 0)])] gn f16_ rfl f27_ rfl rfl rfl rfl rfl rfl rfl ?_
  refine o_callG [(101, 1, ns .u32 ([(digs m).getD (j - 1) 0]))] [.slc 1 (ns .u32 (digs r)) ((digs r).length), Nv 0, .sl 1 (ns .u32 ([(digs m).getD (j - 1) 0]))] _ (.sl 1 (ns .u32 (((digs m).getD (j - 1) 0) :: digs r))) [(3, .row 145 1 (ns .u32 o))] gn f74_ rfl ⟨⟨_, rfl⟩, trivial⟩ rfl rfl (LeL.cons (AV.le_refl _) (LeL.cons (AV.le_refl _) (LeL.cons (AV.le_refl _) LeL.nil))) (c_insert (digs r) ((digs m).getD (j - 1) 0) (by omega)) rfl ?_
  refine o_ct (c_wTrimX false (((digs m).getD (j - 1) 0) :: digs r) (by first | assumption | exact dgn_dig _ _ | exact digs_dig _ | exact Dig.snoc (by assumption) (by assumption) | exact Dig.cons (by omega) (digs_dig _))) gn f35_ rfl ?_
  refine o_fieldS (.slc 1 (ns .u32 (digs (sg false (val (((digs m).getD (j - 1) 0) :: digs r))).natAbs)) ((digs (sg false (val (((digs m).getD (j - 1) 0) :: digs r))).natAbs).length)) gn f5_ f6_ rfl rfl ?_
  refine n_as (v' := (.slc 1 (ns .u32 (digs ((digs m).getD (j - 1) 0 + 1000000000 * r))) ((digs ((digs m).getD (j - 1) 0 + 1000000000 * r)).length))) (by exact nc_sg (by simp only [val, val_digs])) ?_
  refine o_as (.slc 1 (ns .u32 (digs ((digs m).getD (j - 1) 0 + 1000000000 * r))) ((digs ((digs m).getD (j - 1) 0 + 1000000000 * r)).length)) rfl (aops_end (hK8 _ (awp_seq fun K9 hK9 => awp_seq fun K10 hK10 => awp_region rfl (o_mv (.slc 1 (ns .u32 (digs ((digs m).getD (j - 1) 0 + 1000000000 * r))) ((digs ((digs m).getD (j - 1) 0 + 1000000000 * r)).length)) rfl (o_mv (.sl 1 (ns .u32 (digs n))) rfl ?_)))))
  refine o_callG [] [.slc 1 (ns .u32 (digs ((digs m).getD (j - 1) 0 + 1000000000 * r))) ((digs ((digs m).getD (j - 1) 0 + 1000000000 * r)).length), .sl 1 (ns .u32 (digs n))] _ (Iv (cmpN ((digs m).getD (j - 1) 0 + 1000000000 * r) n)) [(3, .row 145 1 (ns .u32 o))] gn f24_ rfl trivial rfl rfl (LeL.cons AV.le_slc (LeL.cons (AV.le_refl _) LeL.nil)) (c_wSize ((digs m).getD (j - 1) 0 + 1000000000 * r) n) rfl ?_
  refine o_lss (a := (cmpN ((digs m).getD (j - 1) 0 + 1000000000 * r) n)) (c := ((0 : Nat) : Int)) gn rfl rfl ?_
  refine aops_end (hK10 _ ?_)
  refine awp_condQ (q := (cmpN ((digs m).getD (j - 1) 0 + 1000000000 * r) n) < ((0 : Nat) : Int)) rfl (fun h2 => ?_) (fun h2 => ?_)
  ·have hXn := cmpN_neg h2
   refine awp_exit ?_
   refine hK7 _ (awp_region rfl (o_mv (Nv (j - 1)) rfl ?_))
   refine o_sub (a := ((j - 1 : Nat) : Int)) (c := ((1 : Nat) : Int)) gn rfl rfl (by exact wrap64 (by omega) (by omega)) ?_
   refine o_as (Iv (((j - 1 : Nat) : Int) - ((1 : Nat) : Int))) rfl (aops_end ?_)
   refine ⟨_, _, ?lt, ⟨j - 1, o, (digs m).getD (j - 1) 0 + 1000000000 * r, (by omega), hl, hd, (fun k hk => hz k (by omega)), hXn, (quo_skip (by omega) hl (by rw [Nat.sub_add_cancel (by omega)]; exact hv) (hz _ (by omega)) hXn), rfl, rfl⟩, ?wk⟩
   case lt => omega
   case wk => exact Wk.sub ⟨rfl, rfl, rfl, (by first | rfl | exact int_eq (by omega) | exact int_nm (by omega)), (by first | rfl | simp), trivial⟩ ⟨rfl, trivial⟩
  ·have hXn := cmpN_nneg h2
   refine awp_skip (hK9 _ (awp_seq fun K11 hK11 => awp_region rfl (o_as (nm .u64 0) rfl (o_as (nm .u64 1000000000) rfl (aops_end (hK11 _ (awp_seq fun K12 hK12 => ?_)))))))
   refine awp_block ?_
   refine awp_loopR (fun κ σ => ∃ (l : Nat), ∃ (h : Nat), (l < h) ∧ (h ≤ 1000000000) ∧ (n * l ≤ ((digs m).getD (j - 1) 0 + 1000000000 * r)) ∧ (((digs m).getD (j - 1) 0 + 1000000000 * r) < n * h) ∧ (h - l) = κ ∧ σ = ⟨[(0, .sl 1 (ns .u32 (digs m))), (1, .sl 1 (ns .u32 (digs n))), (6, .row 3), (8, Nv (j - 1)), (7, .slc 1 (ns .u32 (digs ((digs m).getD (j - 1) 0 + 1000000000 * r))) ((digs ((digs m).getD (j - 1) 0 + 1000000000 * r)).length)), (9, nm .u64 l), (10, nm .u64 h)], [(3, .row 145 1 (ns .u32 o))]⟩) ⟨_, _, ⟨0, 1000000000, (by decide), Nat.le_refl _, (by rw [Nat.mul_zero]; exact Nat.zero_le _), hXt, rfl, rfl⟩, ?wk1⟩ ?rd1
   case wk1 =>
    exact Wk.sub ⟨rfl, rfl, rfl, rfl, rfl, (by first | rfl | exact nm_int (by omega)), (by first | rfl | exact nm_int (by omega)), trivial⟩ ⟨rfl, trivial⟩
   rintro κ _ ⟨l, h, hlh, hh, hlo, hhi, rfl, rfl⟩
   have hml := digs_mul_len n ((l + h) / 2)
   have hmd := digs_len_small (n := (l + h) / 2) (by omega)
   have hnl := digs_len_le hlo
   refine awp_seq fun K13 hK13 => awp_seq fun K14 hK14 => awp_region rfl (o_mv (nm .u64 h) rfl (o_mv (nm .u64 l) rfl ?_))
   refine n_sub h l gn rfl rfl (by omega) (by simp only [topOf]; omega) ?_
   refine n_gtr (h - l) 1 gn rfl rfl ?_
   refine aops_end (hK14 _ ?_)
   refine awp_condQ (q := 1 < (h - l)) rfl (fun h3 => ?_) (fun h3 => ?_)
   ·refine awp_skip (hK13 _ ?_)
    refine awp_block ?_
    refine awp_seq fun K15 hK15 => awp_region rfl (o_mv (nm .u64 l) rfl (o_mv (nm .u64 h) rfl ?_))
    refine n_add l h gn rfl rfl (by simp only [topOf]; omega) ?_
    refine n_quo (l + h) 2 gn rfl rfl (by omega) (by simp only [topOf]; omega) ?_
    refine o_as (nm .u64 ((l + h) / 2)) rfl (aops_end (hK15 _ (awp_seq fun K16 hK16 => awp_region rfl (o_mv (.sl 1 (ns .u32 (digs n))) rfl (o_mv (nm .u64 ((l + h) / 2)) rfl ?_)))))
    refine o_ct (c_wTimes n ((l + h) / 2) (by omega) (by omega)) gn f75_ rfl ?_
    refine o_mv (.slc 1 (ns .u32 (digs ((digs m).getD (j - 1) 0 + 1000000000 * r))) ((digs ((digs m).getD (j - 1) 0 + 1000000000 * r)).length)) rfl ?_
    refine o_callG [] [.sl 1 (ns .u32 (digs (n * ((l + h) / 2)))), .slc 1 (ns .u32 (digs ((digs m).getD (j - 1) 0 + 1000000000 * r))) ((digs ((digs m).getD (j - 1) 0 + 1000000000 * r)).length)] _ (Iv (cmpN (n * ((l + h) / 2)) ((digs m).getD (j - 1) 0 + 1000000000 * r))) [(3, .row 145 1 (ns .u32 o))] gn f24_ rfl trivial rfl rfl (LeL.cons (AV.le_refl _) (LeL.cons AV.le_slc LeL.nil)) (c_wSize (n * ((l + h) / 2)) ((digs m).getD (j - 1) 0 + 1000000000 * r)) rfl ?_
    refine o_leq (a := (cmpN (n * ((l + h) / 2)) ((digs m).getD (j - 1) 0 + 1000000000 * r))) (c := ((0 : Nat) : Int)) gn rfl rfl ?_
    refine aops_end (hK16 _ ?_)
    refine awp_condQ (q := (cmpN (n * ((l + h) / 2)) ((digs m).getD (j - 1) 0 + 1000000000 * r)) ≤ ((0 : Nat) : Int)) rfl (fun h4 => ?_) (fun h4 => ?_)
    ·refine awp_region rfl (o_mv (nm .u64 ((l + h) / 2)) rfl (o_as (nm .u64 ((l + h) / 2)) rfl (aops_end ?_)))
     refine ⟨_, _, ?lt, ⟨(l + h) / 2, h, (by omega), hh, cmpN_le h4, hhi, rfl, rfl⟩, ?wk⟩
     case lt => omega
     case wk => exact Wk.sub ⟨rfl, rfl, rfl, rfl, rfl, (by first | rfl | exact nm_int (by omega)), rfl, trivial⟩ ⟨rfl, trivial⟩
    ·refine awp_region rfl (o_mv (nm .u64 ((l + h) / 2)) rfl (o_as (nm .u64 ((l + h) / 2)) rfl (aops_end ?_)))
     refine ⟨_, _, ?lt, ⟨l, (l + h) / 2, (by omega), (by omega), hlo, cmpN_nle h4, rfl, rfl⟩, ?wk⟩
     case lt => omega
     case wk => exact Wk.sub ⟨rfl, rfl, rfl, rfl, rfl, rfl, (by first | rfl | exact nm_int (by omega)), trivial⟩ ⟨rfl, trivial⟩
   ·have hh1 : h = l + 1 := by omega
    have hend := hhi
    rw [hh1] at hend
    refine awp_exit ?_
    refine hK12 _ (awp_seq fun K17 hK17 => awp_region rfl (o_mv (.row 3) rfl (o_mv (Nv (j - 1)) rfl (o_mv (nm .u64 l) rfl ?_))))
    refine n_conv l gn rfl f42_ f28_ (by simp only [topOf]; omega) ?_
    refine n_indexRow o (j - 1) gn f16_ rfl rfl rfl (by omega) ?_
    refine n_storeRow o (j - 1) l [(3, .row 145 1 (ns .u32 (o.set (j - 1) l)))] gn f44_ rfl rfl rfl (by omega) rfl ?_
    refine aops_end (hK17 _ (awp_region rfl (o_mv (.slc 1 (ns .u32 (digs ((digs m).getD (j - 1) 0 + 1000000000 * r))) ((digs ((digs m).getD (j - 1) 0 + 1000000000 * r)).length)) rfl (o_mv (.sl 1 (ns .u32 (digs n))) rfl (o_mv (nm .u64 l) rfl ?_)))))
    refine o_ct (c_wTimes n l (by omega) (by omega)) gn f75_ rfl ?_
    refine o_callG [] [.slc 1 (ns .u32 (digs ((digs m).getD (j - 1) 0 + 1000000000 * r))) ((digs ((digs m).getD (j - 1) 0 + 1000000000 * r)).length), .sl 1 (ns .u32 (digs (n * l)))] _ (.sl 1 (ns .u32 (dgn (digs ((digs m).getD (j - 1) 0 + 1000000000 * r)).length (((digs m).getD (j - 1) 0 + 1000000000 * r) - (n * l))))) [(3, .row 145 1 (ns .u32 (o.set (j - 1) l)))] gn f36_ rfl trivial rfl rfl (LeL.cons AV.le_slc (LeL.cons (AV.le_refl _) LeL.nil)) (c_wLess ((digs m).getD (j - 1) 0 + 1000000000 * r) (n * l) (by omega) (by omega) (by omega)) rfl ?_
    refine o_ct (c_wTrimX false (dgn (digs ((digs m).getD (j - 1) 0 + 1000000000 * r)).length (((digs m).getD (j - 1) 0 + 1000000000 * r) - (n * l))) (by first | assumption | exact dgn_dig _ _ | exact digs_dig _ | exact Dig.snoc (by assumption) (by assumption) | exact Dig.cons (by omega) (digs_dig _))) gn f35_ rfl ?_
    refine o_fieldS (.slc 1 (ns .u32 (digs (sg false (val (dgn (digs ((digs m).getD (j - 1) 0 + 1000000000 * r)).length (((digs m).getD (j - 1) 0 + 1000000000 * r) - (n * l))))).natAbs)) ((digs (sg false (val (dgn (digs ((digs m).getD (j - 1) 0 + 1000000000 * r)).length (((digs m).getD (j - 1) 0 + 1000000000 * r) - (n * l))))).natAbs).length)) gn f5_ f6_ rfl rfl ?_
    refine n_as (v' := (.slc 1 (ns .u32 (digs (((digs m).getD (j - 1) 0 + 1000000000 * r) - n * l))) ((digs (((digs m).getD (j - 1) 0 + 1000000000 * r) - n * l)).length))) (by exact nc_sg (val_minus _ _)) ?_
    refine o_as (.slc 1 (ns .u32 (digs (((digs m).getD (j - 1) 0 + 1000000000 * r) - n * l))) ((digs (((digs m).getD (j - 1) 0 + 1000000000 * r) - n * l)).length)) rfl (aops_end (hK7 _ (awp_region rfl (o_mv (Nv (j - 1)) rfl ?_))))
    refine o_sub (a := ((j - 1 : Nat) : Int)) (c := ((1 : Nat) : Int)) gn rfl rfl (by exact wrap64 (by omega) (by omega)) ?_
    refine o_as (Iv (((j - 1 : Nat) : Int) - ((1 : Nat) : Int))) rfl (aops_end ?_)
    refine ⟨_, _, ?lt, ⟨j - 1, o.set (j - 1) l, ((digs m).getD (j - 1) 0 + 1000000000 * r) - n * l, (by omega), (by simp only [List.length_set]; exact hl), (hd.set (by omega)), (fun k hk => by rw [getD_set_off (by omega)]; exact hz k (by omega)), quo_rest hlo hend, (quo_put (by omega) hl (by rw [Nat.sub_add_cancel (by omega)]; exact hv) hlo hend), rfl, rfl⟩, ?wk⟩
    case lt => omega
    case wk => exact Wk.sub ⟨rfl, rfl, rfl, (by first | rfl | exact int_eq (by omega) | exact int_nm (by omega)), (by first | rfl | simp), trivial⟩ ⟨(by first | rfl | exact row_ns (by simp)), trivial⟩
 ·have hj0 : j = 0 := by omega
  have hv0 := hv
  rw [hj0] at hv0
  have hE := div_end hr hv0
  refine awp_exit ?_
  refine hK3 _ (awp_seq fun K18 hK18 => awp_region rfl (o_mv (.row 3) rfl (o_mv (.slc 1 (ns .u32 (digs r)) ((digs r).length)) rfl (o_as (.row 3) rfl (o_as (.slc 1 (ns .u32 (digs r)) ((digs r).length)) rfl (aops_end (hK18 _ ?_)))))))
  refine awp_wk (σ' := ⟨[(4, .row 3), (5, .slc 1 (ns .u32 (digs r)) ((digs r).length))], [(3, .row 145 1 (ns .u32 o))]⟩) (Wk.sub ⟨rfl, rfl, trivial⟩ ⟨rfl, trivial⟩) ?_
  refine awp_wk (σ' := ⟨[(4, .sl 1 (ns .u32 o)), (5, .slc 1 (ns .u32 (digs r)) ((digs r).length))], []⟩) (Wk.freeze (id := 3) (e := 145) (sz := 1) (cs := (ns .u32 o)) rfl) ?_
  refine awp_ret ?_
  refine post_ret ⟨[.sl 1 (ns .u32 o), .sl 1 (ns .u32 (digs r))], ⟨AV.le_refl _, AV.le_slc, trivial⟩, rfl, ?_⟩
  exact tup_eq2 (ns_congr (dgn_eq hd hl hE.1).symm) (ns_congr (by rw [← hE.2]))

end Go.Proofs.YtdmkejloknejdaaGreatDoor

namespace Go.Proofs.YtdmkejloknejdaaGreatDoor
open Go Go.Ab Go.Mth
theorem f76_ : callable cx.P 144 = true := by kernel_rfl
theorem f77_ : callable cx.P 119 = true := by kernel_rfl
theorem c_wDivide (x y : Int) (hy : 0 < y) (hx : (digs x.natAbs).length ≤ 800000000) (hyl : (digs y.natAbs).length ≤ 800000000) : ECalls cx 119 [intW x, intW y] (.tup [intW (x / y), intW (x % y)]) := by
 refine ecalls_of_awp Tryz.func119 (c := _) rfl (Nat.le_of_ble_eq_true rfl) ?_
 show awp cx 40 _ (postF cx Tryz.f119 _) ⟨[(0, intW x), (1, intW y)], []⟩
 have hlq := fun b => len_qN b x y
 have hlr := fun b => len_rN b x y
 have hq1 : (digs ((sg true (val (dgn (digs (x.natAbs)).length (x.natAbs / y.natAbs)))).natAbs)).length ≤ (digs x.natAbs).length := hlq true
 have hr1 : (digs ((sg true (val (digs (x.natAbs % y.natAbs)))).natAbs)).length ≤ (digs x.natAbs).length := hlr true
 have ho := len_one
 refine awp_seq fun K0 hK0 => awp_region rfl ?_
 refine o_box 2 [bp (x < 0), .sl 1 (ns .u32 (digs x.natAbs))] gn rfl rfl ?_
 refine o_box 3 [bp (y < 0), .sl 1 (ns .u32 (digs y.natAbs))] gn rfl rfl ?_
 refine o_alloc 4 [Fv, Zv] gn f15_ rfl rfl rfl ?_
 refine o_alloc 5 [Fv, Zv] gn f15_ rfl rfl rfl ?_
 refine aops_end (hK0 _ (awp_seq fun K1 hK1 => awp_region rfl ?_))
 refine o_fieldRef 1 gn f5_ rfl rfl ?_
 refine o_loadS (.sl 1 (ns .u32 (digs x.natAbs))) gn f6_ rfl rfl rfl ?_
 refine o_fieldRef 1 gn f5_ rfl rfl ?_
 refine o_loadS (.sl 1 (ns .u32 (digs y.natAbs))) gn f6_ rfl rfl rfl ?_
 refine o_ct (c_wQuot (x.natAbs) (y.natAbs) (by omega) (by omega) (by omega)) gn f76_ rfl ?_
 refine o_mv (.tup [.sl 1 (ns .u32 (dgn (digs (x.natAbs)).length (x.natAbs / y.natAbs))), .sl 1 (ns .u32 (digs (x.natAbs % y.natAbs)))]) rfl (o_extract (.sl 1 (ns .u32 (dgn (digs (x.natAbs)).length (x.natAbs / y.natAbs)))) gn rfl rfl (o_extract (.sl 1 (ns .u32 (digs (x.natAbs % y.natAbs)))) gn rfl rfl (o_as (.sl 1 (ns .u32 (dgn (digs (x.natAbs)).length (x.natAbs / y.natAbs)))) rfl (o_as (.sl 1 (ns .u32 (digs (x.natAbs % y.natAbs)))) rfl (aops_end (hK1 _ (awp_seq fun K2 hK2 => awp_seq fun K3 hK3 => awp_region rfl ?_)))))))
 refine o_fieldRef 0 gn f8_ rfl rfl ?_
 refine o_loadS (bp (x < 0)) gn f4_ rfl rfl rfl ?_
 refine o_notP (q := x < 0) gn rfl ?_
 refine aops_end (hK3 _ ?_)
 refine awp_condQ (q := ¬ (x < 0)) rfl (fun h1 => ?_) (fun h1 => ?_)
 ·refine awp_seq fun K4 hK4 => awp_region rfl (o_mv (.sl 1 (ns .u32 (dgn (digs (x.natAbs)).length (x.natAbs / y.natAbs)))) rfl ?_)
  refine o_ct (c_wTrim false (dgn (digs (x.natAbs)).length (x.natAbs / y.natAbs)) (by first | assumption | exact dgn_dig _ _ | exact digs_dig _ | exact Dig.snoc (by assumption) (by assumption) | exact Dig.cons (by omega) (digs_dig _))) gn f35_ rfl ?_
  refine o_mv (.sl 1 (ns .u32 (digs (x.natAbs % y.natAbs)))) rfl ?_
  refine o_ct (c_wTrim false (digs (x.natAbs % y.natAbs)) (by first | assumption | exact dgn_dig _ _ | exact digs_dig _ | exact Dig.snoc (by assumption) (by assumption) | exact Dig.cons (by omega) (digs_dig _))) gn f35_ rfl ?_
  refine o_store [(5, .var 90 [Fv, Zv]), (4, oZ 90 .u32 (sg false (val (dgn (digs (x.natAbs)).length (x.natAbs / y.natAbs))))), (3, oZ 90 .u32 y), (2, oZ 90 .u32 x)] gn f19_ rfl rfl rfl rfl rfl rfl ?_
  refine o_store [(5, oZ 90 .u32 (sg false (val (digs (x.natAbs % y.natAbs))))), (4, oZ 90 .u32 (sg false (val (dgn (digs (x.natAbs)).length (x.natAbs / y.natAbs))))), (3, oZ 90 .u32 y), (2, oZ 90 .u32 x)] gn f19_ rfl rfl rfl rfl rfl rfl ?_
  refine aops_end (hK4 _ ?_)
  refine awp_ret ?_
  refine post_ret ⟨[intW (sg false (val (dgn (digs (x.natAbs)).length (x.natAbs / y.natAbs)))), intW (sg false (val (digs (x.natAbs % y.natAbs))))], ⟨⟨4, oZ 90 .u32 (sg false (val (dgn (digs (x.natAbs)).length (x.natAbs / y.natAbs)))), rfl, rfl, rfl, Or.inl ⟨f20_, AV.le_refl _⟩⟩, ⟨5, oZ 90 .u32 (sg false (val (digs (x.natAbs % y.natAbs)))), rfl, rfl, rfl, Or.inl ⟨f20_, AV.le_refl _⟩⟩, trivial⟩, rfl, ?_⟩
  have e := div1 h1 hy
  exact tup_eq2 (congrArg intW e.1) (congrArg intW e.2)
 ·refine awp_skip (hK2 _ (awp_seq fun K5 hK5 => awp_region rfl (o_mv (.sl 1 (ns .u32 (dgn (digs (x.natAbs)).length (x.natAbs / y.natAbs)))) rfl ?_)))
  refine o_ct (c_wTrim true (dgn (digs (x.natAbs)).length (x.natAbs / y.natAbs)) (by first | assumption | exact dgn_dig _ _ | exact digs_dig _ | exact Dig.snoc (by assumption) (by assumption) | exact Dig.cons (by omega) (digs_dig _))) gn f35_ rfl ?_
  refine o_mv (.sl 1 (ns .u32 (digs (x.natAbs % y.natAbs)))) rfl ?_
  refine o_ct (c_wTrim true (digs (x.natAbs % y.natAbs)) (by first | assumption | exact dgn_dig _ _ | exact digs_dig _ | exact Dig.snoc (by assumption) (by assumption) | exact Dig.cons (by omega) (digs_dig _))) gn f35_ rfl ?_
  refine o_alloc 6 [Fv, Zv] gn f15_ rfl rfl rfl ?_
  refine o_alloc 7 [Fv, Zv] gn f15_ rfl rfl rfl ?_
  refine o_store [(7, .var 90 [Fv, Zv]), (6, oZ 90 .u32 (sg true (val (dgn (digs (x.natAbs)).length (x.natAbs / y.natAbs))))), (5, .var 90 [Fv, Zv]), (4, .var 90 [Fv, Zv]), (3, oZ 90 .u32 y), (2, oZ 90 .u32 x)] gn f19_ rfl rfl rfl rfl rfl rfl ?_
  refine o_store [(7, oZ 90 .u32 (sg true (val (digs (x.natAbs % y.natAbs))))), (6, oZ 90 .u32 (sg true (val (dgn (digs (x.natAbs)).length (x.natAbs / y.natAbs))))), (5, .var 90 [Fv, Zv]), (4, .var 90 [Fv, Zv]), (3, oZ 90 .u32 y), (2, oZ 90 .u32 x)] gn f19_ rfl rfl rfl rfl rfl rfl ?_
  refine aops_end (hK5 _ (awp_seq fun K6 hK6 => awp_seq fun K7 hK7 => awp_region rfl ?_))
  refine o_loadA [bp ((sg true (val (digs (x.natAbs % y.natAbs)))) < 0), .sl 1 (ns .u32 (digs (sg true (val (digs (x.natAbs % y.natAbs)))).natAbs))] gn f20_ rfl rfl rfl rfl rfl ?_
  refine o_ct (c_wSign (sg true (val (digs (x.natAbs % y.natAbs))))) gn f23_ rfl ?_
  refine o_lss (a := (sgn (sg true (val (digs (x.natAbs % y.natAbs)))))) (c := ((0 : Nat) : Int)) gn rfl rfl ?_
  refine aops_end (hK7 _ ?_)
  refine awp_condQ (q := (sgn (sg true (val (digs (x.natAbs % y.natAbs))))) < ((0 : Nat) : Int)) rfl (fun h2 => ?_) (fun h2 => ?_)
  ·refine awp_seq fun K8 hK8 => awp_regionD rfl ?_
   refine o_loadA [bp ((sg true (val (dgn (digs (x.natAbs)).length (x.natAbs / y.natAbs)))) < 0), .sl 1 (ns .u32 (digs (sg true (val (dgn (digs (x.natAbs)).length (x.natAbs / y.natAbs)))).natAbs))] gn f20_ rfl rfl rfl rfl rfl ?_
   refine o_ct (c_wOf (1 : Int) (by first | decide | omega) (by first | decide | omega)) gn f46_ rfl ?_
   refine o_ct (c_wSub (sg true (val (dgn (digs (x.natAbs)).length (x.natAbs / y.natAbs)))) (1 : Int) (by first | omega | assumption | (simp only [Int.natAbs_neg]; omega)) (by first | omega | assumption | (simp only [Int.natAbs_neg]; omega))) gn f47_ rfl ?_
   refine o_loadA [bp ((sg true (val (digs (x.natAbs % y.natAbs)))) < 0), .sl 1 (ns .u32 (digs (sg true (val (digs (x.natAbs % y.natAbs)))).natAbs))] gn f20_ rfl rfl rfl rfl rfl ?_
   refine o_loadA [bp (y < 0), .sl 1 (ns .u32 (digs y.natAbs))] gn f20_ rfl rfl rfl rfl rfl ?_
   refine o_ct (c_wAdd (sg true (val (digs (x.natAbs % y.natAbs)))) y (by first | omega | assumption | (simp only [Int.natAbs_neg]; omega)) (by first | omega | assumption | (simp only [Int.natAbs_neg]; omega))) gn f40_ rfl ?_
   refine o_store [(7, oZ 90 .u32 (sg true (val (digs (x.natAbs % y.natAbs))))), (6, oZ 90 .u32 (sg true (val (dgn (digs (x.natAbs)).length (x.natAbs / y.natAbs))))), (5, .var 90 [Fv, Zv]), (4, (oZ 90 .u32 ((sg true (val (dgn (digs (x.natAbs)).length (x.natAbs / y.natAbs)))) - (1 : Int)))), (3, oZ 90 .u32 y), (2, oZ 90 .u32 x)] gn f19_ rfl rfl rfl rfl rfl rfl ?_
   refine o_store [(7, oZ 90 .u32 (sg true (val (digs (x.natAbs % y.natAbs))))), (6, oZ 90 .u32 (sg true (val (dgn (digs (x.natAbs)).length (x.natAbs / y.natAbs))))), (5, oZ 90 .u32 ((sg true (val (digs (x.natAbs % y.natAbs)))) + y)), (4, (oZ 90 .u32 ((sg true (val (dgn (digs (x.natAbs)).length (x.natAbs / y.natAbs)))) - (1 : Int)))), (3, oZ 90 .u32 y), (2, oZ 90 .u32 x)] gn f19_ rfl rfl rfl rfl rfl rfl ?_
   refine aops_end ⟨by kernel_rfl, ?_⟩
   refine hK8 _ ?_
   refine awp_ret ?_
   refine post_ret ⟨[(intW ((sg true (val (dgn (digs (x.natAbs)).length (x.natAbs / y.natAbs)))) - (1 : Int))), intW ((sg true (val (digs (x.natAbs % y.natAbs)))) + y)], ⟨⟨4, (oZ 90 .u32 ((sg true (val (dgn (digs (x.natAbs)).length (x.natAbs / y.natAbs)))) - (1 : Int))), rfl, rfl, rfl, Or.inl ⟨f20_, AV.le_refl _⟩⟩, ⟨5, oZ 90 .u32 ((sg true (val (digs (x.natAbs % y.natAbs)))) + y), rfl, rfl, rfl, Or.inl ⟨f20_, AV.le_refl _⟩⟩, trivial⟩, rfl, ?_⟩
   have e := div2 (Decidable.not_not.1 h1) hy h2
   exact tup_eq2 (congrArg intW e.1) (congrArg intW e.2)
  ·refine awp_skip (hK6 _ (awp_seq fun K9 hK9 => awp_regionD rfl ?_))
   refine o_loadA [bp ((sg true (val (dgn (digs (x.natAbs)).length (x.natAbs / y.natAbs)))) < 0), .sl 1 (ns .u32 (digs (sg true (val (dgn (digs (x.natAbs)).length (x.natAbs / y.natAbs)))).natAbs))] gn f20_ rfl rfl rfl rfl rfl ?_
   refine o_loadA [bp ((sg true (val (digs (x.natAbs % y.natAbs)))) < 0), .sl 1 (ns .u32 (digs (sg true (val (digs (x.natAbs % y.natAbs)))).natAbs))] gn f20_ rfl rfl rfl rfl rfl ?_
   refine o_store [(7, oZ 90 .u32 (sg true (val (digs (x.natAbs % y.natAbs))))), (6, oZ 90 .u32 (sg true (val (dgn (digs (x.natAbs)).length (x.natAbs / y.natAbs))))), (5, .var 90 [Fv, Zv]), (4, oZ 90 .u32 (sg true (val (dgn (digs (x.natAbs)).length (x.natAbs / y.natAbs))))), (3, oZ 90 .u32 y), (2, oZ 90 .u32 x)] gn f19_ rfl rfl rfl rfl rfl rfl ?_
   refine o_store [(7, oZ 90 .u32 (sg true (val (digs (x.natAbs % y.natAbs))))), (6, oZ 90 .u32 (sg true (val (dgn (digs (x.natAbs)).length (x.natAbs / y.natAbs))))), (5, oZ 90 .u32 (sg true (val (digs (x.natAbs % y.natAbs))))), (4, oZ 90 .u32 (sg true (val (dgn (digs (x.natAbs)).length (x.natAbs / y.natAbs))))), (3, oZ 90 .u32 y), (2, oZ 90 .u32 x)] gn f19_ rfl rfl rfl rfl rfl rfl ?_
   refine aops_end ⟨by kernel_rfl, ?_⟩
   refine hK9 _ ?_
   refine awp_ret ?_
   refine post_ret ⟨[intW (sg true (val (dgn (digs (x.natAbs)).length (x.natAbs / y.natAbs)))), intW (sg true (val (digs (x.natAbs % y.natAbs))))], ⟨⟨4, oZ 90 .u32 (sg true (val (dgn (digs (x.natAbs)).length (x.natAbs / y.natAbs)))), rfl, rfl, rfl, Or.inl ⟨f20_, AV.le_refl _⟩⟩, ⟨5, oZ 90 .u32 (sg true (val (digs (x.natAbs % y.natAbs)))), rfl, rfl, rfl, Or.inl ⟨f20_, AV.le_refl _⟩⟩, trivial⟩, rfl, ?_⟩
   have e := div3 (Decidable.not_not.1 h1) hy h2
   exact tup_eq2 (congrArg intW e.1) (congrArg intW e.2)

theorem c_wGcd (x y : Int) (hx : (digs x.natAbs).length ≤ 800000000) (hyl : (digs y.natAbs).length ≤ 800000000) : ECalls cx 118 [intW x, intW y] (intW ((Int.gcd x y : Nat) : Int)) := by
 refine ecalls_of_awp Tryz.func118 (c := _) rfl (Nat.le_of_ble_eq_true rfl) ?_
 show awp cx 25 _ (postF cx Tryz.f118 _) ⟨[(0, intW x), (1, intW y)], []⟩
 refine awp_seq fun K0 hK0 => awp_region rfl ?_
 refine o_box 2 [bp (x < 0), .sl 1 (ns .u32 (digs x.natAbs))] gn rfl rfl ?_
 refine o_box 3 [bp (y < 0), .sl 1 (ns .u32 (digs y.natAbs))] gn rfl rfl ?_
 refine o_alloc 4 [Fv, Zv] gn f15_ rfl rfl rfl ?_
 refine aops_end (hK0 _ (awp_seq fun K1 hK1 => awp_regionD rfl ?_))
 refine o_fieldRef 1 gn f5_ rfl rfl ?_
 refine o_loadS (.sl 1 (ns .u32 (digs x.natAbs))) gn f6_ rfl rfl rfl ?_
 refine o_ct (c_wTrim false (digs x.natAbs) (by first | assumption | exact dgn_dig _ _ | exact digs_dig _ | exact Dig.snoc (by assumption) (by assumption) | exact Dig.cons (by omega) (digs_dig _))) gn f35_ rfl ?_
 refine n_as (v' := (intW ((x.natAbs : Nat) : Int))) (by exact congrArg intW (by rw [val_digs]; rfl)) ?_
 refine o_fieldRef 1 gn f5_ rfl rfl ?_
 refine o_loadS (.sl 1 (ns .u32 (digs y.natAbs))) gn f6_ rfl rfl rfl ?_
 refine o_ct (c_wTrim false (digs y.natAbs) (by first | assumption | exact dgn_dig _ _ | exact digs_dig _ | exact Dig.snoc (by assumption) (by assumption) | exact Dig.cons (by omega) (digs_dig _))) gn f35_ rfl ?_
 refine n_as (v' := (intW ((y.natAbs : Nat) : Int))) (by exact congrArg intW (by rw [val_digs]; rfl)) ?_
 refine o_store [(4, .var 90 [Fv, Zv]), (3, oZ 90 .u32 y), (2, (oZ 90 .u32 ((x.natAbs : Nat) : Int)))] gn f19_ rfl rfl rfl rfl rfl rfl ?_
 refine o_store [(4, .var 90 [Fv, Zv]), (3, (oZ 90 .u32 ((y.natAbs : Nat) : Int))), (2, (oZ 90 .u32 ((x.natAbs : Nat) : Int)))] gn f19_ rfl rfl rfl rfl rfl rfl ?_
 refine aops_end ⟨by kernel_rfl, ?_⟩
 refine hK1 _ (awp_seq fun K2 hK2 => ?_)
 refine awp_block ?_
 refine awp_loopR (fun κ σ => ∃ (u : Nat), ∃ (v : Nat), (Nat.gcd u v = Int.gcd x y) ∧ ((digs u).length ≤ 800000000) ∧ ((digs v).length ≤ 800000000) ∧ v = κ ∧ σ = ⟨[(2, .ref 2 0), (3, .ref 3 0), (4, .ref 4 0)], [(2, (oZ 90 .u32 ((u : Nat) : Int))), (3, (oZ 90 .u32 ((v : Nat) : Int))), (4, .var 90 [Fv, Zv])]⟩) ⟨_, _, ⟨x.natAbs, y.natAbs, rfl, hx, hyl, rfl, rfl⟩, ?wk0⟩ ?rd0
 case wk0 =>
  exact Wk.sub ⟨rfl, rfl, rfl, trivial⟩ ⟨rfl, rfl, rfl, trivial⟩
 rintro κ _ ⟨u, v, hg, hu, hv, rfl, rfl⟩
 have hu2 : (digs ((u : Nat) : Int).natAbs).length ≤ 800000000 := hu
 have hv2 : (digs ((v : Nat) : Int).natAbs).length ≤ 800000000 := hv
 refine awp_seq fun K3 hK3 => awp_seq fun K4 hK4 => awp_region rfl ?_
 refine o_loadA [(bp (((v : Nat) : Int) < 0)), (.sl 1 (ns .u32 (digs ((v : Nat) : Int).natAbs)))] gn f20_ rfl rfl rfl rfl rfl ?_
 refine o_ct (c_wSign ((v : Nat) : Int)) gn f23_ rfl ?_
 refine o_gtr (a := (sgn ((v : Nat) : Int))) (c := ((0 : Nat) : Int)) gn rfl rfl ?_
 refine aops_end (hK4 _ ?_)
 refine awp_condQ (q := ((0 : Nat) : Int) < (sgn ((v : Nat) : Int))) rfl (fun h1 => ?_) (fun h1 => ?_)
 ·have hvp := sgn_pos.1 h1
  have hv0 : 0 < v := by omega
  refine awp_skip (hK3 _ ?_)
  refine awp_block ?_
  refine awp_seq fun K5 hK5 => awp_region rfl ?_
  refine o_loadA [(bp (((u : Nat) : Int) < 0)), (.sl 1 (ns .u32 (digs ((u : Nat) : Int).natAbs)))] gn f20_ rfl rfl rfl rfl rfl ?_
  refine o_loadA [(bp (((v : Nat) : Int) < 0)), (.sl 1 (ns .u32 (digs ((v : Nat) : Int).natAbs)))] gn f20_ rfl rfl rfl rfl rfl ?_
  refine o_ct (c_wDivide ((u : Nat) : Int) ((v : Nat) : Int) (by omega) (by omega) (by omega)) gn f77_ rfl ?_
  refine o_mv (.tup [(intW (((u : Nat) : Int) / ((v : Nat) : Int))), (intW (((u : Nat) : Int) % ((v : Nat) : Int)))]) rfl (o_extract (intW (((u : Nat) : Int) / ((v : Nat) : Int))) gn rfl rfl (o_extract (intW (((u : Nat) : Int) % ((v : Nat) : Int))) gn rfl rfl ?_))
  refine n_as (v' := (intW ((u % v : Nat) : Int))) (by exact congrArg intW (Int.natCast_emod u v).symm) ?_
  refine o_alloc 101 [Fv, Zv] gn f15_ rfl rfl rfl ?_
  refine o_alloc 102 [Fv, Zv] gn f15_ rfl rfl rfl ?_
  refine o_store [(102, .var 90 [Fv, Zv]), (101, (oZ 90 .u32 (((u : Nat) : Int) / ((v : Nat) : Int)))), (2, (oZ 90 .u32 ((u : Nat) : Int))), (3, (oZ 90 .u32 ((v : Nat) : Int))), (4, .var 90 [Fv, Zv])] gn f19_ rfl rfl rfl rfl rfl rfl ?_
  refine o_store [(102, (oZ 90 .u32 ((u % v : Nat) : Int))), (101, (oZ 90 .u32 (((u : Nat) : Int) / ((v : Nat) : Int)))), (2, (oZ 90 .u32 ((u : Nat) : Int))), (3, (oZ 90 .u32 ((v : Nat) : Int))), (4, .var 90 [Fv, Zv])] gn f19_ rfl rfl rfl rfl rfl rfl ?_
  refine aops_end (hK5 _ (awp_regionD rfl ?_))
  refine o_loadA [(bp (((v : Nat) : Int) < 0)), (.sl 1 (ns .u32 (digs ((v : Nat) : Int).natAbs)))] gn f20_ rfl rfl rfl rfl rfl ?_
  refine o_loadA [(bp (((u % v : Nat) : Int) < 0)), (.sl 1 (ns .u32 (digs ((u % v : Nat) : Int).natAbs)))] gn f20_ rfl rfl rfl rfl rfl ?_
  refine o_store [(102, (oZ 90 .u32 ((u % v : Nat) : Int))), (101, (oZ 90 .u32 (((u : Nat) : Int) / ((v : Nat) : Int)))), (2, (oZ 90 .u32 ((v : Nat) : Int))), (3, (oZ 90 .u32 ((v : Nat) : Int))), (4, .var 90 [Fv, Zv])] gn f19_ rfl rfl rfl rfl rfl rfl ?_
  refine o_store [(102, (oZ 90 .u32 ((u % v : Nat) : Int))), (101, (oZ 90 .u32 (((u : Nat) : Int) / ((v : Nat) : Int)))), (2, (oZ 90 .u32 ((v : Nat) : Int))), (3, (oZ 90 .u32 ((u % v : Nat) : Int))), (4, .var 90 [Fv, Zv])] gn f19_ rfl rfl rfl rfl rfl rfl ?_
  refine aops_end ⟨by kernel_rfl, ?_⟩
  refine ⟨_, _, ?lt, ⟨v, u % v, gcd_next hg, hv, Nat.le_trans (digs_len_mod u hv0) hv, rfl, rfl⟩, ?wk⟩
  case lt => exact Nat.mod_lt u hv0
  case wk => exact Wk.sub ⟨rfl, rfl, rfl, trivial⟩ ⟨rfl, rfl, rfl, trivial⟩
 ·have hvz : v = 0 := (Nat.eq_zero_or_pos v).elim id (fun e => absurd (sgn_pos.2 (show (0 : Int) < ((v : Nat) : Int) by omega)) h1)
  refine awp_exit ?_
  refine hK2 _ (awp_seq fun K6 hK6 => awp_region rfl ?_)
  refine o_loadA [(bp (((u : Nat) : Int) < 0)), (.sl 1 (ns .u32 (digs ((u : Nat) : Int).natAbs)))] gn f20_ rfl rfl rfl rfl rfl ?_
  refine o_store [(2, (oZ 90 .u32 ((u : Nat) : Int))), (3, (oZ 90 .u32 ((v : Nat) : Int))), (4, (oZ 90 .u32 ((u : Nat) : Int)))] gn f19_ rfl rfl rfl rfl rfl rfl ?_
  refine aops_end (hK6 _ ?_)
  refine awp_ret ?_
  refine post_ret ⟨[(intW ((u : Nat) : Int))], ⟨⟨4, (oZ 90 .u32 ((u : Nat) : Int)), rfl, rfl, rfl, Or.inl ⟨f20_, AV.le_refl _⟩⟩, trivial⟩, rfl, ?_⟩
  exact congrArg intW (congrArg Int.ofNat (gcd_end hg hvz))

end Go.Proofs.YtdmkejloknejdaaGreatDoor

namespace Go.Proofs.YtdmkejloknejdaaGreatDoor
open Go Go.Ab Go.Mth
theorem f78_ : tyZero cx.P 140 = some [Go.Value.bool false, Go.Value.slice none 0 0, Go.Value.bool false, Go.Value.slice none 0 0, Go.Value.bool false, Go.Value.slice none 0 0] := by kernel_rfl
theorem f79_ : tyPlaces cx.P 140 = some (fun i => (#[(0, 2), (2, 2), (4, 2)] : Array (Nat × Nat))[i]?) := by kernel_rfl
theorem f80_ : tySize cx.P 140 = some 6 := by kernel_rfl
theorem f81_ : callable cx.P 116 = true := by kernel_rfl
theorem f82_ : tyField cx.P 140 0 = some (0, 90) := by kernel_rfl
theorem f83_ : tyField cx.P 140 1 = some (2, 90) := by kernel_rfl
theorem f84_ : tyField cx.P 140 2 = some (4, 90) := by kernel_rfl
theorem f85_ : tyAgg cx.P 140 = some 6 := by kernel_rfl
theorem c_oIs (m : MapM) (w : List Int) : ECalls cx 102 [mapV m, Lv w] (bp (OkW m w)) := by
 refine ecalls_of_awp Tryz.func102 (c := _) rfl (Nat.le_of_ble_eq_true rfl) ?_
 show awp cx 25 _ (postF cx Tryz.f102 _) ⟨[(0, mapV m), (1, Lv w)], []⟩
 refine awp_bound (i := 1) rfl fun hwl => ?_
 replace hwl := is_bnd hwl
 refine awp_seq fun K0 hK0 => awp_region rfl ?_
 refine o_box 2 [Iv m.mod, Lv m.mul, Lv m.add] gn rfl rfl ?_
 refine o_as Fv rfl (aops_end (hK0 _ (awp_seq fun K1 hK1 => awp_seq fun K2 hK2 => awp_region rfl (o_mv (Lv w) rfl ?_))))
 refine i_len w gn f2_ rfl ?_
 refine o_mv (Nv 0) rfl (aops_end (hK2 _ ?_))
 refine awp_block ?_
 refine awp_loopR (fun κ σ => ∃ (i : Nat), (i ≤ w.length) ∧ (∀ k, k < i → 0 ≤ w.getD k 0 ∧ w.getD k 0 < m.mod) ∧ (w.length - i) = κ ∧ σ = ⟨[(1, Lv w), (2, .ref 2 0), (7, Lv w), (8, Nv (w.length)), (9, Nv i)], [(2, oM 24 m)]⟩) ⟨_, _, ⟨0, (by omega), (fun k hk => by omega), rfl, rfl⟩, ?wk0⟩ ?rd0
 case wk0 =>
  exact Wk.sub ⟨rfl, rfl, rfl, rfl, (by first | rfl | exact nm_int (by omega)), trivial⟩ ⟨rfl, trivial⟩
 rintro κ _ ⟨i, hi, hf, rfl, rfl⟩
 refine awp_seq fun K3 hK3 => awp_region rfl ?_
 refine n_lss i (w.length) gn rfl rfl ?_
 refine aops_end (hK3 _ (awp_seq fun K4 hK4 => ?_))
 refine awp_condQ (q := i < (w.length)) rfl (fun h1 => ?_) (fun h1 => ?_)
 ·refine awp_skip (hK4 _ (awp_seq fun K5 hK5 => ?_))
  refine awp_block ?_
  refine awp_seq fun K6 hK6 => awp_region rfl ?_
  refine i_index w i gn f10_ rfl rfl (by omega) ?_
  refine i_loadI w i gn f11_ rfl (by omega) ?_
  refine o_as (Iv (w.getD i 0)) rfl (aops_end (hK6 _ (awp_seq fun K7 hK7 => awp_region rfl (o_mv (Iv (w.getD i 0)) rfl ?_))))
  refine o_lss (a := (w.getD i 0)) (c := ((0 : Nat) : Int)) gn rfl rfl ?_
  refine o_mv (bp ((w.getD i 0) < ((0 : Nat) : Int))) rfl ?_
  refine o_splitP (q := (w.getD i 0) < ((0 : Nat) : Int)) 15 rfl (fun h2 => ?_) (fun h2 => ?_)
  ·refine o_skip rfl rfl (decide_eq_true h2) (o_skip rfl rfl (decide_eq_true h2) (o_skip rfl rfl (decide_eq_true h2) (o_skip rfl rfl (decide_eq_true h2) ?_)))
   refine o_pickT Tv gn rfl (decide_eq_true h2) rfl ?_
   refine aops_end (hK7 _ ?_)
   refine awp_condB (b := true) rfl (fun _ => ?_) (fun hh => absurd (hh.symm.trans rfl) (by decide))
   refine awp_seq fun K8 hK8 => awp_region rfl (o_as Fv rfl (aops_end (hK8 _ ?_)))
   refine awp_ret ?_
   refine post_ret ⟨[Fv], ⟨AV.le_refl _, trivial⟩, rfl, ?_⟩
   exact (bl_bp (b := false) ⟨fun h => (by cases h), fun h => absurd h (fun hh => absurd (isW_get hh.1 h1).1 (by omega))⟩).symm
  ·refine o_move (Iv (w.getD i 0)) (Gd.yes rfl rfl (decide_eq_false h2)) rfl ?_
   refine o_fieldRef 0 (Gd.yes rfl rfl (decide_eq_false h2)) f59_ rfl rfl ?_
   refine o_loadS (Iv m.mod) (Gd.yes rfl rfl (decide_eq_false h2)) f11_ rfl rfl rfl ?_
   refine o_geq (a := (w.getD i 0)) (c := m.mod) (Gd.yes rfl rfl (decide_eq_false h2)) rfl rfl ?_
   refine o_pickF (bp (m.mod ≤ (w.getD i 0))) gn rfl (decide_eq_false h2) rfl ?_
   refine aops_end (hK7 _ ?_)
   refine awp_condQ (q := m.mod ≤ (w.getD i 0)) rfl (fun h3 => ?_) (fun h3 => ?_)
   ·refine awp_seq fun K9 hK9 => awp_region rfl (o_as Fv rfl (aops_end (hK9 _ ?_)))
    refine awp_ret ?_
    refine post_ret ⟨[Fv], ⟨AV.le_refl _, trivial⟩, rfl, ?_⟩
    exact (bl_bp (b := false) ⟨fun h => (by cases h), fun h => absurd h (fun hh => absurd (isW_get hh.1 h1).2 (by omega))⟩).symm
   ·refine awp_skip (hK5 _ (awp_region rfl ?_))
    refine n_add i 1 gn rfl rfl (by simp only [topOf]; omega) ?_
    refine o_mv (Nv (i + 1)) rfl (aops_end ?_)
    refine ⟨_, _, ?lt, ⟨i + 1, (by omega), (fun k hk => by rcases Nat.lt_or_ge k i with e | e; exact hf k e; rw [show k = i by omega]; omega), rfl, rfl⟩, ?wk⟩
    case lt => omega
    case wk => exact Wk.sub ⟨rfl, rfl, rfl, rfl, (by first | rfl | exact nm_int (by omega)), trivial⟩ ⟨rfl, trivial⟩
 ·refine awp_exit ?_
  refine hK1 _ (awp_seq fun K10 hK10 => awp_region rfl (o_mv (Lv w) rfl ?_))
  refine i_len w gn f2_ rfl ?_
  refine n_leq (w.length) 200 gn rfl rfl ?_
  refine o_as (bp ((w.length) ≤ 200)) rfl (aops_end (hK10 _ ?_))
  refine awp_ret ?_
  refine post_ret ⟨[bp ((w.length) ≤ 200)], ⟨AV.le_refl _, trivial⟩, rfl, ?_⟩
  exact bp_congr ⟨fun h => h.2, fun h => ⟨isW_of fun k hk => hf k (by omega), h⟩⟩

theorem c_oOf (m : MapM) (w : List Int) (hM : OkM m) (hw : IsW m w) (hl : w.length ≤ 200) : ECalls cx 91 [mapV m, Lv w] (linW (lineZ m w)) := by
 refine ecalls_of_awp Tryz.func91 (c := _) rfl (Nat.le_of_ble_eq_true rfl) ?_
 show awp cx 25 _ (postF cx Tryz.f91 _) ⟨[(0, mapV m), (1, Lv w)], []⟩
 have hM2 := hM
 obtain ⟨o1, o2, o3, o4, o5⟩ := hM2
 refine awp_seq fun K0 hK0 => awp_region rfl ?_
 refine o_box 2 [Iv m.mod, Lv m.mul, Lv m.add] gn rfl rfl ?_
 refine o_alloc 3 [Fv, Zv, Fv, Zv, Fv, Zv] gn f78_ rfl rfl rfl ?_
 refine aops_end (hK0 _ (awp_seq fun K1 hK1 => awp_region rfl ?_))
 refine o_ct (c_wOf (1 : Int) (by first | decide | omega) (by first | decide | omega)) gn f46_ rfl ?_
 refine o_ct (c_wOf (0 : Int) (by first | decide | omega) (by first | decide | omega)) gn f46_ rfl ?_
 refine o_ct (c_wOf (1 : Int) (by first | decide | omega) (by first | decide | omega)) gn f46_ rfl ?_
 refine o_build [(bp ((1 : Int) < 0)), (.sl 1 (ns .u32 (digs (1 : Int).natAbs))), (bp ((0 : Int) < 0)), (.sl 1 (ns .u32 (digs (0 : Int).natAbs))), (bp ((1 : Int) < 0)), (.sl 1 (ns .u32 (digs (1 : Int).natAbs)))] [(0, [(bp ((1 : Int) < 0)), (.sl 1 (ns .u32 (digs (1 : Int).natAbs)))]), (1, [(bp ((0 : Int) < 0)), (.sl 1 (ns .u32 (digs (0 : Int).natAbs)))]), (2, [(bp ((1 : Int) < 0)), (.sl 1 (ns .u32 (digs (1 : Int).natAbs)))])] gn f79_ f78_ rfl rfl rfl ?_
 refine o_alloc 4 [Fv, Zv, Fv, Zv, Fv, Zv] gn f78_ rfl rfl rfl ?_
 refine o_store [(4, (.var 140 [(bp ((1 : Int) < 0)), (.sl 1 (ns .u32 (digs (1 : Int).natAbs))), (bp ((0 : Int) < 0)), (.sl 1 (ns .u32 (digs (0 : Int).natAbs))), (bp ((1 : Int) < 0)), (.sl 1 (ns .u32 (digs (1 : Int).natAbs)))])), (3, .var 140 [Fv, Zv, Fv, Zv, Fv, Zv]), (2, oM 24 m)] gn f80_ rfl rfl rfl rfl rfl rfl ?_
 refine aops_end (hK1 _ (awp_seq fun K2 hK2 => awp_region rfl ?_))
 refine o_makeFunc [.ref 2 0, .ref 4 0] gn rfl ?_
 refine o_as (.clo 116 [.ref 2 0, .ref 4 0]) rfl (aops_end (hK2 _ (awp_seq fun K3 hK3 => awp_seq fun K4 hK4 => awp_region rfl (o_mv (Lv w) rfl ?_))))
 refine i_len w gn f2_ rfl ?_
 refine o_mv (Nv 0) rfl (aops_end (hK4 _ ?_))
 refine awp_block ?_
 refine awp_loopR (fun κ σ => ∃ (i : Nat), ∃ (l : LinZ), (i ≤ w.length) ∧ (l = lineZ m (w.take i)) ∧ (w.length - i) = κ ∧ σ = ⟨[(2, .ref 2 0), (4, .ref 3 0), (5, .ref 4 0), (6, .clo 116 [.ref 2 0, .ref 4 0]), (14, Lv w), (15, Nv (w.length)), (16, Nv i)], [(2, oM 24 m), (3, .var 140 [Fv, Zv, Fv, Zv, Fv, Zv]), (4, .var 140 [Bv (l.mul), Dv (l.mul), Bv (l.add), Dv (l.add), Bv (l.div), Dv (l.div)])]⟩) ⟨_, _, ⟨0, oneZ, (by omega), rfl, rfl, rfl⟩, ?wk0⟩ ?rd0
 case wk0 =>
  exact Wk.sub ⟨rfl, rfl, rfl, rfl, rfl, rfl, (by first | rfl | exact nm_int (by omega)), trivial⟩ ⟨rfl, rfl, rfl, trivial⟩
 rintro κ _ ⟨i, l, hi, hl2, rfl, rfl⟩
 refine awp_seq fun K5 hK5 => awp_region rfl ?_
 refine n_lss i (w.length) gn rfl rfl ?_
 refine aops_end (hK5 _ (awp_seq fun K6 hK6 => ?_))
 refine awp_condQ (q := i < (w.length)) rfl (fun h1 => ?_) (fun h1 => ?_)
 ·have hwi := isW_get hw h1
  refine awp_skip (hK6 _ (awp_seq fun K7 hK7 => ?_))
  refine awp_block ?_
  refine awp_seq fun K8 hK8 => awp_region rfl ?_
  refine i_index w i gn f10_ rfl rfl (by omega) ?_
  refine i_loadI w i gn f11_ rfl (by omega) ?_
  refine n_as (v' := (Nv ((w.getD i 0).toNat))) (nm_int (by omega)) ?_
  refine o_as (Nv ((w.getD i 0).toNat)) rfl (aops_end (hK8 _ ?_))
  refine awp_wk (σ' := ⟨[(2, .ref 2 0), (4, .ref 3 0), (5, .ref 4 0), (6, .clo 116 [.ref 2 0, .ref 4 0]), (14, Lv w), (15, Nv (w.length)), (16, Nv i), (17, bp (i < (w.length))), (18, .ip ((is .i64 w).drop i)), (19, Nv ((w.getD i 0).toNat)), (8, Nv ((w.getD i 0).toNat))], [(2, oM 24 m), (3, .var 140 [Fv, Zv, Fv, Zv, Fv, Zv]), (4, .var 140 [Bv (l.mul), Dv (l.mul), Bv (l.add), Dv (l.add), Bv (l.div), Dv (l.div)])]⟩) (Wk.sub ⟨rfl, rfl, rfl, rfl, rfl, rfl, rfl, rfl, rfl, rfl, rfl, trivial⟩ ⟨rfl, rfl, rfl, trivial⟩) ?_
  refine awp_regionSK 2 22 _ 116 [.ref 2 0, .ref 4 0] _ _ _ _ _ [Nv ((w.getD i 0).toNat), .ref 2 0, .ref 4 0] (linW (thenZ m l (w.getD i 0))) [(2, oM 24 m), (3, .var 140 [Fv, Zv, Fv, Zv, Fv, Zv]), (4, .var 140 [Bv (l.mul), Dv (l.mul), Bv (l.add), Dv (l.add), Bv (l.div), Dv (l.div)])] rfl rfl f81_ ?_
  refine o_mv (.clo 116 [.ref 2 0, .ref 4 0]) rfl (o_mv (Nv ((w.getD i 0).toNat)) rfl ?_)
  refine aops_end ⟨rfl, rfl, ?sc1, ?_⟩
  case sc1 =>
   refine scalls_of_awpB 9010 Tryz.func116 (c := _) rfl (Nat.le_of_ble_eq_true rfl) rfl rfl rfl (fun us1 => ?_)
   show awp cx 37 _ (postS cx Tryz.f116 (linW (thenZ m l (w.getD i 0))) [(2, oM 24 m), (3, .var 140 [Fv, Zv, Fv, Zv, Fv, Zv]), (4, .var 140 [Bv (l.mul), Dv (l.mul), Bv (l.add), Dv (l.add), Bv (l.div), Dv (l.div)])] 9010 [Nv ((w.getD i 0).toNat), .clo 116 [.ref 2 0, .ref 4 0], .ref 2 0, .ref 3 0, .ref 4 0, .clo 116 [.ref 2 0, .ref 4 0], Lv w, Nv (w.length), Nv i, bp (i < (w.length)), .ip ((is .i64 w).drop i), Nv ((w.getD i 0).toNat), Nv ((w.getD i 0).toNat)] us1) ⟨[(0, Nv ((w.getD i 0).toNat)), (1, .ref 2 0), (2, .ref 4 0)], [(9010, .pin [Nv ((w.getD i 0).toNat), .clo 116 [.ref 2 0, .ref 4 0], .ref 2 0, .ref 3 0, .ref 4 0, .clo 116 [.ref 2 0, .ref 4 0], Lv w, Nv (w.length), Nv i, bp (i < (w.length)), .ip ((is .i64 w).drop i), Nv ((w.getD i 0).toNat), Nv ((w.getD i 0).toNat)] us1), (2, oM 24 m), (3, .var 140 [Fv, Zv, Fv, Zv, Fv, Zv]), (4, .var 140 [Bv (l.mul), Dv (l.mul), Bv (l.add), Dv (l.add), Bv (l.div), Dv (l.div)])]⟩
   have hor := o5 ((w.getD i 0).toNat) (by omega)
   obtain ⟨L1, L2, L3⟩ := line_len hM (w.take i) (isW_take hw i)
   have L4 : (w.take i).length ≤ 200 := by rw [List.length_take]; omega
   rw [← hl2] at L1 L2 L3
   have hq1 := small_len (z := ((m.mul).getD ((w.getD i 0).toNat) 0)) (by omega)
   have ha1 := small_len (z := ((m.add).getD ((w.getD i 0).toNat) 0)) (by omega)
   have hd1 := small_len (z := m.mod) (by omega)
   have hm1 := len_mulZ l.mul ((m.mul).getD ((w.getD i 0).toNat) 0)
   have hm2 := len_mulZ l.add ((m.mul).getD ((w.getD i 0).toNat) 0)
   have hm3 := len_mulZ l.div ((m.add).getD ((w.getD i 0).toNat) 0)
   refine awp_seq fun K9 hK9 => awp_region rfl ?_
   refine o_alloc 101 [Fv, Zv, Fv, Zv, Fv, Zv] gn f78_ rfl rfl rfl ?_
   refine aops_end (hK9 _ (awp_seq fun K10 hK10 => awp_region rfl ?_))
   refine o_fieldRef 1 gn f60_ rfl rfl ?_
   refine o_loadS (Lv m.mul) gn f1_ rfl rfl rfl ?_
   refine o_mv (Nv ((w.getD i 0).toNat)) rfl ?_
   refine i_index m.mul ((w.getD i 0).toNat) gn f10_ rfl rfl (by omega) ?_
   refine i_loadI m.mul ((w.getD i 0).toNat) gn f11_ rfl (by omega) ?_
   refine o_ct (c_wOf ((m.mul).getD ((w.getD i 0).toNat) 0) (by first | decide | omega) (by first | decide | omega)) gn f46_ rfl ?_
   refine o_alloc 102 [Fv, Zv] gn f15_ rfl rfl rfl ?_
   refine o_store [(102, oZ 90 .u32 ((m.mul).getD ((w.getD i 0).toNat) 0)), (101, .var 140 [Fv, Zv, Fv, Zv, Fv, Zv]), (9010, .pin [Nv ((w.getD i 0).toNat), .clo 116 [.ref 2 0, .ref 4 0], .ref 2 0, .ref 3 0, .ref 4 0, .clo 116 [.ref 2 0, .ref 4 0], Lv w, Nv (w.length), Nv i, bp (i < (w.length)), .ip ((is .i64 w).drop i), Nv ((w.getD i 0).toNat), Nv ((w.getD i 0).toNat)] us1), (2, oM 24 m), (3, .var 140 [Fv, Zv, Fv, Zv, Fv, Zv]), (4, .var 140 [Bv (l.mul), Dv (l.mul), Bv (l.add), Dv (l.add), Bv (l.div), Dv (l.div)])] gn f19_ rfl rfl rfl rfl rfl rfl ?_
   refine aops_end (hK10 _ (awp_seq fun K11 hK11 => awp_regionD rfl ?_))
   refine o_fieldRef 0 gn f82_ rfl rfl ?_
   refine o_loadA [Bv (l.mul), Dv (l.mul)] gn f20_ rfl rfl rfl rfl rfl ?_
   refine o_loadA [bp ((m.mul).getD ((w.getD i 0).toNat) 0 < 0), .sl 1 (ns .u32 (digs ((m.mul).getD ((w.getD i 0).toNat) 0).natAbs))] gn f20_ rfl rfl rfl rfl rfl ?_
   refine o_ct (c_wMul (l.mul) ((m.mul).getD ((w.getD i 0).toNat) 0) (by first | omega | assumption | (simp only [Int.natAbs_neg]; omega)) (by first | omega | assumption | (simp only [Int.natAbs_neg]; omega))) gn f67_ rfl ?_
   refine o_fieldRef 2 gn f83_ rfl rfl ?_
   refine o_loadA [Bv (l.add), Dv (l.add)] gn f20_ rfl rfl rfl rfl rfl ?_
   refine o_loadA [bp ((m.mul).getD ((w.getD i 0).toNat) 0 < 0), .sl 1 (ns .u32 (digs ((m.mul).getD ((w.getD i 0).toNat) 0).natAbs))] gn f20_ rfl rfl rfl rfl rfl ?_
   refine o_ct (c_wMul (l.add) ((m.mul).getD ((w.getD i 0).toNat) 0) (by first | omega | assumption | (simp only [Int.natAbs_neg]; omega)) (by first | omega | assumption | (simp only [Int.natAbs_neg]; omega))) gn f67_ rfl ?_
   refine o_fieldRef 4 gn f84_ rfl rfl ?_
   refine o_loadA [Bv (l.div), Dv (l.div)] gn f20_ rfl rfl rfl rfl rfl ?_
   refine o_fieldRef 2 gn f61_ rfl rfl ?_
   refine o_loadS (Lv m.add) gn f1_ rfl rfl rfl ?_
   refine o_mv (Nv ((w.getD i 0).toNat)) rfl ?_
   refine i_index m.add ((w.getD i 0).toNat) gn f10_ rfl rfl (by omega) ?_
   refine i_loadI m.add ((w.getD i 0).toNat) gn f11_ rfl (by omega) ?_
   refine o_ct (c_wOf ((m.add).getD ((w.getD i 0).toNat) 0) (by first | decide | omega) (by first | decide | omega)) gn f46_ rfl ?_
   refine o_ct (c_wMul (l.div) ((m.add).getD ((w.getD i 0).toNat) 0) (by first | omega | assumption | (simp only [Int.natAbs_neg]; omega)) (by first | omega | assumption | (simp only [Int.natAbs_neg]; omega))) gn f67_ rfl ?_
   refine o_ct (c_wAdd ((l.add) * (m.mul).getD ((w.getD i 0).toNat) 0) ((l.div) * (m.add).getD ((w.getD i 0).toNat) 0) (by first | omega | assumption | (simp only [Int.natAbs_neg]; omega)) (by first | omega | assumption | (simp only [Int.natAbs_neg]; omega))) gn f40_ rfl ?_
   refine o_fieldRef 4 gn f84_ rfl rfl ?_
   refine o_loadA [Bv (l.div), Dv (l.div)] gn f20_ rfl rfl rfl rfl rfl ?_
   refine o_fieldRef 0 gn f59_ rfl rfl ?_
   refine o_loadS (Iv m.mod) gn f11_ rfl rfl rfl ?_
   refine o_ct (c_wOf m.mod (by first | decide | omega) (by first | decide | omega)) gn f46_ rfl ?_
   refine o_ct (c_wMul (l.div) m.mod (by first | omega | assumption | (simp only [Int.natAbs_neg]; omega)) (by first | omega | assumption | (simp only [Int.natAbs_neg]; omega))) gn f67_ rfl ?_
   refine o_build [bp (((l.mul) * (m.mul).getD ((w.getD i 0).toNat) 0) < 0), .sl 1 (ns .u32 (digs ((l.mul) * (m.mul).getD ((w.getD i 0).toNat) 0).natAbs)), bp ((((l.add) * (m.mul).getD ((w.getD i 0).toNat) 0) + ((l.div) * (m.add).getD ((w.getD i 0).toNat) 0)) < 0), .sl 1 (ns .u32 (digs (((l.add) * (m.mul).getD ((w.getD i 0).toNat) 0) + ((l.div) * (m.add).getD ((w.getD i 0).toNat) 0)).natAbs)), bp (((l.div) * m.mod) < 0), .sl 1 (ns .u32 (digs ((l.div) * m.mod).natAbs))] [(0, [bp (((l.mul) * (m.mul).getD ((w.getD i 0).toNat) 0) < 0), .sl 1 (ns .u32 (digs ((l.mul) * (m.mul).getD ((w.getD i 0).toNat) 0).natAbs))]), (1, [bp ((((l.add) * (m.mul).getD ((w.getD i 0).toNat) 0) + ((l.div) * (m.add).getD ((w.getD i 0).toNat) 0)) < 0), .sl 1 (ns .u32 (digs (((l.add) * (m.mul).getD ((w.getD i 0).toNat) 0) + ((l.div) * (m.add).getD ((w.getD i 0).toNat) 0)).natAbs))]), (2, [bp (((l.div) * m.mod) < 0), .sl 1 (ns .u32 (digs ((l.div) * m.mod).natAbs))])] gn f79_ f78_ rfl rfl rfl ?_
   refine o_store [(102, oZ 90 .u32 ((m.mul).getD ((w.getD i 0).toNat) 0)), (101, .var 140 [bp (((l.mul) * (m.mul).getD ((w.getD i 0).toNat) 0) < 0), .sl 1 (ns .u32 (digs ((l.mul) * (m.mul).getD ((w.getD i 0).toNat) 0).natAbs)), bp ((((l.add) * (m.mul).getD ((w.getD i 0).toNat) 0) + ((l.div) * (m.add).getD ((w.getD i 0).toNat) 0)) < 0), .sl 1 (ns .u32 (digs (((l.add) * (m.mul).getD ((w.getD i 0).toNat) 0) + ((l.div) * (m.add).getD ((w.getD i 0).toNat) 0)).natAbs)), bp (((l.div) * m.mod) < 0), .sl 1 (ns .u32 (digs ((l.div) * m.mod).natAbs))]), (9010, .pin [Nv ((w.getD i 0).toNat), .clo 116 [.ref 2 0, .ref 4 0], .ref 2 0, .ref 3 0, .ref 4 0, .clo 116 [.ref 2 0, .ref 4 0], Lv w, Nv (w.length), Nv i, bp (i < (w.length)), .ip ((is .i64 w).drop i), Nv ((w.getD i 0).toNat), Nv ((w.getD i 0).toNat)] us1), (2, oM 24 m), (3, .var 140 [Fv, Zv, Fv, Zv, Fv, Zv]), (4, .var 140 [Bv (l.mul), Dv (l.mul), Bv (l.add), Dv (l.add), Bv (l.div), Dv (l.div)])] gn f80_ rfl rfl rfl rfl rfl rfl ?_
   refine aops_end ⟨by kernel_rfl, ?_⟩
   refine hK11 _ ?_
   refine awp_wk (σ' := ⟨[(4, .ref 101 0)], [(9010, .pin [Nv ((w.getD i 0).toNat), .clo 116 [.ref 2 0, .ref 4 0], .ref 2 0, .ref 3 0, .ref 4 0, .clo 116 [.ref 2 0, .ref 4 0], Lv w, Nv (w.length), Nv i, bp (i < (w.length)), .ip ((is .i64 w).drop i), Nv ((w.getD i 0).toNat), Nv ((w.getD i 0).toNat)] us1), (2, oM 24 m), (3, .var 140 [Fv, Zv, Fv, Zv, Fv, Zv]), (4, .var 140 [Bv (l.mul), Dv (l.mul), Bv (l.add), Dv (l.add), Bv (l.div), Dv (l.div)]), (101, .var 140 [bp (((l.mul) * (m.mul).getD ((w.getD i 0).toNat) 0) < 0), .sl 1 (ns .u32 (digs ((l.mul) * (m.mul).getD ((w.getD i 0).toNat) 0).natAbs)), bp ((((l.add) * (m.mul).getD ((w.getD i 0).toNat) 0) + ((l.div) * (m.add).getD ((w.getD i 0).toNat) 0)) < 0), .sl 1 (ns .u32 (digs (((l.add) * (m.mul).getD ((w.getD i 0).toNat) 0) + ((l.div) * (m.add).getD ((w.getD i 0).toNat) 0)).natAbs)), bp (((l.div) * m.mod) < 0), .sl 1 (ns .u32 (digs ((l.div) * m.mod).natAbs))])]⟩) (Wk.sub ⟨rfl, trivial⟩ ⟨rfl, rfl, rfl, rfl, rfl, trivial⟩) ?_
   refine awp_ret ?_
   try dsimp only [thenK, inBlk]
   refine postS_ret (extra := [(101, .var 140 [bp (((l.mul) * (m.mul).getD ((w.getD i 0).toNat) 0) < 0), .sl 1 (ns .u32 (digs ((l.mul) * (m.mul).getD ((w.getD i 0).toNat) 0).natAbs)), bp ((((l.add) * (m.mul).getD ((w.getD i 0).toNat) 0) + ((l.div) * (m.add).getD ((w.getD i 0).toNat) 0)) < 0), .sl 1 (ns .u32 (digs (((l.add) * (m.mul).getD ((w.getD i 0).toNat) 0) + ((l.div) * (m.add).getD ((w.getD i 0).toNat) 0)).natAbs)), bp (((l.div) * m.mod) < 0), .sl 1 (ns .u32 (digs ((l.div) * m.mod).natAbs))])]) ?_ rfl
   refine ⟨[.agg [bp (((l.mul) * (m.mul).getD ((w.getD i 0).toNat) 0) < 0), .sl 1 (ns .u32 (digs ((l.mul) * (m.mul).getD ((w.getD i 0).toNat) 0).natAbs)), bp ((((l.add) * (m.mul).getD ((w.getD i 0).toNat) 0) + ((l.div) * (m.add).getD ((w.getD i 0).toNat) 0)) < 0), .sl 1 (ns .u32 (digs (((l.add) * (m.mul).getD ((w.getD i 0).toNat) 0) + ((l.div) * (m.add).getD ((w.getD i 0).toNat) 0)).natAbs)), bp (((l.div) * m.mod) < 0), .sl 1 (ns .u32 (digs ((l.div) * m.mod).natAbs))]], ⟨⟨101, .var 140 [bp (((l.mul) * (m.mul).getD ((w.getD i 0).toNat) 0) < 0), .sl 1 (ns .u32 (digs ((l.mul) * (m.mul).getD ((w.getD i 0).toNat) 0).natAbs)), bp ((((l.add) * (m.mul).getD ((w.getD i 0).toNat) 0) + ((l.div) * (m.add).getD ((w.getD i 0).toNat) 0)) < 0), .sl 1 (ns .u32 (digs (((l.add) * (m.mul).getD ((w.getD i 0).toNat) 0) + ((l.div) * (m.add).getD ((w.getD i 0).toNat) 0)).natAbs)), bp (((l.div) * m.mod) < 0), .sl 1 (ns .u32 (digs ((l.div) * m.mod).natAbs))], rfl, rfl, rfl, Or.inl ⟨f85_, AV.le_refl _⟩⟩, trivial⟩, ?_⟩
   exact linK_eq (Int.mul_comm _ _) (congr (congrArg HAdd.hAdd (Int.mul_comm _ _)) (Int.mul_comm _ _)) rfl
  refine o_store [(2, oM 24 m), (3, .var 140 [Fv, Zv, Fv, Zv, Fv, Zv]), (4, .var 140 [Bv ((thenZ m l (w.getD i 0)).mul), Dv ((thenZ m l (w.getD i 0)).mul), Bv ((thenZ m l (w.getD i 0)).add), Dv ((thenZ m l (w.getD i 0)).add), Bv ((thenZ m l (w.getD i 0)).div), Dv ((thenZ m l (w.getD i 0)).div)])] gn f80_ rfl rfl rfl rfl rfl rfl ?_
  refine aops_end (hK7 _ (awp_region rfl ?_))
  refine n_add i 1 gn rfl rfl (by simp only [topOf]; omega) ?_
  refine o_mv (Nv (i + 1)) rfl (aops_end ?_)
  refine ⟨_, _, ?lt, ⟨i + 1, thenZ m l (w.getD i 0), (by omega), (by rw [hl2]; exact lineZ_next h1), rfl, rfl⟩, ?wk⟩
  case lt => omega
  case wk => exact Wk.sub ⟨rfl, rfl, rfl, rfl, rfl, rfl, (by first | rfl | exact nm_int (by omega)), trivial⟩ ⟨rfl, rfl, rfl, trivial⟩
 ·refine awp_exit ?_
  refine hK3 _ (awp_seq fun K12 hK12 => awp_region rfl ?_)
  refine o_loadA [Bv (l.mul), Dv (l.mul), Bv (l.add), Dv (l.add), Bv (l.div), Dv (l.div)] gn f85_ rfl rfl rfl rfl rfl ?_
  refine o_store [(2, oM 24 m), (3, .var 140 [Bv (l.mul), Dv (l.mul), Bv (l.add), Dv (l.add), Bv (l.div), Dv (l.div)]), (4, .var 140 [Bv (l.mul), Dv (l.mul), Bv (l.add), Dv (l.add), Bv (l.div), Dv (l.div)])] gn f80_ rfl rfl rfl rfl rfl rfl ?_
  refine aops_end (hK12 _ ?_)
  refine awp_ret ?_
  refine post_ret ⟨[.agg [Bv (l.mul), Dv (l.mul), Bv (l.add), Dv (l.add), Bv (l.div), Dv (l.div)]], ⟨⟨3, .var 140 [Bv (l.mul), Dv (l.mul), Bv (l.add), Dv (l.add), Bv (l.div), Dv (l.div)], rfl, rfl, rfl, Or.inl ⟨f85_, AV.le_refl _⟩⟩, trivial⟩, rfl, ?_⟩
  exact congrArg linW (by rw [hl2, List.take_of_length_le (by omega)])

end Go.Proofs.YtdmkejloknejdaaGreatDoor

namespace Go.Mth
open Go.Ab
theorem is_as {a b : List Int} (h : a = b) : AV.sl 1 (is .i64 a) = AV.sl 1 (is .i64 b) := by rw [h]
theorem fit_of_pow' {z : Int} {k : Nat} (h : z.natAbs < 10 ^ k) (hk : k ≤ 2000) (h1 : 1 ≤ k) : Fit z := fit_of_pow h hk h1
theorem line_abs {m : MapM} (hm : OkM m) : ∀ w : List Int, IsW m w → (lineZ m w).mul.natAbs < 10 ^ (3 * w.length + 1) ∧ (lineZ m w).add.natAbs < 10 ^ (3 * w.length + 7) ∧ (lineZ m w).div.natAbs < 10 ^ (3 * w.length + 1) := by
 refine snoc_ind (P := fun w => IsW m w → (lineZ m w).mul.natAbs < 10 ^ (3 * w.length + 1) ∧ (lineZ m w).add.natAbs < 10 ^ (3 * w.length + 7) ∧ (lineZ m w).div.natAbs < 10 ^ (3 * w.length + 1)) (fun _ => ⟨show (1 : Int).natAbs < 10 ^ (3 * 0 + 1) by decide, show (0 : Int).natAbs < 10 ^ (3 * 0 + 7) by decide, show (1 : Int).natAbs < 10 ^ (3 * 0 + 1) by decide⟩) fun w r ih hw => ?_
 obtain ⟨i1, i2, i3⟩ := ih fun x hx => hw x (by simp [hx])
 obtain ⟨o1, o2, o3, o4, o5⟩ := hm
 obtain ⟨hr0, hr1⟩ := hw r (by simp)
 obtain ⟨r1, r2, r3, r4, _⟩ := o5 r.toNat (by omega)
 have e1 : (mulM m r).natAbs ≤ 999 := by unfold mulM; omega
 have e2 : (addM m r).natAbs ≤ 999999 := by unfold addM; omega
 have e3 : m.mod.natAbs ≤ 12 := by omega
 rw [lineZ_snoc, List.length_append, List.length_singleton]
 have p1 : (10 : Nat) ^ (3 * (w.length + 1) + 1) = 1000 * 10 ^ (3 * w.length + 1) := by rw [show 3 * (w.length + 1) + 1 = 3 * w.length + 1 + 3 by omega, Nat.pow_add, Nat.mul_comm]
 have p2 : (10 : Nat) ^ (3 * (w.length + 1) + 7) = 1000 * 10 ^ (3 * w.length + 7) := by rw [show 3 * (w.length + 1) + 7 = 3 * w.length + 7 + 3 by omega, Nat.pow_add, Nat.mul_comm]
 have p3 : (10 : Nat) ^ (3 * w.length + 7) = 1000000 * 10 ^ (3 * w.length + 1) := by rw [show 3 * w.length + 7 = 3 * w.length + 1 + 6 by omega, Nat.pow_add, Nat.mul_comm]
 refine ⟨?_, ?_, ?_⟩
 ·show (mulM m r * (lineZ m w).mul).natAbs < _
  rw [Int.natAbs_mul, p1]
  have := Nat.mul_le_mul e1 (Nat.le_of_lt i1)
  have : 0 < (10 : Nat) ^ (3 * w.length + 1) := Nat.pow_pos (by decide)
  omega
 ·show (mulM m r * (lineZ m w).add + addM m r * (lineZ m w).div).natAbs < _
  have a1 := Int.natAbs_add_le (mulM m r * (lineZ m w).add) (addM m r * (lineZ m w).div)
  rw [Int.natAbs_mul, Int.natAbs_mul] at a1
  have a2 := Nat.mul_le_mul e1 (Nat.le_of_lt i2)
  have a3 := Nat.mul_le_mul e2 (Nat.le_of_lt i3)
  have : 0 < (10 : Nat) ^ (3 * w.length + 1) := Nat.pow_pos (by decide)
  rw [p2]
  omega
 ·show ((lineZ m w).div * m.mod).natAbs < _
  rw [Int.natAbs_mul, p1]
  have := Nat.mul_le_mul (Nat.le_of_lt i3) e3
  have : 0 < (10 : Nat) ^ (3 * w.length + 1) := Nat.pow_pos (by decide)
  omega
theorem wordZ_is {m : MapM} (hm : OkM m) (z : Int) : ∀ k, IsW m (wordZ m z k)
 | 0 => fun r hr => by simp [wordZ] at hr
 | k + 1 => fun r hr => by
  rw [wordZ, List.mem_append, List.mem_singleton] at hr
  rcases hr with hr | rfl
  ·exact wordZ_is hm z k r hr
  ·have := hm.1
   exact ⟨Int.emod_nonneg _ (by omega), Int.emod_lt_of_pos _ (by omega)⟩
theorem len_subZ (a b : Int) : (digs (a - b).natAbs).length ≤ max (digs a.natAbs).length (digs b.natAbs).length + 1 := by
 have := len_addZ a (-b)
 rwa [Int.natAbs_neg, ← Int.sub_eq_add_neg] at this
end Go.Mth

namespace Go.Mth
open Go.Ab
theorem wrap_bd (i : Int) {n : Nat} (hn : 0 < n) : -(n : Int) < Int.tmod i n ∧ Int.tmod i n < n := by
 have h1 := Int.tmod_lt_of_pos i (show (0 : Int) < n by omega)
 have h2 := Int.lt_tmod_of_pos i (show (0 : Int) < n by omega)
 exact ⟨h2, h1⟩
theorem wrap_eq (i : Int) {n : Nat} (hn : 0 < n) : Int.tmod (Int.tmod i n + n) n = i % (n : Int) := by
 obtain ⟨h1, h2⟩ := wrap_bd i hn
 rw [Int.tmod_eq_emod_of_nonneg (by omega), Int.add_emod_right]
 have := Int.mul_tdiv_add_tmod i n
 have e : i = Int.tmod i n + (n : Int) * Int.tdiv i n := by omega
 rw [e, Int.add_mul_emod_self_left, ← e]
theorem getD_mem {α : Type} {l : List α} {i : Nat} {d : α} (h : i < l.length) : l.getD i d ∈ l := by
 rw [List.getD_eq_getElem?_getD, List.getElem?_eq_getElem h]
 exact List.getElem_mem h
noncomputable def shortB (a : ByteArray) : Bool := decide (a.size ≤ 601) && okS a
def ShortS (l : List ByteArray) : Prop := ∀ k, k < l.length → shortB (l.getD k { data := #[] }) = true
noncomputable instance (l : List ByteArray) : Decidable (ShortS l) := Classical.propDecidable _
theorem shortB_yes {a : ByteArray} (h : a.size ≤ 601) (h2 : okS a = true) : shortB a = true := by unfold shortB; rw [h2, decide_eq_true h]; rfl
theorem shortB_le {a : ByteArray} (h : shortB a = true) : a.size ≤ 601 := by unfold shortB at h; simp at h; exact h.1
theorem shortB_ok {a : ByteArray} (h : shortB a = true) : okS a = true := by unfold shortB at h; simp at h; exact h.2
theorem list_extZ {x y : List Int} (hl : x.length = y.length) (h : ∀ k, k < x.length → x.getD k 0 = y.getD k 0) : x = y := by
 refine List.ext_getElem hl fun k h1 h2 => ?_
 have := h k h1
 rw [List.getD_eq_getElem?_getD, List.getD_eq_getElem?_getD, List.getElem?_eq_getElem h1, List.getElem?_eq_getElem h2] at this
 exact this
def propN (m : MapM) (w : List Int) : Nat → List Int
 | 0 => []
 | i + 1 => propN m w i ++ [w.getD i 0 % m.mod]
def propW (m : MapM) (w : List Int) : List Int := propN m w (min w.length 40)
theorem propN_len (m : MapM) (w : List Int) : ∀ i, (propN m w i).length = i
 | 0 => rfl
 | i + 1 => by rw [propN, List.length_append, propN_len m w i]; rfl
theorem propN_is {m : MapM} (hm : OkM m) (w : List Int) : ∀ i, IsW m (propN m w i)
 | 0 => fun r hr => by simp [propN] at hr
 | i + 1 => fun r hr => by
  rw [propN, List.mem_append, List.mem_singleton] at hr
  rcases hr with hr | rfl
  ·exact propN_is hm w i r hr
  ·have := hm.1
   exact ⟨Int.emod_nonneg _ (by omega), Int.emod_lt_of_pos _ (by omega)⟩
theorem propW_ok {m : MapM} (hm : OkM m) (w : List Int) : OkW m (propW m w) ∧ (propW m w).length ≤ 40 := by
 have h : (propW m w).length ≤ 40 := by unfold propW; rw [propN_len]; omega
 exact ⟨⟨propN_is hm w _, by omega⟩, h⟩
theorem step_len' {m : MapM} (hm : OkM m) (z : Int) : (digs (stepZ m z).natAbs).length ≤ (digs z.natAbs).length + 4 := by
 have := step_len (z := z) (k := (digs z.natAbs).length + 1) hm (by omega) (by omega)
 omega
end Go.Mth

namespace Go.Mth
open Go.Ab
theorem step_abs {m : MapM} (hm : OkM m) {z : Int} {e : Nat} (he : 6 ≤ e) (h : z.natAbs < 10 ^ e) : (stepZ m z).natAbs < 10 ^ (e + 3) := by
 have hs := getD_toNat hm z
 obtain ⟨o1, o2, o3, o4, o5⟩ := hm
 have hr0 := Int.emod_nonneg z (show m.mod ≠ 0 by omega)
 have hr1 := Int.emod_lt_of_pos z (show 0 < m.mod by omega)
 obtain ⟨r1, r2, r3, r4, _⟩ := o5 (z % m.mod).toNat (by omega)
 have e1 : (mulM m (z % m.mod)).natAbs ≤ 999 := by unfold mulM; omega
 have e2 : (addM m (z % m.mod)).natAbs ≤ 999999 := by unfold addM; omega
 have a1 := Int.natAbs_add_le (mulM m (z % m.mod) * z) (addM m (z % m.mod))
 rw [Int.natAbs_mul] at a1
 have a2 := Nat.mul_le_mul e1 (Nat.le_of_lt h)
 have a3 : (stepZ m z).natAbs ≤ (stepZ m z * m.mod).natAbs := by rw [Int.natAbs_mul]; exact Nat.le_mul_of_pos_right _ (by omega)
 rw [hs] at a3
 have p1 : (10 : Nat) ^ (e + 3) = 1000 * 10 ^ e := by rw [Nat.pow_add, Nat.mul_comm]
 have p2 : (10 : Nat) ^ 6 ≤ 10 ^ e := Nat.pow_le_pow_right (by decide) he
 have p3 : (10 : Nat) ^ 6 = 1000000 := by decide
 rw [p1]
 omega
theorem iter_abs {m : MapM} (hm : OkM m) {z : Int} {e : Nat} (he : 6 ≤ e) (h : z.natAbs < 10 ^ e) : ∀ j, (iterZ m j z).natAbs < 10 ^ (e + 3 * j)
 | 0 => h
 | j + 1 => by
  have := step_abs hm (e := e + 3 * j) (by omega) (iter_abs hm he h j)
  rw [iterZ, show e + 3 * (j + 1) = e + 3 * j + 3 by omega]
  exact this
theorem wordZ_get (m : MapM) (z : Int) : ∀ k i, i < k → (wordZ m z k).getD i 0 = iterZ m i z % m.mod
 | 0, i, h => by omega
 | k + 1, i, h => by
  rw [wordZ]
  rcases Nat.lt_or_ge i k with e | e
  ·have := wordZ_get m z k i e
   rw [List.getD_eq_getElem?_getD] at this ⊢
   rw [List.getElem?_append_left (by rw [wordZ_len]; exact e)]
   exact this
  ·have : i = k := by omega
   subst this
   rw [List.getD_eq_getElem?_getD, List.getElem?_append_right (by rw [wordZ_len]; exact Nat.le_refl _), wordZ_len, Nat.sub_self]
   rfl
theorem add_lt_pow {x y : Int} {p : Nat} (hx : x.natAbs < 10 ^ p) (hy : y.natAbs < 10 ^ p) : (x + y).natAbs < 10 ^ (p + 1) := by
 have h := Int.natAbs_add_le x y
 rw [Nat.pow_succ]
 omega
end Go.Mth

namespace Go.Mth
open Go.Ab
structure FrZ where
 num : Int
 den : Int
def RedF (f : FrZ) : Prop := 0 < f.den ∧ Int.gcd f.num f.den = 1
def redP (n d : Int) : FrZ := ⟨n / ((Int.gcd n d : Nat) : Int), d / ((Int.gcd n d : Nat) : Int)⟩
def redZ (n d : Int) : FrZ := if d < 0 then redP (-n) (-d) else redP n d
theorem frz_ext {f g : FrZ} (h1 : f.num = g.num) (h2 : f.den = g.den) : f = g := by cases f; cases g; simp_all
theorem redP_ok {n d : Int} (hd : 0 < d) : RedF (redP n d) ∧ (redP n d).num * d = n * (redP n d).den ∧ (redP n d).den ∣ d ∧ (redP n d).num ∣ n := by
 have hg : 0 < Int.gcd n d := Int.gcd_pos_of_ne_zero_right n (by omega)
 obtain ⟨a, ha⟩ := Int.gcd_dvd_left n d
 obtain ⟨b, hb⟩ := Int.gcd_dvd_right n d
 obtain ⟨g, hgg⟩ : ∃ g : Int, g = ((Int.gcd n d : Nat) : Int) := ⟨_, rfl⟩
 have hg0 : g ≠ 0 := by omega
 have h1 : n / ((Int.gcd n d : Nat) : Int) = a := by rw [← hgg] at ha ⊢; rw [ha, Int.mul_ediv_cancel_left _ hg0]
 have h2 : d / ((Int.gcd n d : Nat) : Int) = b := by rw [← hgg] at hb ⊢; rw [hb, Int.mul_ediv_cancel_left _ hg0]
 have h3 := Int.gcd_ediv_gcd_ediv_gcd (i := n) (j := d) hg
 rw [← hgg] at ha hb
 refine ⟨⟨?_, ?_⟩, ?_, ?_, ?_⟩
 ·show 0 < d / ((Int.gcd n d : Nat) : Int)
  rw [h2]
  rw [hb, Int.mul_comm] at hd
  exact Int.pos_of_mul_pos_left hd (by omega)
 ·exact h3
 ·show n / ((Int.gcd n d : Nat) : Int) * d = n * (d / ((Int.gcd n d : Nat) : Int))
  rw [h1, h2]; grind
 ·show d / ((Int.gcd n d : Nat) : Int) ∣ d
  rw [h2]; exact ⟨g, by grind⟩
 ·show n / ((Int.gcd n d : Nat) : Int) ∣ n
  rw [h1]; exact ⟨g, by grind⟩
theorem redZ_ok {n d : Int} (hd : d ≠ 0) : RedF (redZ n d) ∧ (redZ n d).num * d = n * (redZ n d).den ∧ (redZ n d).den ∣ d ∧ (redZ n d).num ∣ n := by
 unfold redZ
 split
 ·obtain ⟨h1, h2, h3, h4⟩ := redP_ok (n := -n) (d := -d) (by omega)
  exact ⟨h1, by grind, (Int.dvd_neg).1 h3, (Int.dvd_neg).1 h4⟩
 ·exact redP_ok (by omega)
theorem dvd_cop {a b c : Int} (h : a ∣ b * c) (hc : Int.gcd a b = 1) : a ∣ c := by
 have h1 := Int.natAbs_dvd_natAbs.2 h
 rw [Int.natAbs_mul] at h1
 exact Int.natAbs_dvd_natAbs.1 (Nat.Coprime.dvd_of_dvd_mul_left hc h1)
theorem red_uniq {f g : FrZ} (hf : RedF f) (hg : RedF g) (h : f.num * g.den = g.num * f.den) : f = g := by
 have h1 : f.den ∣ g.den := dvd_cop (b := f.num) ⟨g.num, by rw [h, Int.mul_comm]⟩ (by rw [Int.gcd_comm]; exact hf.2)
 have h2 : g.den ∣ f.den := dvd_cop (b := g.num) ⟨f.num, by rw [← h, Int.mul_comm]⟩ (by rw [Int.gcd_comm]; exact hg.2)
 have h3 := Int.dvd_antisymm (by have := hf.1; omega) (by have := hg.1; omega) h1 h2
 have h4 := hf.1
 rw [h3] at h
 exact frz_ext (Int.eq_of_mul_eq_mul_right (by have := hg.1; omega) h) h3
theorem red_is {n d : Int} (hd : d ≠ 0) {f : FrZ} (hf : RedF f) (h : f.num * d = n * f.den) : redZ n d = f := by
 obtain ⟨h1, h2, h3, h4⟩ := redZ_ok (n := n) hd
 refine red_uniq h1 hf (Int.eq_of_mul_eq_mul_right hd ?_)
 grind
theorem abs_of_dvd {a b : Int} (h : a ∣ b) (hb : b ≠ 0) : a.natAbs ≤ b.natAbs := Nat.le_of_dvd (by omega) (Int.natAbs_dvd_natAbs.2 h)
theorem redZ_abs {n d : Int} (hd : d ≠ 0) : (redZ n d).num.natAbs ≤ n.natAbs ∧ (redZ n d).den.natAbs ≤ d.natAbs := by
 obtain ⟨h1, h2, h3, h4⟩ := redZ_ok (n := n) hd
 refine ⟨?_, abs_of_dvd h3 hd⟩
 by_cases hn : n = 0
 ·subst hn
  rw [Int.zero_mul] at h2
  rcases Int.mul_eq_zero.1 h2 with e | e
  ·rw [e]; exact Nat.le_refl _
  ·exact absurd e hd
 ·exact abs_of_dvd h4 hn
def fixZ (m : MapM) (w : List Int) : FrZ := redZ (lineZ m w).add ((lineZ m w).div - (lineZ m w).mul)
def nxtZ (m : MapM) (f : FrZ) (r : Int) : FrZ := redZ (f.num * mulM m r + f.den * addM m r) (f.den * m.mod)
def CopD (m : MapM) (f : FrZ) : Prop := Int.gcd f.den m.mod = 1
theorem line_cop {m : MapM} (hm : OkM m) (hf : freeM m) {w : List Int} (hw : IsW m w) : Int.gcd (lineZ m w).mul m.mod = 1 := by
 obtain ⟨h1, h2, h3, h4⟩ := restZ_ok hm hf w hw
 have h := prod_line m (restZ m w).1 w.length
 rw [h4] at h
 have hp := prod_free hm hf (restZ m w).1 w.length
 rw [h] at hp
 have e : m.mod.natAbs = m.mod.toNat := by have := hm.1; omega
 show Nat.gcd _ m.mod.natAbs = 1
 rw [e]; exact hp
theorem line_one (m : MapM) (r : Int) : (lineZ m [r]).mul = mulM m r ∧ (lineZ m [r]).add = addM m r ∧ (lineZ m [r]).div = m.mod := by
 refine ⟨?_, ?_, ?_⟩
 ·show mulM m r * 1 = mulM m r; omega
 ·show mulM m r * 0 + addM m r * 1 = addM m r; omega
 ·show 1 * m.mod = m.mod; omega
theorem line_cons (m : MapM) (r : Int) (v : List Int) : (lineZ m (r :: v)).mul = (lineZ m v).mul * mulM m r ∧ (lineZ m (r :: v)).add = (lineZ m v).mul * addM m r + (lineZ m v).add * m.mod ∧ (lineZ m (r :: v)).div = m.mod * (lineZ m v).div := by
 have h := lineZ_app m [r] v
 obtain ⟨e1, e2, e3⟩ := line_one m r
 rw [e1, e2, e3] at h
 exact h
theorem mulM_cop {m : MapM} (hm : OkM m) (hf : freeM m) {r : Int} (hr : 0 ≤ r ∧ r < m.mod) : Int.gcd (mulM m r) m.mod = 1 := by
 have h := line_cop hm hf (w := [r]) (fun x hx => by simp at hx; rw [hx]; exact hr)
 rw [(line_one m r).1] at h
 exact h
theorem dvd_pow_ne {a : Int} {k : Nat} (h : k ≠ 0) : a ∣ a ^ k := by
 obtain ⟨j, rfl⟩ : ∃ j, k = j + 1 := ⟨k - 1, by omega⟩
 exact ⟨a ^ j, by rw [Int.pow_succ, Int.mul_comm]⟩
theorem line_ne {m : MapM} (hm : OkM m) (hf : freeM m) {w : List Int} (hw : IsW m w) (hne : w ≠ []) : (lineZ m w).div - (lineZ m w).mul ≠ 0 := fun e => by
 have hc := line_cop hm hf hw
 have h1 : m.mod ∣ (lineZ m w).mul := by
  rw [show (lineZ m w).mul = (lineZ m w).div by omega, lineZ_div]
  exact dvd_pow_ne (fun h => hne (List.eq_nil_of_length_eq_zero h))
 have h2 := Int.natAbs_dvd_natAbs.2 (Int.dvd_coe_gcd h1 (Int.dvd_refl m.mod))
 rw [hc] at h2
 have h3 := Nat.le_of_dvd (by decide) h2
 have := hm.1
 simp at h3
 omega
theorem fix_ok {m : MapM} (hm : OkM m) (hf : freeM m) {w : List Int} (hw : IsW m w) (hne : w ≠ []) : RedF (fixZ m w) ∧ (fixZ m w).num * ((lineZ m w).div - (lineZ m w).mul) = (lineZ m w).add * (fixZ m w).den ∧ CopD m (fixZ m w) := by
 obtain ⟨h1, h2, h3, h4⟩ := redZ_ok (n := (lineZ m w).add) (line_ne hm hf hw hne)
 refine ⟨h1, h2, ?_⟩
 have hc := line_cop hm hf hw
 have hd : m.mod ∣ (lineZ m w).div := by rw [lineZ_div]; exact dvd_pow_ne (fun h => hne (List.eq_nil_of_length_eq_zero h))
 have g1 := Int.gcd_dvd_left (fixZ m w).den m.mod
 have g2 := Int.gcd_dvd_right (fixZ m w).den m.mod
 have g3 := Int.dvd_sub (Int.dvd_trans g2 hd) (Int.dvd_trans g1 h3)
 rw [show (lineZ m w).div - ((lineZ m w).div - (lineZ m w).mul) = (lineZ m w).mul by omega] at g3
 have g4 := Int.dvd_gcd g3 g2
 rw [hc] at g4
 exact Nat.dvd_one.1 g4
theorem isW_cons {m : MapM} {r : Int} {v : List Int} : IsW m (r :: v) ↔ (0 ≤ r ∧ r < m.mod) ∧ IsW m v := by
 constructor
 ·intro h; exact ⟨h r (by simp), fun x hx => h x (by simp [hx])⟩
 ·rintro ⟨h1, h2⟩ x hx
  rcases List.mem_cons.1 hx with e | e
  ·rw [e]; exact h1
  ·exact h2 x e
theorem isW_app {m : MapM} {u v : List Int} : IsW m (u ++ v) ↔ IsW m u ∧ IsW m v := by
 constructor
 ·intro h; exact ⟨fun x hx => h x (by simp [hx]), fun x hx => h x (by simp [hx])⟩
 ·rintro ⟨h1, h2⟩ x hx
  rcases List.mem_append.1 hx with e | e
  ·exact h1 x e
  ·exact h2 x e
theorem fix_next {m : MapM} (hm : OkM m) (hf : freeM m) {r : Int} {v : List Int} (hw : IsW m (r :: v)) : nxtZ m (fixZ m (r :: v)) r = fixZ m (v ++ [r]) := by
 have hw2 : IsW m (v ++ [r]) := isW_app.2 ⟨(isW_cons.1 hw).2, fun x hx => by simp at hx; rw [hx]; exact (isW_cons.1 hw).1⟩
 obtain ⟨a1, a2, a3⟩ := fix_ok hm hf hw (by simp)
 obtain ⟨b1, b2, b3⟩ := fix_ok hm hf hw2 (by simp)
 have hn := line_ne hm hf hw2 (by simp)
 obtain ⟨c1, c2, c3⟩ := line_cons m r v
 obtain ⟨d1, d2, d3⟩ := lineZ_app m v [r]
 obtain ⟨e1, e2, e3⟩ := line_one m r
 rw [e1] at d1 d2
 rw [e2] at d2
 rw [e3] at d3
 rw [c1, c2, c3] at a2
 rw [d1, d2, d3] at b2
 rw [d1, d3] at hn
 have hq := a1.1
 have hM := hm.1
 refine red_is (by intro h0; rcases Int.mul_eq_zero.1 h0 with h | h <;> omega) b1 (Int.eq_of_mul_eq_mul_right hn ?_)
 generalize (fixZ m (r :: v)).num = p at a2 ⊢
 generalize (fixZ m (r :: v)).den = q at a2 ⊢
 generalize (fixZ m (v ++ [r])).num = p2 at b2 ⊢
 generalize (fixZ m (v ++ [r])).den = q2 at b2 ⊢
 generalize mulM m r = c at a2 b2 ⊢
 generalize addM m r = e at a2 b2 ⊢
 generalize (lineZ m v).mul = a at a2 b2 ⊢
 generalize (lineZ m v).add = b at a2 b2 ⊢
 generalize (lineZ m v).div = d at a2 b2 ⊢
 generalize m.mod = M at a2 b2 ⊢
 grind
theorem val_map {m : MapM} (hm : OkM m) {r : Int} (hr : 0 ≤ r ∧ r < m.mod) : m.mod ∣ mulM m r * r + addM m r := by
 obtain ⟨o1, o2, o3, o4, o5⟩ := hm
 obtain ⟨_, _, _, _, h⟩ := o5 r.toNat (by omega)
 have hd := Int.dvd_of_tmod_eq_zero h
 rw [Int.toNat_of_nonneg hr.1] at hd
 exact hd
theorem fix_rest {m : MapM} (hm : OkM m) (hf : freeM m) {r : Int} {v : List Int} (hw : IsW m (r :: v)) : ((fixZ m (r :: v)).num - r * (fixZ m (r :: v)).den) % m.mod = 0 := by
 obtain ⟨a1, a2, a3⟩ := fix_ok hm hf hw (by simp)
 obtain ⟨hr, hv⟩ := isW_cons.1 hw
 obtain ⟨c1, c2, c3⟩ := line_cons m r v
 rw [c1, c2, c3] at a2
 have g1 := line_cop hm hf hv
 have g2 := mulM_cop hm hf hr
 obtain ⟨t, ht⟩ := val_map hm hr
 refine Int.emod_eq_zero_of_dvd (dvd_cop (b := mulM m r) (dvd_cop (b := (lineZ m v).mul) ⟨(fixZ m (r :: v)).num * (lineZ m v).div - (lineZ m v).add * (fixZ m (r :: v)).den - (lineZ m v).mul * t * (fixZ m (r :: v)).den, ?_⟩ (by rw [Int.gcd_comm]; exact g1)) (by rw [Int.gcd_comm]; exact g2))
 generalize (fixZ m (r :: v)).num = p at a2 ⊢
 generalize (fixZ m (r :: v)).den = q at a2 ⊢
 generalize mulM m r = c at a2 ht ⊢
 generalize addM m r = e at a2 ht ⊢
 generalize (lineZ m v).mul = a at a2 ⊢
 generalize (lineZ m v).add = b at a2 ⊢
 generalize (lineZ m v).div = d at a2 ⊢
 generalize m.mod = M at a2 ht ⊢
 grind
def restF (m : MapM) (f : FrZ) : Int := match (List.range m.mod.toNat).find? fun (r : Nat) => decide ((f.num - (r : Int) * f.den) % m.mod = 0) with
 | some r => r
 | none => -1
theorem restF_is {m : MapM} (hm : OkM m) {f : FrZ} (hc : CopD m f) {r : Int} (hr : 0 ≤ r ∧ r < m.mod) (h : (f.num - r * f.den) % m.mod = 0) : restF m f = r := by
 unfold restF
 cases hu : (List.range m.mod.toNat).find? fun (r : Nat) => decide ((f.num - (r : Int) * f.den) % m.mod = 0) with
 | none =>
  have := List.find?_eq_none.1 hu r.toNat (by simp; omega)
  rw [Int.toNat_of_nonneg hr.1] at this
  simp [h] at this
 | some u =>
  have h1 := List.find?_some hu
  have h2 := List.mem_of_find?_eq_some hu
  simp at h1 h2
  show (u : Int) = r
  have h3 := Int.dvd_sub (Int.dvd_of_emod_eq_zero h1) (Int.dvd_of_emod_eq_zero h)
  rw [show f.num - (u : Int) * f.den - (f.num - r * f.den) = f.den * (r - u) by grind] at h3
  have h4 := dvd_cop h3 (by rw [Int.gcd_comm]; exact hc)
  obtain ⟨t, ht⟩ := h4
  rcases Int.lt_trichotomy t 0 with g | g | g
  ·have := Int.mul_le_mul_of_nonneg_left (show t ≤ -1 by omega) (show 0 ≤ m.mod by omega)
   omega
  ·rw [g] at ht; omega
  ·have := Int.mul_le_mul_of_nonneg_left (show 1 ≤ t by omega) (show 0 ≤ m.mod by omega)
   omega
def trnZ (m : MapM) (w : List Int) (f : FrZ) : Nat → FrZ
 | 0 => f
 | i + 1 => nxtZ m (trnZ m w f i) (w.getD i 0)
def rotL {α : Type} (w : List α) (i : Nat) : List α := w.drop i ++ w.take i
theorem rot_len {α : Type} (w : List α) (i : Nat) : (rotL w i).length = w.length := by unfold rotL; rw [List.length_append, List.length_drop, List.length_take]; omega
theorem rot_is {m : MapM} {w : List Int} (h : IsW m w) (i : Nat) : IsW m (rotL w i) := isW_app.2 ⟨fun x hx => h x (List.mem_of_mem_drop hx), fun x hx => h x (List.mem_of_mem_take hx)⟩
theorem rot_cons {w : List Int} {i : Nat} (h : i < w.length) : rotL w i = w.getD i 0 :: (w.drop (i + 1) ++ w.take i) ∧ rotL w (i + 1) = (w.drop (i + 1) ++ w.take i) ++ [w.getD i 0] := by
 unfold rotL
 refine ⟨?_, ?_⟩
 ·rw [List.drop_eq_getElem_cons h, List.getD_eq_getElem?_getD, List.getElem?_eq_getElem h]; rfl
 ·rw [take_snoc h, List.append_assoc]
theorem trn_rot {m : MapM} (hm : OkM m) (hf : freeM m) {w : List Int} (hw : IsW m w) : ∀ i, i ≤ w.length → trnZ m w (fixZ m w) i = fixZ m (rotL w i)
 | 0, _ => by show fixZ m w = fixZ m (w.drop 0 ++ w.take 0); simp
 | i + 1, h => by
  obtain ⟨h1, h2⟩ := rot_cons (w := w) (i := i) (by omega)
  rw [trnZ, trn_rot hm hf hw i (by omega), h1, h2]
  exact fix_next hm hf (by rw [← h1]; exact rot_is hw i)
theorem trn_rest {m : MapM} (hm : OkM m) (hf : freeM m) {w : List Int} (hw : IsW m w) {i : Nat} (h : i < w.length) : ((trnZ m w (fixZ m w) i).num - w.getD i 0 * (trnZ m w (fixZ m w) i).den) % m.mod = 0 ∧ restF m (trnZ m w (fixZ m w) i) = w.getD i 0 := by
 obtain ⟨h1, h2⟩ := rot_cons (w := w) (i := i) h
 have hwr := rot_is hw i
 rw [h1] at hwr
 have h3 := fix_rest hm hf hwr
 rw [← h1, ← trn_rot hm hf hw i (by omega)] at h3
 have h4 := (fix_ok hm hf hwr (by simp)).2.2
 rw [← h1, ← trn_rot hm hf hw i (by omega)] at h4
 exact ⟨h3, restF_is hm h4 (isW_get hw h) h3⟩
theorem rot_all {α : Type} (w : List α) : rotL w w.length = w := by unfold rotL; simp
theorem trn_end {m : MapM} (hm : OkM m) (hf : freeM m) {w : List Int} (hw : IsW m w) : trnZ m w (fixZ m w) w.length = fixZ m w := by rw [trn_rot hm hf hw _ (Nat.le_refl _), rot_all]
theorem fit_abs {x y : Int} (h : x.natAbs ≤ y.natAbs) {k : Nat} (hy : y.natAbs < 10 ^ k) (hk : k ≤ 2000) (h1 : 1 ≤ k) : Fit x := fit_of_pow (Nat.lt_of_le_of_lt h hy) hk h1
theorem fix_fit {m : MapM} (hm : OkM m) (hf : freeM m) {w : List Int} (hw : OkW m w) (hne : w ≠ []) : Fit (fixZ m w).num ∧ Fit (fixZ m w).den := by
 obtain ⟨h1, h2⟩ := redZ_abs (n := (lineZ m w).add) (line_ne hm hf hw.1 hne)
 obtain ⟨l1, l2, l3⟩ := line_abs hm w hw.1
 have := hw.2
 refine ⟨fit_abs h1 l2 (by omega) (by omega), ?_⟩
 have l4 := add_lt_pow l3 (show (-(lineZ m w).mul).natAbs < _ by rw [Int.natAbs_neg]; exact l1)
 exact fit_abs h2 (by rw [Int.sub_eq_add_neg]; exact l4) (by omega) (by omega)
theorem fix_len {m : MapM} (hm : OkM m) (hf : freeM m) {w : List Int} (hw : OkW m w) (hne : w ≠ []) : (digs (fixZ m w).num.natAbs).length ≤ 300 ∧ (digs (fixZ m w).den.natAbs).length ≤ 300 := ⟨fit_len (fix_fit hm hf hw hne).1, fit_len (fix_fit hm hf hw hne).2⟩
theorem nxt_int {m : MapM} (hm : OkM m) {y r : Int} (hr : y % m.mod = r) : nxtZ m ⟨y, 1⟩ r = ⟨stepZ m y, 1⟩ := by
 have hM := hm.1
 have hs := getD_toNat hm y
 rw [hr] at hs
 refine red_is (by show (1 : Int) * m.mod ≠ 0; omega) ⟨show (0 : Int) < 1 by decide, by show Int.gcd _ 1 = 1; simp⟩ ?_
 show stepZ m y * (1 * m.mod) = (y * mulM m r + 1 * addM m r) * 1
 grind
theorem fix_int {m : MapM} (hm : OkM m) (hf : freeM m) {w : List Int} (hw : IsW m w) (h1 : (fixZ m w).den = 1) : (∀ i, i ≤ w.length → trnZ m w (fixZ m w) i = ⟨iterZ m i (fixZ m w).num, 1⟩) ∧ iterZ m w.length (fixZ m w).num = (fixZ m w).num ∧ wordZ m (fixZ m w).num w.length = w := by
 have hM := hm.1
 have key : ∀ i, i ≤ w.length → trnZ m w (fixZ m w) i = ⟨iterZ m i (fixZ m w).num, 1⟩ ∧ ∀ j, j < i → w.getD j 0 = iterZ m j (fixZ m w).num % m.mod := by
  intro i
  induction i with
  | zero => intro _; exact ⟨frz_ext rfl h1, fun j hj => by omega⟩
  | succ i ih =>
   intro hi
   obtain ⟨a, b⟩ := ih (by omega)
   obtain ⟨g1, _⟩ := trn_rest hm hf hw (show i < w.length by omega)
   obtain ⟨r0, r1⟩ := isW_get hw (show i < w.length by omega)
   rw [a] at g1
   have e : w.getD i 0 = iterZ m i (fixZ m w).num % m.mod := by
    have g2 : (iterZ m i (fixZ m w).num - w.getD i 0 * 1) % m.mod = 0 := g1
    rw [Int.mul_one] at g2
    have g3 := (Int.emod_eq_emod_iff_emod_sub_eq_zero).2 g2
    rw [Int.emod_eq_of_lt r0 r1] at g3
    exact g3.symm
   refine ⟨?_, fun j hj => ?_⟩
   ·rw [trnZ, a, nxt_int hm e.symm]; rfl
   ·rcases Nat.lt_or_ge j i with hji | hji
    ·exact b j hji
    ·rw [show j = i by omega]; exact e
 obtain ⟨a, b⟩ := key w.length (Nat.le_refl _)
 rw [trn_end hm hf hw] at a
 refine ⟨fun i hi => (key i hi).1, (congrArg FrZ.num a).symm, ?_⟩
 exact list_extZ (wordZ_len _ _ _) fun k hk => by
  rw [wordZ_len] at hk
  rw [wordZ_get m _ _ k hk, b k hk]
theorem int_fix {m : MapM} (hm : OkM m) (hf : freeM m) {x : Int} {k : Nat} (hk : 0 < k) (h : iterZ m k x = x) : fixZ m (wordZ m x k) = ⟨x, 1⟩ := by
 have hl := line_iter hm x k
 rw [h] at hl
 refine red_is (line_ne hm hf (wordZ_is hm x k) (fun e => by have := wordZ_len m x k; rw [e] at this; simp at this; omega)) ⟨show (0 : Int) < 1 by decide, by show Int.gcd _ 1 = 1; simp⟩ ?_
 show x * _ = _ * 1
 rw [Int.mul_sub]
 grind
end Go.Mth

namespace Go.Mth
open Go.Ab
def valW (M : Int) (w : List Int) : Int := w.foldl (fun v r => v * M + r) 0
def wordT (M : Nat) : Nat → Nat → List Int
 | 0, _ => []
 | n + 1, t => wordT M n (t / M) ++ [((t % M : Nat) : Int)]
theorem valW_snoc (M : Int) (w : List Int) (r : Int) : valW M (w ++ [r]) = valW M w * M + r := by unfold valW; rw [List.foldl_append]; rfl
theorem valW_app (M : Int) (u v : List Int) : valW M (u ++ v) = valW M u * M ^ v.length + valW M v := by
 refine snoc_ind (P := fun v => valW M (u ++ v) = valW M u * M ^ v.length + valW M v) ?_ (fun v r ih => ?_) v
 ·show valW M (u ++ []) = _
  rw [List.append_nil]
  show _ = valW M u * M ^ 0 + 0
  rw [Int.pow_zero]; omega
 ·show valW M (u ++ (v ++ [r])) = valW M u * M ^ (v ++ [r]).length + valW M (v ++ [r])
  rw [← List.append_assoc, valW_snoc, valW_snoc, ih, List.length_append, List.length_singleton, Int.pow_succ]
  grind
theorem wordT_len (M : Nat) : ∀ n t, (wordT M n t).length = n
 | 0, _ => rfl
 | n + 1, t => by rw [wordT, List.length_append, wordT_len M n]; rfl
theorem wordT_is {m : MapM} (hm : OkM m) : ∀ n t, IsW m (wordT m.mod.toNat n t)
 | 0, _ => fun x hx => by cases hx
 | n + 1, t => isW_app.2 ⟨wordT_is hm n _, fun x hx => by
   simp only [List.mem_singleton] at hx
   have h1 := hm.1
   have := Nat.mod_lt t (show 0 < m.mod.toNat by omega)
   rw [hx]; omega⟩
theorem valW_bd {m : MapM} (hm : OkM m) : ∀ w : List Int, IsW m w → 0 ≤ valW m.mod w ∧ valW m.mod w < m.mod ^ w.length := by
 refine snoc_ind (P := fun w => IsW m w → 0 ≤ valW m.mod w ∧ valW m.mod w < m.mod ^ w.length) (fun _ => ⟨Int.le_refl 0, by show (0 : Int) < m.mod ^ 0; rw [Int.pow_zero]; decide⟩) fun w r ih hw => ?_
 obtain ⟨h1, h2⟩ := ih (isW_app.1 hw).1
 obtain ⟨r0, r1⟩ := (isW_app.1 hw).2 r (by simp)
 have hM := hm.1
 rw [valW_snoc, List.length_append, List.length_singleton, Int.pow_succ]
 have a1 := Int.mul_nonneg h1 (show 0 ≤ m.mod by omega)
 have a2 := Int.mul_le_mul_of_nonneg_right (show valW m.mod w ≤ m.mod ^ w.length - 1 by omega) (show 0 ≤ m.mod by omega)
 rw [Int.sub_mul] at a2
 omega
theorem valW_wordT (M : Nat) (hM : 0 < M) : ∀ n t, t < M ^ n → valW (M : Int) (wordT M n t) = (t : Int)
 | 0, t, h => by
  rw [Nat.pow_zero] at h
  show (0 : Int) = _
  omega
 | n + 1, t, h => by
  rw [wordT, valW_snoc, valW_wordT M hM n (t / M) (by rw [Nat.pow_succ, Nat.mul_comm] at h; exact Nat.div_lt_of_lt_mul h)]
  have := Nat.div_add_mod t M
  rw [Nat.mul_comm] at this
  exact_mod_cast this
theorem wordT_valW {m : MapM} (hm : OkM m) : ∀ w : List Int, IsW m w → wordT m.mod.toNat w.length (valW m.mod w).toNat = w := by
 refine snoc_ind (P := fun w => IsW m w → wordT m.mod.toNat w.length (valW m.mod w).toNat = w) (fun _ => rfl) fun w r ih hw => ?_
 obtain ⟨h1, h2⟩ := valW_bd hm w (isW_app.1 hw).1
 obtain ⟨r0, r1⟩ := (isW_app.1 hw).2 r (by simp)
 have hM := hm.1
 have hih := ih (isW_app.1 hw).1
 rw [List.length_append, List.length_singleton, wordT, valW_snoc]
 have e : (valW m.mod w * m.mod + r).toNat = m.mod.toNat * (valW m.mod w).toNat + r.toNat := by
  have a1 := Int.mul_nonneg h1 (show 0 ≤ m.mod by omega)
  have e1 : (((valW m.mod w * m.mod + r).toNat : Nat) : Int) = ((m.mod.toNat * (valW m.mod w).toNat + r.toNat : Nat) : Int) := by
   rw [Int.toNat_of_nonneg (by omega), Int.natCast_add, Int.natCast_mul, Int.toNat_of_nonneg (by omega), Int.toNat_of_nonneg h1, Int.toNat_of_nonneg r0, Int.mul_comm]
  exact Int.ofNat.inj e1
 have hr : r.toNat < m.mod.toNat := by omega
 rw [e, Nat.mul_add_div (by omega), Nat.div_eq_of_lt hr, Nat.add_zero, hih, Nat.mul_add_mod, Nat.mod_eq_of_lt hr, Int.toNat_of_nonneg r0]
theorem valW_inj {m : MapM} (hm : OkM m) {u v : List Int} (hu : IsW m u) (hv : IsW m v) (hl : u.length = v.length) (h : valW m.mod u = valW m.mod v) : u = v := by
 rw [← wordT_valW hm u hu, ← wordT_valW hm v hv, hl, h]
theorem split_at {w : List Int} {i : Nat} (h : i < w.length) : w = w.take i ++ (w.getD i 0 :: w.drop (i + 1)) := by
 have := (rot_cons (w := w) (i := i) h).1
 rw [show w.getD i 0 :: w.drop (i + 1) = w.drop i by rw [List.drop_eq_getElem_cons h, List.getD_eq_getElem?_getD, List.getElem?_eq_getElem h]; rfl, List.take_append_drop]
theorem set_split {w : List Int} {i : Nat} (h : i < w.length) (x : Int) : w.set i x = w.take i ++ (x :: w.drop (i + 1)) := by
 rw [List.set_eq_take_append_cons_drop, if_pos h]
theorem valW_set (M : Int) {w : List Int} {i : Nat} (h : i < w.length) (x : Int) : valW M (w.set i x) = valW M w + (x - w.getD i 0) * M ^ (w.length - 1 - i) := by
 have key : ∀ y : Int, valW M (w.take i ++ (y :: w.drop (i + 1))) = valW M (w.take i) * M ^ (w.length - i) + (y * M ^ (w.length - 1 - i) + valW M (w.drop (i + 1))) := fun y => by
  rw [valW_app, List.length_cons, List.length_drop, show w.length - (i + 1) + 1 = w.length - i by omega]
  have := valW_app M [y] (w.drop (i + 1))
  rw [List.singleton_append] at this
  rw [this, List.length_drop, show w.length - (i + 1) = w.length - 1 - i by omega]
  show _ = _ + ((y : Int) * _ + _)
  rw [show valW M [y] = y by show (0 : Int) * M + y = y; omega]
 rw [set_split h, key]
 have h2 := key (w.getD i 0)
 rw [← split_at h] at h2
 rw [h2]; grind
theorem isW_set {m : MapM} {w : List Int} (h : IsW m w) {i : Nat} {x : Int} (hx : 0 ≤ x ∧ x < m.mod) : IsW m (w.set i x) := fun y hy => by
 rcases List.mem_or_eq_of_mem_set hy with e | e
 ·exact h y e
 ·rw [e]; exact hx
def nextP (m : MapM) (n t : Nat) (w : List Int) (j : Nat) : Prop := IsW m w ∧ w.length = n ∧ j ≤ n ∧ valW m.mod w + m.mod ^ j = (t : Int) + 1
theorem next_0 {m : MapM} (hm : OkM m) {n t : Nat} (ht : (t : Int) < m.mod ^ n) : nextP m n t (wordT m.mod.toNat n t) 0 := by
 have hM := hm.1
 refine ⟨wordT_is hm n t, wordT_len _ _ _, Nat.zero_le _, ?_⟩
 have e : ((m.mod.toNat : Nat) : Int) = m.mod := Int.toNat_of_nonneg (by omega)
 have h := valW_wordT m.mod.toNat (by omega) n t (by
  have : ((m.mod.toNat ^ n : Nat) : Int) = m.mod ^ n := by rw [Int.natCast_pow, e]
  omega)
 rw [e] at h
 rw [h, Int.pow_zero]
theorem next_s {m : MapM} (hm : OkM m) {n t : Nat} {w : List Int} {j : Nat} (h : nextP m n t w j) (hj : j < n) (hx : w.getD (n - 1 - j) 0 = m.mod - 1) : nextP m n t (w.set (n - 1 - j) 0) (j + 1) := by
 have hM := hm.1
 obtain ⟨h1, h2, h3, h4⟩ := h
 refine ⟨isW_set h1 ⟨by decide, by omega⟩, by rw [List.length_set]; exact h2, hj, ?_⟩
 rw [valW_set _ (by omega), hx, h2, show n - 1 - (n - 1 - j) = j by omega, Int.pow_succ]
 grind
theorem next_y {m : MapM} (hm : OkM m) {n t : Nat} {w : List Int} {j : Nat} (h : nextP m n t w j) (hj : j < n) (hx : w.getD (n - 1 - j) 0 ≠ m.mod - 1) : w.set (n - 1 - j) (w.getD (n - 1 - j) 0 + 1) = wordT m.mod.toNat n (t + 1) ∧ (((t + 1 : Nat) : Nat) : Int) < m.mod ^ n := by
 obtain ⟨h1, h2, h3, h4⟩ := h
 obtain ⟨r0, r1⟩ := isW_get h1 (show n - 1 - j < w.length by omega)
 have g1 := isW_set h1 (i := n - 1 - j) (x := w.getD (n - 1 - j) 0 + 1) ⟨by omega, by omega⟩
 have g2 := valW_set m.mod (w := w) (i := n - 1 - j) (by omega) (w.getD (n - 1 - j) 0 + 1)
 rw [h2, show n - 1 - (n - 1 - j) = j by omega, show w.getD (n - 1 - j) 0 + 1 - w.getD (n - 1 - j) 0 = 1 by omega, Int.one_mul] at g2
 have g3 := valW_bd hm _ g1
 rw [List.length_set, h2] at g3
 have g4 := wordT_valW hm _ g1
 rw [List.length_set, h2] at g4
 have e : (valW m.mod (w.set (n - 1 - j) (w.getD (n - 1 - j) 0 + 1))).toNat = t + 1 := by omega
 rw [e] at g4
 exact ⟨g4.symm, by omega⟩
theorem next_n {m : MapM} (hm : OkM m) {n t : Nat} {w : List Int} (h : nextP m n t w n) (ht : (t : Int) < m.mod ^ n) : ((t + 1 : Nat) : Int) = m.mod ^ n := by
 obtain ⟨h1, h2, h3, h4⟩ := h
 have := (valW_bd hm w h1).1
 omega
def cmpL : List Int → List Int → Int
 | [], [] => 0
 | [], _ :: _ => -1
 | _ :: _, [] => 1
 | a :: x, b :: y => if cmpZ a b = 0 then cmpL x y else cmpZ a b
theorem cmpZ_eq0 {x y : Int} : cmpZ x y = 0 ↔ x = y := by unfold cmpZ; split <;> (try split) <;> omega
theorem valW_cons (M : Int) (a : Int) (x : List Int) : valW M (a :: x) = a * M ^ x.length + valW M x := by
 have := valW_app M [a] x
 rw [List.singleton_append] at this
 rw [this, show valW M [a] = a by show (0 : Int) * M + a = a; omega]
theorem cmpL_val {m : MapM} (hm : OkM m) : ∀ {x y : List Int}, IsW m x → IsW m y → x.length = y.length → cmpL x y = cmpZ (valW m.mod x) (valW m.mod y)
 | [], [], _, _, _ => by show (0 : Int) = cmpZ 0 0; rfl
 | [], _ :: _, _, _, h => by simp at h
 | _ :: _, [], _, _, h => by simp at h
 | a :: x, b :: y, hx, hy, h => by
  have hl : x.length = y.length := by simpa using h
  obtain ⟨_, hx2⟩ := isW_cons.1 hx
  obtain ⟨_, hy2⟩ := isW_cons.1 hy
  have ih := cmpL_val hm hx2 hy2 hl
  have bx := valW_bd hm x hx2
  have by' := valW_bd hm y hy2
  rw [cmpL, valW_cons, valW_cons, hl]
  rw [hl] at bx
  split
  ·rename_i e
   rw [cmpZ_eq0.1 e, ih]
   unfold cmpZ
   split <;> split <;> (try split) <;> (try split) <;> first | rfl | omega
  ·rename_i e
   have hne : a ≠ b := fun q => e (cmpZ_eq0.2 q)
   have hp : 0 < m.mod ^ y.length := Int.pow_pos (by have := hm.1; omega)
   rcases Int.lt_or_gt_of_ne hne with g | g
   ·have := Int.mul_le_mul_of_nonneg_right (show a + 1 ≤ b by omega) (Int.le_of_lt hp)
    rw [Int.add_mul, Int.one_mul] at this
    unfold cmpZ
    rw [if_pos g, if_pos (by omega)]
   ·have := Int.mul_le_mul_of_nonneg_right (show b + 1 ≤ a by omega) (Int.le_of_lt hp)
    rw [Int.add_mul, Int.one_mul] at this
    unfold cmpZ
    rw [if_neg (by omega), if_pos g, if_neg (by omega), if_pos (by omega)]
def firstP (w : List Int) : Prop := ∀ i, i < w.length → 0 < i → ¬ cmpL (rotL w i) w ≤ 0
instance (w : List Int) : Decidable (firstP w) := inferInstanceAs (Decidable (∀ i, i < w.length → 0 < i → ¬ cmpL (rotL w i) w ≤ 0))
theorem first_val {m : MapM} (hm : OkM m) {w : List Int} (hw : IsW m w) : firstP w ↔ ∀ i, i < w.length → 0 < i → valW m.mod w < valW m.mod (rotL w i) := by
 have key : ∀ i, ¬ cmpL (rotL w i) w ≤ 0 ↔ valW m.mod w < valW m.mod (rotL w i) := fun i => by
  rw [cmpL_val hm (rot_is hw i) hw (rot_len w i)]
  unfold cmpZ
  split <;> (try split) <;> omega
 constructor
 ·intro h i h1 h2; exact (key i).1 (h i h1 h2)
 ·intro h i h1 h2; exact (key i).2 (h i h1 h2)
end Go.Mth

namespace Go.Ab
open Go.RowKit
def seesOk (m : List (Nat × AO)) : List (Nat × AO) → Prop
 | [] => True
 | (id, ob) :: r => lookO m id = some ob ∧ ob.seeB = true ∧ seesOk m r
section
variable {C : Ctx} {ops : Array Oper} {s : List (Nat × AV)} {m : List (Nat × AO)} {d : Nat} {t : TypeId} {p : String} {af : Array Edge} {g : Option (Nat × Bool)} {os : List Oper} {K : List Eff → St → Prop}
end
end Go.Ab

namespace Go.Ab
open Go.RowKit
def gcells {α : Type} (c : α → List AV) (l : List α) : List AV := l.flatMap c
theorem gcells_len {α : Type} {c : α → List AV} {n : Nat} (hc : ∀ x, (c x).length = n) : ∀ l : List α, (gcells c l).length = l.length * n
 | [] => by simp [gcells]
 | x :: l => by
  have := gcells_len hc l
  unfold gcells at this ⊢
  rw [List.flatMap_cons, List.length_append, this, hc, List.length_cons, Nat.add_mul, Nat.one_mul, Nat.add_comm]
theorem gcells_drop {α : Type} {c : α → List AV} {n : Nat} (hc : ∀ x, (c x).length = n) (d : α) : ∀ (l : List α) (i : Nat), i < l.length → (gcells c l).drop (i * n) = c (l.getD i d) ++ gcells c (l.drop (i + 1))
 | [], i, h => by simp at h
 | x :: l, 0, _ => by simp [gcells]
 | x :: l, i + 1, h => by
  have := gcells_drop hc d l i (by simpa using h)
  unfold gcells at this ⊢
  rw [List.flatMap_cons, show (i + 1) * n = (c x).length + i * n by rw [hc, Nat.add_mul, Nat.one_mul, Nat.add_comm], ← List.drop_drop, List.drop_left, this]
  simp
section
variable {C : Ctx} {ops : Array Oper} {s : List (Nat × AV)} {m : List (Nat × AO)} {d : Nat} {t : TypeId} {p : String} {af : Array Edge} {g : Option (Nat × Bool)} {os : List Oper} {K : List Eff → St → Prop}
theorem i_indexRow {ty : TypeId} {x y : Operand} {e e' id by' : Nat} {k kk' : IntKind} (xs : List Int) (i : Nat) (hg : Gd ops s g) (ht : tyElem C.P ty = some (e, 1, by')) (hx : ev s x = .row id) (ho : lookO m id = some (.row e' 1 (is k xs))) (hy : ev s y = nm kk' i) (h1 : i < xs.length)
  (kk : aops C ops ⟨(d, .ref id i) :: s, m⟩ os fun es σ' => K ({ val := .ref id i, use := [id] } :: es) σ') : aops C ops ⟨s, m⟩ (⟨some d, .indexAddr ty x y, t, p, af, g⟩ :: os) K :=
 o_indexRow1 (i := (i : Int)) hg ht hx ho hy (by omega) (by simpa [is] using h1) kk
theorem i_loadRow {ty : TypeId} {x : Operand} {id e' : Nat} {k : IntKind} (xs : List Int) (i : Nat) (hg : Gd ops s g) (ht : tySc C.P ty = true) (hx : ev s x = .ref id i) (ho : lookO m id = some (.row e' 1 (is k xs))) (h1 : i < xs.length)
  (kk : aops C ops ⟨(d, .lit (.int k (xs.getD i 0))) :: s, m⟩ os fun es σ' => K ({ val := .lit (.int k (xs.getD i 0)), use := [id] } :: es) σ') : aops C ops ⟨s, m⟩ (⟨some d, .load ty x, t, p, af, g⟩ :: os) K :=
 o_loadS _ hg ht hx ho (getMap 0 h1) kk
theorem i_storeRow {ty : TypeId} {x y : Operand} {id e' : Nat} {k : IntKind} (xs : List Int) (i : Nat) (v : Int) (m' : List (Nat × AO)) (hg : Gd ops s g) (ht : tySize C.P ty = some 1) (hx : ev s x = .ref id i) (ho : lookO m id = some (.row e' 1 (is k xs))) (hy : ev s y = .lit (.int k v)) (h1 : i < xs.length)
  (hm : setO m id (.row e' 1 (is k (xs.set i v))) = m') (kk : aops C ops ⟨s, m'⟩ os fun es σ' => K ({ val := .any, upd := [(id, some (.row e' 1 (is k (xs.set i v))))], use := [id] } :: es) σ') : aops C ops ⟨s, m⟩ (⟨none, .store ty x y, t, p, af, g⟩ :: os) K :=
 o_storeRow (new := [.lit (.int k v)]) (is k (xs.set i v)) m' hg ht hx ho (by rw [hy]; rfl) rfl rfl (by simp [is]; omega) (overMap (f := im k) h1) hm kk
theorem o_eqlNilSl {xt yt e : TypeId} {x y : Operand} {sz : Nat} {cs : List AV} (hg : Gd ops s g) (ht : C.P.underlying xt = some (.slice e)) (hx : ev s x = .sl sz cs) (hy : ev s y = .lit (.slice none 0 0)) (hn : 0 < cs.length)
  (kk : aops C ops ⟨(d, .lit (.bool false)) :: s, m⟩ os fun es σ' => K ({ val := .lit (.bool false) } :: es) σ') : aops C ops ⟨s, m⟩ (⟨some d, .binOp .eql xt x y yt, t, p, af, g⟩ :: os) K :=
 o_val hg (.eqlNil xt e yt x y sz cs rfl ht (by rw [ev_st]; exact hx) (by rw [ev_st]; exact hy) hn) kk
theorem g_len {α : Type} {ty e : TypeId} {x : Operand} {n : Nat} (c : α → List AV) (l : List α) (hc : ∀ x, (c x).length = n) (hg : Gd ops s g) (ht : C.P.underlying ty = some (.slice e)) (hx : ev s x = .sl n (gcells c l))
  (kk : aops C ops ⟨(d, nm .i64 l.length) :: s, m⟩ os fun es σ' => K ({ val := nm .i64 l.length } :: es) σ') : aops C ops ⟨s, m⟩ (⟨some d, .call { callee := .builtin .len, args := #[x], argTypes := #[ty] }, t, p, af, g⟩ :: os) K :=
 o_lenSl l.length hg ht hx (gcells_len hc l) kk
theorem g_lenRow {α : Type} {ty e e' : TypeId} {x : Operand} {n id : Nat} (c : α → List AV) (l : List α) (hc : ∀ x, (c x).length = n) (hg : Gd ops s g) (ht : C.P.underlying ty = some (.slice e)) (hx : ev s x = .row id) (ho : lookO m id = some (.row e' n (gcells c l)))
  (kk : aops C ops ⟨(d, nm .i64 l.length) :: s, m⟩ os fun es σ' => K ({ val := nm .i64 l.length, use := [id] } :: es) σ') : aops C ops ⟨s, m⟩ (⟨some d, .call { callee := .builtin .len, args := #[x], argTypes := #[ty] }, t, p, af, g⟩ :: os) K :=
 o_lenRow l.length hg ht hx ho (gcells_len hc l) kk
theorem g_index {α : Type} {ty : TypeId} {x y : Operand} {e n by' : Nat} {kk' : IntKind} (c : α → List AV) (l : List α) (i : Nat) (hc : ∀ x, (c x).length = n) (hn : Nat.blt 0 n = true) (hg : Gd ops s g) (ht : tyElem C.P ty = some (e, n, by')) (hx : ev s x = .sl n (gcells c l)) (hy : ev s y = nm kk' i) (h1 : i < l.length)
  (kk : aops C ops ⟨(d, .ip ((gcells c l).drop (i * n + 0))) :: s, m⟩ os fun es σ' => K ({ val := .ip ((gcells c l).drop (i * n + 0)) } :: es) σ') : aops C ops ⟨s, m⟩ (⟨some d, .indexAddr ty x y, t, p, af, g⟩ :: os) K := by
 have h2 := o_indexN (C := C) (ops := ops) (m := m) (d := d) (t := t) (p := p) (af := af) (os := os) (K := K) (i := (i : Int)) hg ht hx hy (by omega) (by rw [gcells_len hc, Int.toNat_natCast]; rw [Nat.blt_eq] at hn; exact Nat.mul_lt_mul_of_pos_right h1 hn)
 rw [Int.toNat_natCast] at h2
 exact h2 kk
theorem g_loadA {α : Type} {ty : TypeId} {x : Operand} {n : Nat} (c : α → List AV) (l : List α) (i : Nat) (dflt : α) (hc : ∀ x, (c x).length = n) (hg : Gd ops s g) (ht : tyAgg C.P ty = some n) (hx : ev s x = .ip ((gcells c l).drop (i * n + 0))) (h1 : i < l.length)
  (kk : aops C ops ⟨(d, .agg (c (l.getD i dflt))) :: s, m⟩ os fun es σ' => K ({ val := .agg (c (l.getD i dflt)) } :: es) σ') : aops C ops ⟨s, m⟩ (⟨some d, .load ty x, t, p, af, g⟩ :: os) K := by
 rw [Nat.add_zero, gcells_drop hc dflt l i h1] at hx
 exact o_loadIA _ hg ht hx (by rw [List.length_append, hc]; omega) (by rw [← hc (l.getD i dflt)]; exact List.take_left) kk
theorem g_field {α : Type} {ty : TypeId} {x : Operand} {f fo n : Nat} {ft : TypeId} (c : α → List AV) (l : List α) (i : Nat) (hc : ∀ x, (c x).length = n) (hg : Gd ops s g) (hf : tyField C.P ty f = some (fo, ft)) (hx : ev s x = .ip ((gcells c l).drop (i * n + 0))) (h1 : i < l.length) (h2 : Nat.blt fo n = true)
  (kk : aops C ops ⟨(d, .ip ((gcells c l).drop (i * n + fo))) :: s, m⟩ os fun es σ' => K ({ val := .ip ((gcells c l).drop (i * n + fo)) } :: es) σ') : aops C ops ⟨s, m⟩ (⟨some d, .fieldAddr ty x f, t, p, af, g⟩ :: os) K := by
 have e1 : ((gcells c l).drop (i * n + 0)).drop fo = (gcells c l).drop (i * n + fo) := by rw [List.drop_drop, Nat.add_zero]
 rw [Nat.blt_eq] at h2
 have hl : fo < ((gcells c l).drop (i * n + 0)).length := by
  rw [List.length_drop, gcells_len hc, Nat.add_zero, ← Nat.sub_mul]
  have : 1 * n ≤ (l.length - i) * n := Nat.mul_le_mul_right _ (by omega)
  omega
 have h3 := o_fieldIp (C := C) (ops := ops) (m := m) (d := d) (t := t) (p := p) (af := af) (os := os) (K := K) hg hf hx hl
 rw [e1] at h3
 exact h3 kk
theorem g_loadS {α : Type} {ty : TypeId} {x : Operand} {n fo : Nat} (c : α → List AV) (l : List α) (i : Nat) (dflt : α) (v : AV) (hc : ∀ x, (c x).length = n) (hg : Gd ops s g) (ht : tySc C.P ty = true) (hx : ev s x = .ip ((gcells c l).drop (i * n + fo))) (h1 : i < l.length) (hv : (c (l.getD i dflt))[fo]? = some v)
  (kk : aops C ops ⟨(d, v) :: s, m⟩ os fun es σ' => K ({ val := v } :: es) σ') : aops C ops ⟨s, m⟩ (⟨some d, .load ty x, t, p, af, g⟩ :: os) K := by
 refine o_loadIS v hg ht hx ?_ kk
 have hlt : fo < (c (l.getD i dflt)).length := (List.getElem?_eq_some_iff.1 hv).1
 rw [← List.drop_drop, gcells_drop hc dflt l i h1, List.getElem?_drop]
 simp only [Nat.add_zero]
 rw [List.getElem?_append_left hlt]
 exact hv
theorem g_append {α : Type} {ty : TypeId} {a x : Operand} {e n by' : Nat} {z : List Value} {id i e' : Nat} (c : α → List AV) (id' : Nat) (xs ys : List α) (m' : List (Nat × AO)) (hc : ∀ x, (c x).length = n) (hn : Nat.blt 0 n = true) (hg : Gd ops s g) (ht : tyElem C.P ty = some (e, n, by')) (hz : tyZero C.P e = some z) (hzl : z.length = n)
  (hs : ev s a = .row id) (ho : lookO m id = some (.row e n (gcells c xs))) (hx : ev s x = .row i) (hi : lookO m i = some (.row e' n (gcells c ys))) (hb : (xs.length + ys.length) * by' ≤ 140737488355328) (hb2 : (xs.length + ys.length) * n ≤ 140737488355328)
  (hf : St.freshB ⟨s, m⟩ id' = true) (hm : delO m id = m') (kk : aops C ops ⟨(d, .row id') :: s, (id', .row e n (gcells c (xs ++ ys))) :: m'⟩ os fun es σ' => K ({ val := .row id', upd := [(id', some (.row e n (gcells c (xs ++ ys)))), (id, none)], use := [id, i], fresh := [id'] } :: es) σ') :
  aops C ops ⟨s, m⟩ (⟨some d, .call { callee := .builtin .append, args := #[a, x], argTypes := #[ty, ty] }, t, p, af, g⟩ :: os) K := by
 have hn' := hn
 rw [Nat.blt_eq] at hn'
 exact o_append id' (gcells c ys) (gcells c (xs ++ ys)) [id, i] m' hg ht hn hz hzl hs ho (.inr ⟨i, e', hx, hi, rfl⟩) (by rw [gcells_len hc, gcells_len hc, ← Nat.add_mul, Nat.mul_div_cancel _ hn']; exact hb) (by rw [gcells_len hc, gcells_len hc, ← Nat.add_mul]; exact hb2) (by simp [gcells]) hf hm kk
theorem g_appendSl {α : Type} {ty : TypeId} {a x : Operand} {e n by' : Nat} {z : List Value} {id : Nat} (c : α → List AV) (id' : Nat) (xs ys : List α) (m' : List (Nat × AO)) (hc : ∀ x, (c x).length = n) (hn : Nat.blt 0 n = true) (hg : Gd ops s g) (ht : tyElem C.P ty = some (e, n, by')) (hz : tyZero C.P e = some z) (hzl : z.length = n)
  (hs : ev s a = .row id) (ho : lookO m id = some (.row e n (gcells c xs))) (hx : ev s x = .sl n (gcells c ys)) (hb : (xs.length + ys.length) * by' ≤ 140737488355328) (hb2 : (xs.length + ys.length) * n ≤ 140737488355328)
  (hf : St.freshB ⟨s, m⟩ id' = true) (hm : delO m id = m') (kk : aops C ops ⟨(d, .row id') :: s, (id', .row e n (gcells c (xs ++ ys))) :: m'⟩ os fun es σ' => K ({ val := .row id', upd := [(id', some (.row e n (gcells c (xs ++ ys)))), (id, none)], use := [id], fresh := [id'] } :: es) σ') :
  aops C ops ⟨s, m⟩ (⟨some d, .call { callee := .builtin .append, args := #[a, x], argTypes := #[ty, ty] }, t, p, af, g⟩ :: os) K := by
 have hn' := hn
 rw [Nat.blt_eq] at hn'
 exact o_append id' (gcells c ys) (gcells c (xs ++ ys)) [id] m' hg ht hn hz hzl hs ho (.inl ⟨hx, rfl⟩) (by rw [gcells_len hc, gcells_len hc, ← Nat.add_mul, Nat.mul_div_cancel _ hn']; exact hb) (by rw [gcells_len hc, gcells_len hc, ← Nat.add_mul]; exact hb2) (by simp [gcells]) hf hm kk
end
end Go.Ab

namespace Go.Mth
open Go.Ab
structure Ins where
 kind : Int
 reg : Int
 next : Int
 els : Int
 deriving Inhabited, DecidableEq
structure Mac where
 regs : Int
 code : List Ins
structure Cfg where
 at' : Int
 regs : List Int
structure Frc where
 num : ByteArray
 den : ByteArray
 deriving Inhabited
def cI (x : Ins) : List AV := [.lit (.int .i64 x.kind), .lit (.int .i64 x.reg), .lit (.int .i64 x.next), .lit (.int .i64 x.els)]
def cF (x : Frc) : List AV := [.lit (.string x.num), .lit (.string x.den)]
theorem cF_len : ∀ x, (cF x).length = 2 := fun _ => rfl
def macV (m : Mac) : AV := .agg [.lit (.int .i64 m.regs), .sl 4 (gcells cI m.code)]
def cfgV (c : Cfg) : AV := .agg [.lit (.int .i64 c.at'), .sl 1 (is .i64 c.regs)]
def plc (m : Mac) (z : Int) : Prop := 0 ≤ z ∧ z ≤ (m.code.length : Int)
instance (m : Mac) (z : Int) : Decidable (plc m z) := by unfold plc; infer_instance
def insP (m : Mac) (x : Ins) : Prop := (0 ≤ x.reg ∧ x.reg < m.regs ∧ plc m x.next) ∧ (x.kind = 0 ∧ x.els = 0 ∨ x.kind = 1 ∧ plc m x.els)
instance (m : Mac) (x : Ins) : Decidable (insP m x) := by unfold insP; infer_instance
def okMac (m : Mac) : Prop := 1 ≤ m.regs ∧ m.regs ≤ 4 ∧ 1 ≤ m.code.length ∧ m.code.length ≤ 12 ∧ ∀ x ∈ m.code, insP m x
instance (m : Mac) : Decidable (okMac m) := by unfold okMac; infer_instance
def regP (n : Int) : Prop := 0 ≤ n ∧ n ≤ 1000
instance (n : Int) : Decidable (regP n) := by unfold regP; infer_instance
def okCfg (m : Mac) (c : Cfg) : Prop := okMac m ∧ plc m c.at' ∧ (c.regs.length : Int) = m.regs ∧ ∀ n ∈ c.regs, regP n
instance (m : Mac) (c : Cfg) : Decidable (okCfg m c) := by unfold okCfg; infer_instance
def P30 : List Nat := [2, 3, 5, 7, 11, 13, 17, 19, 23, 29, 31, 37, 41, 43, 47, 53, 59, 61, 67, 71, 73, 79, 83, 89, 97, 101, 103, 107, 109, 113]
def prv (i : Nat) : Nat := (1 :: P30).getD i 0
def arr (i : Nat) : List Nat := P30.take i ++ List.replicate (30 - i) 0
theorem bpn {q : Prop} [Decidable q] (h : ¬ q) : bp q = .lit (.bool false) := by unfold bp; rw [decide_eq_false h]
theorem bpy {q : Prop} [Decidable q] (h : q) : bp q = .lit (.bool true) := by unfold bp; rw [decide_eq_true h]
def ixP {α : Type} (p : α → Prop) [DecidablePred p] (l : List α) : Int := if ∃ x ∈ l, p x then (l.findIdx (fun x => decide (p x)) : Int) else -1
def ownP (m : Mac) (z : Int) : Nat := P30.getD (m.regs + 2 * z).toNat 0
def twnP (m : Mac) (z : Int) : Nat := P30.getD (m.regs + 2 * z + 1).toNat 0
end Go.Mth

namespace Go.Ab
open Go.RowKit
mutual
theorem RepV.agree {H : Heap} {L L' : Loc} : ∀ {x : AV} {v : Value}, (∀ id, x.has id = true → L' id = L id) → RepV H x L v → RepV H x L' v
 | .any, _, _, _ => by simp [RepV]
 | .lit _, _, _, h => by simpa [RepV] using h
 | .sl _ _, _, _, h => by simpa [RepV] using h
 | .slc _ _ _, _, _, h => by simpa [RepV] using h
 | .agg fs, _, hn, h => by
  simp only [RepV] at h ⊢
  obtain ⟨vs, rfl, hr, h1⟩ := h
  exact ⟨vs, rfl, RepL.agree (fun id hid => hn id (by simpa [AV.has] using hid)) hr, h1⟩
 | .tup fs, _, hn, h => by
  simp only [RepV] at h ⊢
  obtain ⟨vs, rfl, hr⟩ := h
  exact ⟨vs, rfl, RepL.agree (fun id hid => hn id (by simpa [AV.has] using hid)) hr⟩
 | .ref i off, _, hn, h => by
  simp only [RepV] at h ⊢
  obtain ⟨x, g, h1, h2, h3⟩ := h
  exact ⟨x, g, by rw [hn i (by simp [AV.has])]; exact h1, h2, h3⟩
 | .row i, _, hn, h => by
  simp only [RepV] at h ⊢
  exact ⟨by rw [hn i (by simp [AV.has])]; exact h.1, h.2⟩
 | .vw i off sz n, _, hn, h => by
  simp only [RepV] at h ⊢
  obtain ⟨x, g, A, cap, h1, h2⟩ := h
  exact ⟨x, g, A, cap, by rw [hn i (by simp [AV.has])]; exact h1, h2⟩
 | .ip _, _, _, h => by simpa [RepV] using h
 | .clo f fs, _, hn, h => by
  simp only [RepV] at h ⊢
  obtain ⟨vs, rfl, hr⟩ := h
  exact ⟨vs, rfl, RepL.agree (fun id hid => hn id (by simpa [AV.has] using hid)) hr⟩
theorem RepL.agree {H : Heap} {L L' : Loc} : ∀ {xs : List AV} {vs : List Value}, (∀ id, hasL id xs = true → L' id = L id) → RepL H xs L vs → RepL H xs L' vs
 | [], _, _, h => by simpa [RepL] using h
 | x :: xs, _, hn, h => by
  simp only [RepL] at h ⊢
  obtain ⟨v, r, rfl, h1, h2⟩ := h
  exact ⟨v, r, rfl, RepV.agree (fun id hid => hn id (by simp [hasL, hid])) h1, RepL.agree (fun id hid => hn id (by simp [hasL, hid])) h2⟩
end
mutual
/-- The own objects that a value names. -/
def AV.ids : AV → List Nat
 | .ref i _ => [i]
 | .row i => [i]
 | .vw i _ _ _ => [i]
 | .agg fs => idsL fs
 | .tup fs => idsL fs
 | .clo _ fs => idsL fs
 | _ => []
def idsL : List AV → List Nat
 | [] => []
 | x :: xs => x.ids ++ idsL xs
end
mutual
theorem has_ids {id : Nat} : ∀ {x : AV}, x.has id = true → id ∈ x.ids
 | .any, h => by simp [AV.has] at h
 | .lit _, h => by simp [AV.has] at h
 | .sl _ _, h => by simp [AV.has] at h
 | .slc _ _ _, h => by simp [AV.has] at h
 | .ip _, h => by simp [AV.has] at h
 | .ref i _, h => by simp only [AV.has] at h; simp [AV.ids, Nat.eq_of_beq_eq_true h]
 | .row i, h => by simp only [AV.has] at h; simp [AV.ids, Nat.eq_of_beq_eq_true h]
 | .vw i _ _ _, h => by simp only [AV.has] at h; simp [AV.ids, Nat.eq_of_beq_eq_true h]
 | .agg fs, h => by simp only [AV.has, AV.ids] at h ⊢; exact hasL_ids h
 | .tup fs, h => by simp only [AV.has, AV.ids] at h ⊢; exact hasL_ids h
 | .clo _ fs, h => by simp only [AV.has, AV.ids] at h ⊢; exact hasL_ids h
theorem hasL_ids {id : Nat} : ∀ {xs : List AV}, hasL id xs = true → id ∈ idsL xs
 | [], h => by simp [hasL] at h
 | x :: xs, h => by
  simp only [hasL, Bool.or_eq_true] at h
  simp only [idsL, List.mem_append]
  exact h.elim (fun e => .inl (has_ids e)) (fun e => .inr (hasL_ids e))
end
def AO.ids : AO → List Nat
 | .var _ cs => idsL cs
 | .pin cs _ => idsL cs
 | _ => []
def memB (K : List Nat) (i : Nat) : Bool := K.any fun j => Nat.beq j i
def RCalls (C : Ctx) (f : FuncId) (args : List AV) (K : List Nat) (m : List (Nat × AO)) (res : AV) (m' : List (Nat × AO)) : Prop :=
 ∀ (w0 : World) (H : Heap) (L : Loc) (a : Act) (w : World) (vals : List Value), Rep C 0 w0 H L (St.sem ⟨[], m⟩) a w → RepL H args L vals →
  Calls C.P f vals.toArray w fun e w' => ∃ v H' L', e = .returned v ∧ Ext w0.heap.size H H' ∧ RepV H' res L' v ∧ Rep C 0 w0 H' L' (St.sem ⟨[], m'⟩) a w' ∧ ∀ id ∈ K, L' id = L id
def idxK : Nat → List Nat → List (Nat × AV)
 | _, [] => []
 | j, i :: r => (j, .ref i 0) :: idxK (j + 1) r
def varAt (m : List (Nat × AO)) (i : Nat) : Bool := match lookO m i with
 | some o => o.isVar
 | none => false
def keysO (m : List (Nat × AO)) : List Nat := m.map (·.1)
def pinK (K : List Nat) : AO → Bool
 | .pin cs _ => (idsL cs).all (memB K)
 | _ => false
def restB (K : List Nat) (m m' : List (Nat × AO)) (res : AV) (e : List (Nat × AO)) : Bool :=
 e.all fun p => pinK K p.2 && !memB (keysO m) p.1 && !memB (keysO m') p.1 && !memB res.ids p.1 && !memB K p.1 && m'.all fun q => !memB q.2.ids p.1
section
variable {C : Ctx} {n : Nat} {w0 : World} {ops : Array Oper} {Q : Exit → Act → World → Prop}
end
end Go.Ab

namespace Go.Ab
open Go.RowKit
def succB (N : Nat) (ops : Array Oper) : Bool := (List.range N).all fun j => (List.range (N + 1)).any fun k => Nat.blt j k && (match ops[k]? with
 | some o => edgeB j o
 | none => false)
theorem awp_regionSW {C : Ctx} {n : Nat} {Q : Exit → St → Prop} {σ : St} {id : Nat} {ops : Array Oper} (k d : Nat) (y : Operand) (f : FuncId) (caps : List AV) (args : Array Operand) (tys : Array TypeId) (t : TypeId) (p : String) (af : Array Edge) (asx : List AV) (res : AV) (m' : List (Nat × AO))
  (hk : ops[k]? = some ⟨some d, .call { callee := .value y, args := args, argTypes := tys }, t, p, af, none⟩) (hkl : ops.size = k + 1) (hd : dstsB n ops.toList = true) (hb : callable C.P f = true)
  (h : aops C ops σ (ops.toList.take k) fun es σ0 => ∃ σ1, Wk C n σ0 σ1 ∧ σ1.ev y = .clo f caps ∧ args.toList.map σ1.sem.ev ++ caps = asx ∧ SCalls C n f asx σ1.slots σ1.objs res m' ∧ Q .normal ⟨(d, res) :: σ1.slots, m'⟩) :
  awp C n (.region id ops false) Q σ := fun w0 H L a w hr r => by
 obtain ⟨es, σ0, ht, σ1, hwk, hy, has, hS, hq⟩ := h
 have hdst := dsts_spec hd
 have hk' : ops.toList[k]? = some ⟨some d, .call { callee := .value y, args := args, argTypes := tys }, t, p, af, none⟩ := by simpa using hk
 have hops : ops.toList = ops.toList.take k ++ [⟨some d, .call { callee := .value y, args := args, argTypes := tys }, t, p, af, none⟩] := by
  obtain ⟨hl, hx⟩ := List.getElem?_eq_some_iff.1 hk'
  have h1 := List.take_append_drop k ops.toList
  rw [List.drop_eq_getElem_cons hl, hx, List.drop_of_length_le (by simp [hkl])] at h1
  exact h1.symm
 refine wpIn_region ?_
 rw [List.range_eq_range']
 have htl : (ops.toList.take k).length = k := by rw [List.length_take]; simp [hkl]
 have hsz : ops.size = (ops.toList.take k).length + (0 + 1) := by rw [htl, hkl]
 rw [hsz, ← List.range'_append_1, List.range'_succ]
 refine lex_prefix (C := C) (n := n) (w0 := w0) r _ (ops.toList.take k) 0 σ.sem σ0.sem es H L a w (by rw [List.drop_zero, htl]) ht hr (fun o ho => hdst o (List.mem_of_mem_take ho)) fun a2 w2 Hq Lq hxq hrq => ?_
 obtain ⟨H2, L2, hxw, hr2⟩ := hwk w0 Hq Lq a2 w2 hrq
 have hx2 := hxq.trans hxw
 simp only [Nat.zero_add]
 rw [wpOpsIn_cons, htl]
 unfold wpOpIn
 simp only [hk]
 rw [if_pos (by simp [Region.wanted])]
 have hyv := hr2.ev y
 rw [ev_sem, hy] at hyv
 simp only [RepV] at hyv
 obtain ⟨cv, hev, hcr⟩ := hyv
 have hargs : ∀ (xs : List Operand), RepL H2 (xs.map σ1.sem.ev) L2 (xs.map a2.eval) := by
  intro xs
  induction xs with
  | nil => simp only [List.map_nil, RepL]
  | cons x xs ih => simp only [List.map_cons, RepL]; exact ⟨_, _, rfl, hr2.ev x, ih⟩
 have hal := (hargs args.toList).app hcr
 rw [has] at hal
 have hc := hS w0 H2 L2 a2 w2 _ hr2 hal
 have e1 : (List.map a2.eval args.toList ++ cv).toArray = args.map a2.eval ++ cv.toArray := by apply Array.ext'; simp
 rw [e1] at hc
 refine wp_enter (run_call_val rfl hev (callable_spec hb).1 (callable_spec hb).2) (hc.mono ?_) r
 rintro e w3 ⟨v, H3, L3, rfl, hx3, hv3, hr3⟩
 refine ⟨v, rfl, ?_⟩
 have hdn : d < n := hdst ⟨some d, .call { callee := .value y, args := args, argTypes := tys }, t, p, af, none⟩ (List.mem_of_getElem? hk') d rfl
 have hv := hr3.val (dst := some d) (fun d' hd' => by cases hd'; exact hdn) (x := res) (v := v) hv3 [] []
 rw [← sem_app] at hv
 simp only [List.range'_zero]
 rw [wpOpsIn]
 exact ⟨_, H3, L3, hx2.trans hx3, hv, hq⟩
theorem SCalls.le {C : Ctx} {n : Nat} {f : FuncId} {asx as' : List AV} {so : List (Nat × AV)} {m m' : List (Nat × AO)} {res : AV} (h : ∀ H L vs, RepL H asx L vs → RepL H as' L vs) (hS : SCalls C n f as' so m res m') : SCalls C n f asx so m res m' := fun w0 H L a w vals hr hra => hS w0 H L a w vals hr (h H L vals hra)
section
variable {C : Ctx} {ops : Array Oper} {s : List (Nat × AV)} {m : List (Nat × AO)} {K : List Eff → St → Prop} {os : List Oper} {d : Nat} {t : TypeId} {p : String} {af : Array Edge} {g : Option (Nat × Bool)}
end
def lateQ (C : Ctx) (n : Nat) (Q : Exit → St → Prop) : Exit → St → Prop := fun e σ => ∃ σ', Wk C n σ σ' ∧ Q e σ'
def AO.frzVO (id : Nat) (ob : AO) : AO → AO
 | .var t c => .var t (frzVL id ob c)
 | .row e s c => .row e s c
 | .blk o => .blk o
 | .pin c us => .pin (frzVL id ob c) us
def St.seeV (σ : St) (id : Nat) (ob : AO) : St := ⟨σ.slots.map fun p => (p.1, p.2.frzV id ob), (delO σ.objs id).map fun p => (p.1, AO.frzVO id ob p.2)⟩
theorem Wk.see {C : Ctx} {n : Nat} {σ : St} {id : Nat} {t : TypeId} {cs : List AV} (h : lookO σ.objs id = some (.var t cs)) (hk : closedL cs = true) : Wk C n σ (σ.seeV id (.var t cs)) := fun w0 H L a w hr => by
 obtain ⟨g, vs, hl, hh, hrl, h1, hB, hH⟩ := hr.objs id _ h
 have hle : H.le (fun b => if b = g then some (.cells vs.toArray t (0, 0)) else H b) := fun b o hb => by
  have : b ≠ g := fun e => by subst e; rw [hH] at hb; cases hb
  simp [this, hb]
 have hheap : ∀ b o, (if b = g then some (.cells vs.toArray t (0, 0)) else H b) = some o → w.heap[b]? = some o := fun b o hb => by
  by_cases hbg : b = g
  ·subst hbg; simp at hb; subst hb; exact hh
  ·simp [hbg] at hb; exact hr.heap b o hb
 have hseen : Seen (fun b => if b = g then some (.cells vs.toArray t (0, 0)) else H b) (.var t cs) (.pointer (some ⟨g, 0, none⟩)) := ⟨fun e' sz' cs' he => (by cases he), fun g' hg => by
  simp only [ownB, Option.some.injEq] at hg
  subst hg
  exact ⟨vs.toArray, t, (0, 0), vs, by simp, fun j u hu => by simpa using hu, RepL.mono hle (Loc.le_refl _) (RepL.closed hk hrl), h1⟩⟩
 have r2 := hr.hide h hl hle hheap fun g' hg' => by
  have : g' ≠ g := fun e => hg' (by rw [e]; rfl)
  simp [this]
 have old : ∀ {i : Nat} {o : AO}, lookO ((delO σ.objs id).map fun p => (p.1, AO.frzVO id (.var t cs) p.2)) i = some o → ∃ o0, o = AO.frzVO id (.var t cs) o0 ∧ i ≠ id ∧ lookO σ.objs i = some o0 := fun {i o} hi => by
  rw [lookO_map (fun x => AO.frzVO id (.var t cs) x), lookO_del] at hi
  by_cases hid : i = id
  ·rw [if_pos hid] at hi; cases hi
  ·rw [if_neg hid] at hi
   cases ho : lookO σ.objs i with
   | none => rw [ho] at hi; cases hi
   | some o0 => rw [ho] at hi; cases hi; exact ⟨o0, rfl, hid, rfl⟩
 have mu : ∀ {i : Nat} {o0 : AO}, i ≠ id → lookO σ.objs i = some o0 → (fun j => if j = id then none else (St.sem σ).μ j) i = some o0 := fun hne ho => by simp [hne]; exact ho
 refine ⟨_, L, ⟨hle, fun b hb => ?_⟩, ⟨r2.glob, r2.heap, r2.size, fun i => ?_, fun i o ho => ?_, fun i j o o' gg x x' hne ho ho' hx hx' hg => ?_, r2.below, r2.defers⟩⟩
 ·have : b ≠ g := fun e => by omega
  simp [this]
 ·show RepV _ (look (σ.slots.map fun p => (p.1, p.2.frzV id (.var t cs))) i) L _
  rw [look_map (fun x => x.frzV id (.var t cs)) rfl]
  exact RepV.frzV (Heap.le_refl _) hseen hl (r2.slot i)
 ·obtain ⟨o0, rfl, hne, ho0⟩ := old ho
  have h2 := r2.objs i o0 (mu hne ho0)
  cases o0 with
  | var t' c =>
   obtain ⟨g2, us, a1, a2, a3, a4, a5, a6⟩ := h2
   exact ⟨g2, us, a1, a2, RepL.frzV (Heap.le_refl _) hseen hl a3, a4, a5, a6⟩
  | row e s c => exact h2
  | blk o => exact h2
  | pin c us => exact ⟨h2.1, RepL.frzV (Heap.le_refl _) hseen hl h2.2⟩
 ·obtain ⟨o0, rfl, hne0, ho0⟩ := old ho
  obtain ⟨o1, rfl, hne1, ho1⟩ := old ho'
  exact r2.apart i j o0 o1 gg x x' hne (mu hne0 ho0) (mu hne1 ho1) hx hx' hg
end Go.Ab

namespace Go.Ab
open Go.RowKit
section
variable {C : Ctx} {ops : Array Oper} {s : List (Nat × AV)} {m : List (Nat × AO)} {K : List Eff → St → Prop} {os : List Oper} {d : Nat} {t : TypeId} {p : String} {af : Array Edge} {g : Option (Nat × Bool)}
theorem g_indexRow {α : Type} {ty : TypeId} {x y : Operand} {e e' n by' id : Nat} {kk' : IntKind} (c : α → List AV) (l : List α) (i : Nat) (hc : ∀ x, (c x).length = n) (hn : Nat.blt 0 n = true) (hg : Gd ops s g) (ht : tyElem C.P ty = some (e, n, by')) (hx : ev s x = .row id) (ho : lookO m id = some (.row e' n (gcells c l))) (hy : ev s y = nm kk' i) (h1 : i < l.length)
  (kk : aops C ops ⟨(d, .ref id (i * n)) :: s, m⟩ os fun es σ' => K ({ val := .ref id (i * n), use := [id] } :: es) σ') : aops C ops ⟨s, m⟩ (⟨some d, .indexAddr ty x y, t, p, af, g⟩ :: os) K := by
 have := Step.indexRow (C := C) (S := St.sem ⟨s, m⟩) (o := ⟨some d, .indexAddr ty x y, t, p, af, g⟩) ty x y e e' id n by' (gcells c l) kk' (i : Int) rfl ht (by rw [ev_st]; exact hx) ho (by rw [ev_st]; exact hy) (by omega) (by rw [gcells_len hc, Int.toNat_natCast]; rw [Nat.blt_eq] at hn; exact Nat.mul_lt_mul_of_pos_right h1 hn)
 rw [Int.toNat_natCast] at this
 exact o_val hg this kk
theorem g_loadRowA {α : Type} {ty : TypeId} {x : Operand} {n id e' : Nat} (c : α → List AV) (l : List α) (i : Nat) (dflt : α) (hc : ∀ x, (c x).length = n) (hg : Gd ops s g) (ht : tyAgg C.P ty = some n) (hx : ev s x = .ref id (i * n)) (ho : lookO m id = some (.row e' n (gcells c l))) (h1 : i < l.length)
  (kk : aops C ops ⟨(d, .agg (c (l.getD i dflt))) :: s, m⟩ os fun es σ' => K ({ val := .agg (c (l.getD i dflt)), use := [id] } :: es) σ') : aops C ops ⟨s, m⟩ (⟨some d, .load ty x, t, p, af, g⟩ :: os) K :=
 o_loadA _ hg ht hx ho rfl (by
  rw [Nat.ble_eq]
  show i * n + n ≤ (gcells c l).length
  rw [gcells_len hc, ← Nat.succ_mul]
  exact Nat.mul_le_mul_right _ h1) (by
  show ((gcells c l).drop (i * n)).take n = _
  rw [gcells_drop hc dflt l i h1, ← hc (l.getD i dflt)]
  exact List.take_left) kk
end
def idxX : Nat → List (Nat × Bool) → List (Nat × AV)
 | _, [] => []
 | j, (i, b) :: r => (j, bif b then .row i else .ref i 0) :: idxX (j + 1) r
def rowAt (m : List (Nat × AO)) (i : Nat) : Bool := match lookO m i with
 | some (.row ..) => true
 | _ => false
def okX (m m' : List (Nat × AO)) (p : Nat × Bool) : Bool := bif p.2 then rowAt m p.1 else varAt m p.1 && varAt m' p.1
end Go.Ab

namespace Go.Mth
open Go.Ab
instance : Inhabited FrZ := ⟨⟨0, 1⟩⟩
instance : Inhabited LinZ := ⟨oneZ⟩
def cK (k : IntKind) (z : Int) : List AV := [bp (z < 0), .sl 1 (ns k (digs z.natAbs))]
def cW (z : Int) : List AV := cK .u32 z
def cN (z : Int) : List AV := cK .i64 z
def cQ (f : FrZ) : List AV := cK .u32 f.num ++ cK .u32 f.den
def cR (f : FrZ) : List AV := cK .i64 f.num ++ cK .i64 f.den
def cV (l : List Int) : List AV := [.sl 2 (gcells cW l)]
def cM (l : List Int) : List AV := [.sl 2 (gcells cN l)]
def cP (l : List Int) : List AV := [.sl 1 (sbs (l.map txt))]
def cJ (l : LinZ) : List AV := cK .i64 l.mul ++ cK .i64 l.add ++ cK .i64 l.div
theorem cW_len : ∀ x, (cW x).length = 2 := fun _ => rfl
theorem cV_len : ∀ x, (cV x).length = 1 := fun _ => rfl
theorem cP_len : ∀ x, (cP x).length = 1 := fun _ => rfl
def frW (f : FrZ) : AV := .agg (cQ f)
def frR (f : FrZ) : AV := .agg (cR f)
theorem row_gs' {α : Type} {e : TypeId} {n : Nat} {c : α → List AV} {xs ys : List α} (h : xs = ys) : (some (AO.row e n (gcells c xs)) : Option AO) = some (AO.row e n (gcells c ys)) := by rw [h]
theorem gs_as {α : Type} {n : Nat} {c : α → List AV} {xs ys : List α} (h : xs = ys) : AV.sl n (gcells c xs) = AV.sl n (gcells c ys) := by rw [h]
theorem sgn_lt0 {z : Int} : sgn z < 0 ↔ z < 0 := by unfold sgn; split <;> (try split) <;> omega
theorem gcd_pos {n d : Int} (hd : d ≠ 0) : (0 : Int) < ((Int.gcd n d : Nat) : Int) := by have := Int.gcd_pos_of_ne_zero_right n hd; omega
theorem gcd_len {n d : Int} (hd : d ≠ 0) : (digs (((Int.gcd n d : Nat) : Int)).natAbs).length ≤ (digs d.natAbs).length := digs_len_le (abs_of_dvd (Int.gcd_dvd_right n d) hd)
theorem red_n {n d : Int} (h : d < 0) : redZ n d = redP (-n) (-d) := if_pos h
theorem red_p {n d : Int} (h : ¬ d < 0) : redZ n d = redP n d := if_neg h
def frT (f : FrZ) : Frc := ⟨txt f.num, txt f.den⟩
def noF : Frc := ⟨noS, noS⟩
noncomputable def cycE (m : MapM) (w : List Int) : Nat := if okM m = true then if freeM m ∧ OkW m w ∧ w ≠ [] then 0 else 2 else 1
noncomputable def fxF (m : MapM) (w : List Int) : Frc := if cycE m w = 0 then frT (fixZ m w) else noF
def trL (m : MapM) (w : List Int) (i : Nat) : List Frc := (List.range i).map fun j => frT (trnZ m w (fixZ m w) j)
noncomputable def tnL (m : MapM) (w : List Int) : List Frc := if cycE m w = 0 then trL m w w.length else []
theorem cyc_1 {m : MapM} {w : List Int} (h : ¬ okM m = true) : cycE m w = 1 := by unfold cycE; rw [if_neg h]
theorem cyc_2 {m : MapM} {w : List Int} (h : okM m = true) (h2 : ¬ (freeM m ∧ OkW m w ∧ w ≠ [])) : cycE m w = 2 := by unfold cycE; rw [if_pos h, if_neg h2]
theorem cyc_0 {m : MapM} {w : List Int} (h : okM m = true) (h2 : freeM m ∧ OkW m w ∧ w ≠ []) : cycE m w = 0 := by unfold cycE; rw [if_pos h, if_pos h2]
theorem cyc_0' {m : MapM} {w : List Int} (h : cycE m w = 0) : OkM m ∧ freeM m ∧ OkW m w ∧ w ≠ [] := by
 unfold cycE at h
 split at h
 ·rename_i hm
  split at h
  ·rename_i h2; exact ⟨okM_iff.1 hm, h2⟩
  ·cases h
 ·cases h
theorem fxF_no {m : MapM} {w : List Int} (h : cycE m w ≠ 0) : fxF m w = noF ∧ tnL m w = [] := ⟨if_neg h, if_neg h⟩
theorem fxF_ok {m : MapM} {w : List Int} (h : cycE m w = 0) : fxF m w = frT (fixZ m w) ∧ tnL m w = trL m w w.length := ⟨if_pos h, if_pos h⟩
theorem trL_len (m : MapM) (w : List Int) (i : Nat) : (trL m w i).length = i := by unfold trL; simp
theorem trL_s (m : MapM) (w : List Int) (i : Nat) : trL m w i ++ [frT (trnZ m w (fixZ m w) i)] = trL m w (i + 1) := by unfold trL; rw [List.range_succ, List.map_append]; rfl
theorem trL_get {m : MapM} {w : List Int} {n i : Nat} (h : i < n) : (trL m w n).getD i default = frT (trnZ m w (fixZ m w) i) := by unfold trL; simp [List.getD_eq_getElem?_getD, h]
theorem rot_ok {m : MapM} {w : List Int} (h : OkW m w) (i : Nat) : OkW m (rotL w i) := ⟨rot_is h.1 i, by rw [rot_len]; exact h.2⟩
theorem rot_ne {w : List Int} (h : w ≠ []) (i : Nat) : rotL w i ≠ [] := fun e => h (List.eq_nil_of_length_eq_zero (by rw [← rot_len w i, e]; rfl))
theorem trn_fit {m : MapM} (hm : OkM m) (hf : freeM m) {w : List Int} (hw : OkW m w) (hne : w ≠ []) {i : Nat} (hi : i ≤ w.length) : Fit (trnZ m w (fixZ m w) i).num ∧ Fit (trnZ m w (fixZ m w) i).den := by
 rw [trn_rot hm hf hw.1 i hi]
 exact fix_fit hm hf (rot_ok hw i) (rot_ne hne i)
theorem trn_len {m : MapM} (hm : OkM m) (hf : freeM m) {w : List Int} (hw : OkW m w) (hne : w ≠ []) {i : Nat} (hi : i ≤ w.length) : (digs (trnZ m w (fixZ m w) i).num.natAbs).length ≤ 300 ∧ (digs (trnZ m w (fixZ m w) i).den.natAbs).length ≤ 300 :=
 ⟨fit_len (trn_fit hm hf hw hne hi).1, fit_len (trn_fit hm hf hw hne hi).2⟩
theorem trn_ok {m : MapM} (hm : OkM m) (hf : freeM m) {w : List Int} (hw : IsW m w) (hne : w ≠ []) {i : Nat} (hi : i ≤ w.length) : RedF (trnZ m w (fixZ m w) i) ∧ CopD m (trnZ m w (fixZ m w) i) := by
 rw [trn_rot hm hf hw i hi]
 obtain ⟨h1, _, h3⟩ := fix_ok hm hf (rot_is hw i) (rot_ne hne i)
 exact ⟨h1, h3⟩
theorem restF_y {m : MapM} {f : FrZ} {r : Nat} (h : ((r : Nat) : Int) < m.mod) (h0 : (f.num - ((r : Nat) : Int) * f.den) % m.mod = 0) (hn : ∀ k : Nat, k < r → (f.num - ((k : Nat) : Int) * f.den) % m.mod ≠ 0) : restF m f = ((r : Nat) : Int) := by
 have e : ((List.range m.mod.toNat).find? fun (r : Nat) => decide ((f.num - (r : Int) * f.den) % m.mod = 0)) = some r := by
  rw [List.find?_range_eq_some]
  refine ⟨by simpa using h0, by simp; omega, fun j hj => by simpa using hn j hj⟩
 unfold restF
 rw [e]
theorem restF_n {m : MapM} {f : FrZ} (hn : ∀ k : Nat, ((k : Nat) : Int) < m.mod → (f.num - ((k : Nat) : Int) * f.den) % m.mod ≠ 0) : restF m f = -1 := by
 have e : ((List.range m.mod.toNat).find? fun (r : Nat) => decide ((f.num - (r : Int) * f.den) % m.mod = 0)) = none := by
  rw [List.find?_eq_none]
  intro k hk
  simp at hk
  simpa using hn k (by omega)
 unfold restF
 rw [e]
theorem restF_lt {m : MapM} (hm : OkM m) (f : FrZ) : -1 ≤ restF m f ∧ restF m f < m.mod := by
 have h1 := hm.1
 unfold restF
 split
 ·rename_i u hu
  have h2 := List.mem_of_find?_eq_some hu
  simp at h2
  omega
 ·omega
def tzL (m : MapM) (w : List Int) (i : Nat) : List FrZ := (List.range i).map fun j => trnZ m w (fixZ m w) j
end Go.Mth

namespace Go.Proofs.YtdmkejloknejdaaGreatDoor
open Go Go.Ab Go.Mth
theorem f86_ : tyZero cx.P 92 = some [Go.Value.bool false, Go.Value.slice none 0 0, Go.Value.bool false, Go.Value.slice none 0 0] := by kernel_rfl
theorem f87_ : callable cx.P 118 = true := by kernel_rfl
theorem f88_ : tyPlaces cx.P 92 = some (fun i => (#[(0, 2), (2, 2)] : Array (Nat × Nat))[i]?) := by kernel_rfl
theorem f89_ : tySize cx.P 92 = some 4 := by kernel_rfl
theorem f90_ : tyAgg cx.P 92 = some 4 := by kernel_rfl
theorem f91_ : tyZero cx.P 45 = some [(Go.Value.string {data := #[]}), (Go.Value.string {data := #[]})] := by kernel_rfl
theorem f92_ : tyField cx.P 92 0 = some (0, 90) := by kernel_rfl
theorem f93_ : callable cx.P 103 = true := by kernel_rfl
theorem f94_ : tyField cx.P 92 1 = some (2, 90) := by kernel_rfl
theorem f95_ : tyPlaces cx.P 45 = some (fun i => (#[(0, 1), (1, 1)] : Array (Nat × Nat))[i]?) := by kernel_rfl
theorem f96_ : tySize cx.P 45 = some 2 := by kernel_rfl
theorem f97_ : tyAgg cx.P 45 = some 2 := by kernel_rfl
theorem f98_ : callable cx.P 91 = true := by kernel_rfl
theorem f99_ : callable cx.P 92 = true := by kernel_rfl
theorem f100_ : callable cx.P 45 = true := by kernel_rfl
theorem f101_ : callable cx.P 46 = true := by kernel_rfl
theorem f102_ : callable cx.P 102 = true := by kernel_rfl
theorem f103_ : callable cx.P 65 = true := by kernel_rfl
theorem f104_ : callable cx.P 49 = true := by kernel_rfl
theorem f105_ : callable cx.P 66 = true := by kernel_rfl
theorem f106_ : tyElem cx.P 63 = some (45, 2, 32) := by kernel_rfl
theorem f107_ : callable cx.P 73 = true := by kernel_rfl
theorem c_yRed (n d : Int) (hd : d ≠ 0) (h1 : (digs n.natAbs).length ≤ 1000000) (h2 : (digs d.natAbs).length ≤ 1000000) : ECalls cx 92 [intW n, intW d] (frW (redZ n d)) := by
 refine ecalls_of_awp Tryz.func92 (c := _) rfl (Nat.le_of_ble_eq_true rfl) ?_
 show awp cx 35 _ (postF cx Tryz.f92 _) ⟨[(0, intW n), (1, intW d)], []⟩
 have g1 := gcd_pos (n := n) hd
 have g2 := gcd_pos (n := -n) (d := -d) (by omega)
 have g3 := gcd_len (n := n) hd
 have g4 := gcd_len (n := -n) (d := -d) (by omega)
 have g5 : (digs ((-n).natAbs)).length ≤ 1000000 := by rw [Int.natAbs_neg]; exact h1
 have g6 : (digs ((-d).natAbs)).length ≤ 1000000 := by rw [Int.natAbs_neg]; exact h2
 refine awp_seq fun K0 hK0 => awp_region rfl ?_
 refine o_box 2 [bp (n < 0), .sl 1 (ns .u32 (digs n.natAbs))] gn rfl rfl ?_
 refine o_box 3 [bp (d < 0), .sl 1 (ns .u32 (digs d.natAbs))] gn rfl rfl ?_
 refine o_alloc 4 [Fv, Zv, Fv, Zv] gn f86_ rfl rfl rfl ?_
 refine aops_end (hK0 _ (awp_seq fun K1 hK1 => awp_seq fun K2 hK2 => awp_region rfl ?_))
 refine o_loadA [bp (d < 0), .sl 1 (ns .u32 (digs d.natAbs))] gn f20_ rfl rfl rfl rfl rfl ?_
 refine o_ct (c_wSign d) gn f23_ rfl ?_
 refine o_lss (a := (sgn d)) (c := ((0 : Nat) : Int)) gn rfl rfl ?_
 refine aops_end (hK2 _ ?_)
 refine awp_condQ (q := (sgn d) < ((0 : Nat) : Int)) rfl (fun h1 => ?_) (fun h1 => ?_)
 ·refine awp_regionD rfl ?_
  refine o_loadA [bp (n < 0), .sl 1 (ns .u32 (digs n.natAbs))] gn f20_ rfl rfl rfl rfl rfl ?_
  refine o_ct (c_wMinus n) gn f39_ rfl ?_
  refine o_loadA [bp (d < 0), .sl 1 (ns .u32 (digs d.natAbs))] gn f20_ rfl rfl rfl rfl rfl ?_
  refine o_ct (c_wMinus d) gn f39_ rfl ?_
  refine o_store [(4, .var 92 [Fv, Zv, Fv, Zv]), (3, oZ 90 .u32 d), (2, oZ 90 .u32 (-n))] gn f19_ rfl rfl rfl rfl rfl rfl ?_
  refine o_store [(4, .var 92 [Fv, Zv, Fv, Zv]), (3, oZ 90 .u32 (-d)), (2, oZ 90 .u32 (-n))] gn f19_ rfl rfl rfl rfl rfl rfl ?_
  refine aops_end ⟨by kernel_rfl, ?_⟩
  refine hK1 _ (awp_seq fun K3 hK3 => awp_region rfl ?_)
  refine o_loadA [bp ((-n) < 0), .sl 1 (ns .u32 (digs (-n).natAbs))] gn f20_ rfl rfl rfl rfl rfl ?_
  refine o_loadA [bp ((-d) < 0), .sl 1 (ns .u32 (digs (-d).natAbs))] gn f20_ rfl rfl rfl rfl rfl ?_
  refine o_ct (c_wGcd (-n) (-d) (by omega) (by omega)) gn f87_ rfl ?_
  refine o_alloc 5 [Fv, Zv] gn f15_ rfl rfl rfl ?_
  refine o_store [(5, (oZ 90 .u32 ((Int.gcd (-n) (-d) : Nat) : Int))), (4, .var 92 [Fv, Zv, Fv, Zv]), (3, oZ 90 .u32 (-d)), (2, oZ 90 .u32 (-n))] gn f19_ rfl rfl rfl rfl rfl rfl ?_
  refine aops_end (hK3 _ (awp_seq fun K4 hK4 => awp_region rfl ?_))
  refine o_loadA [bp ((-n) < 0), .sl 1 (ns .u32 (digs (-n).natAbs))] gn f20_ rfl rfl rfl rfl rfl ?_
  refine o_loadA [(bp (((Int.gcd (-n) (-d) : Nat) : Int) < 0)), (.sl 1 (ns .u32 (digs ((Int.gcd (-n) (-d) : Nat) : Int).natAbs)))] gn f20_ rfl rfl rfl rfl rfl ?_
  refine o_ct (c_wDivide (-n) ((Int.gcd (-n) (-d) : Nat) : Int) (by omega) (by omega) (by omega)) gn f77_ rfl ?_
  refine o_mv (.tup [(intW ((-n) / ((Int.gcd (-n) (-d) : Nat) : Int))), (intW ((-n) % ((Int.gcd (-n) (-d) : Nat) : Int)))]) rfl (o_extract (intW ((-n) / ((Int.gcd (-n) (-d) : Nat) : Int))) gn rfl rfl (o_extract (intW ((-n) % ((Int.gcd (-n) (-d) : Nat) : Int))) gn rfl rfl ?_))
  refine o_alloc 6 [Fv, Zv] gn f15_ rfl rfl rfl ?_
  refine o_alloc 7 [Fv, Zv] gn f15_ rfl rfl rfl ?_
  refine o_store [(7, .var 90 [Fv, Zv]), (6, (oZ 90 .u32 ((-n) / ((Int.gcd (-n) (-d) : Nat) : Int)))), (5, (oZ 90 .u32 ((Int.gcd (-n) (-d) : Nat) : Int))), (4, .var 92 [Fv, Zv, Fv, Zv]), (3, oZ 90 .u32 (-d)), (2, oZ 90 .u32 (-n))] gn f19_ rfl rfl rfl rfl rfl rfl ?_
  refine o_store [(7, (oZ 90 .u32 ((-n) % ((Int.gcd (-n) (-d) : Nat) : Int)))), (6, (oZ 90 .u32 ((-n) / ((Int.gcd (-n) (-d) : Nat) : Int)))), (5, (oZ 90 .u32 ((Int.gcd (-n) (-d) : Nat) : Int))), (4, .var 92 [Fv, Zv, Fv, Zv]), (3, oZ 90 .u32 (-d)), (2, oZ 90 .u32 (-n))] gn f19_ rfl rfl rfl rfl rfl rfl ?_
  refine aops_end (hK4 _ (awp_seq fun K5 hK5 => awp_region rfl ?_))
  refine o_loadA [bp ((-d) < 0), .sl 1 (ns .u32 (digs (-d).natAbs))] gn f20_ rfl rfl rfl rfl rfl ?_
  refine o_loadA [(bp (((Int.gcd (-n) (-d) : Nat) : Int) < 0)), (.sl 1 (ns .u32 (digs ((Int.gcd (-n) (-d) : Nat) : Int).natAbs)))] gn f20_ rfl rfl rfl rfl rfl ?_
  refine o_ct (c_wDivide (-d) ((Int.gcd (-n) (-d) : Nat) : Int) (by omega) (by omega) (by omega)) gn f77_ rfl ?_
  refine o_mv (.tup [(intW ((-d) / ((Int.gcd (-n) (-d) : Nat) : Int))), (intW ((-d) % ((Int.gcd (-n) (-d) : Nat) : Int)))]) rfl (o_extract (intW ((-d) / ((Int.gcd (-n) (-d) : Nat) : Int))) gn rfl rfl (o_extract (intW ((-d) % ((Int.gcd (-n) (-d) : Nat) : Int))) gn rfl rfl ?_))
  refine o_alloc 8 [Fv, Zv] gn f15_ rfl rfl rfl ?_
  refine o_alloc 9 [Fv, Zv] gn f15_ rfl rfl rfl ?_
  refine o_store [(9, .var 90 [Fv, Zv]), (8, (oZ 90 .u32 ((-d) / ((Int.gcd (-n) (-d) : Nat) : Int)))), (7, (oZ 90 .u32 ((-n) % ((Int.gcd (-n) (-d) : Nat) : Int)))), (6, (oZ 90 .u32 ((-n) / ((Int.gcd (-n) (-d) : Nat) : Int)))), (5, (oZ 90 .u32 ((Int.gcd (-n) (-d) : Nat) : Int))), (4, .var 92 [Fv, Zv, Fv, Zv]), (3, oZ 90 .u32 (-d)), (2, oZ 90 .u32 (-n))] gn f19_ rfl rfl rfl rfl rfl rfl ?_
  refine o_store [(9, (oZ 90 .u32 ((-d) % ((Int.gcd (-n) (-d) : Nat) : Int)))), (8, (oZ 90 .u32 ((-d) / ((Int.gcd (-n) (-d) : Nat) : Int)))), (7, (oZ 90 .u32 ((-n) % ((Int.gcd (-n) (-d) : Nat) : Int)))), (6, (oZ 90 .u32 ((-n) / ((Int.gcd (-n) (-d) : Nat) : Int)))), (5, (oZ 90 .u32 ((Int.gcd (-n) (-d) : Nat) : Int))), (4, .var 92 [Fv, Zv, Fv, Zv]), (3, oZ 90 .u32 (-d)), (2, oZ 90 .u32 (-n))] gn f19_ rfl rfl rfl rfl rfl rfl ?_
  refine aops_end (hK5 _ (awp_seq fun K6 hK6 => awp_region rfl ?_))
  refine o_loadA [(bp (((-n) / ((Int.gcd (-n) (-d) : Nat) : Int)) < 0)), (.sl 1 (ns .u32 (digs ((-n) / ((Int.gcd (-n) (-d) : Nat) : Int)).natAbs)))] gn f20_ rfl rfl rfl rfl rfl ?_
  refine o_loadA [(bp (((-d) / ((Int.gcd (-n) (-d) : Nat) : Int)) < 0)), (.sl 1 (ns .u32 (digs ((-d) / ((Int.gcd (-n) (-d) : Nat) : Int)).natAbs)))] gn f20_ rfl rfl rfl rfl rfl ?_
  refine o_build [(bp (((-n) / ((Int.gcd (-n) (-d) : Nat) : Int)) < 0)), (.sl 1 (ns .u32 (digs ((-n) / ((Int.gcd (-n) (-d) : Nat) : Int)).natAbs))), (bp (((-d) / ((Int.gcd (-n) (-d) : Nat) : Int)) < 0)), (.sl 1 (ns .u32 (digs ((-d) / ((Int.gcd (-n) (-d) : Nat) : Int)).natAbs)))] [(0, [(bp (((-n) / ((Int.gcd (-n) (-d) : Nat) : Int)) < 0)), (.sl 1 (ns .u32 (digs ((-n) / ((Int.gcd (-n) (-d) : Nat) : Int)).natAbs)))]), (1, [(bp (((-d) / ((Int.gcd (-n) (-d) : Nat) : Int)) < 0)), (.sl 1 (ns .u32 (digs ((-d) / ((Int.gcd (-n) (-d) : Nat) : Int)).natAbs)))])] gn f88_ f86_ rfl rfl rfl ?_
  refine o_store [(9, (oZ 90 .u32 ((-d) % ((Int.gcd (-n) (-d) : Nat) : Int)))), (8, (oZ 90 .u32 ((-d) / ((Int.gcd (-n) (-d) : Nat) : Int)))), (7, (oZ 90 .u32 ((-n) % ((Int.gcd (-n) (-d) : Nat) : Int)))), (6, (oZ 90 .u32 ((-n) / ((Int.gcd (-n) (-d) : Nat) : Int)))), (5, (oZ 90 .u32 ((Int.gcd (-n) (-d) : Nat) : Int))), (4, (.var 92 [(bp (((-n) / ((Int.gcd (-n) (-d) : Nat) : Int)) < 0)), (.sl 1 (ns .u32 (digs ((-n) / ((Int.gcd (-n) (-d) : Nat) : Int)).natAbs))), (bp (((-d) / ((Int.gcd (-n) (-d) : Nat) : Int)) < 0)), (.sl 1 (ns .u32 (digs ((-d) / ((Int.gcd (-n) (-d) : Nat) : Int)).natAbs)))])), (3, oZ 90 .u32 (-d)), (2, oZ 90 .u32 (-n))] gn f89_ rfl rfl rfl rfl rfl rfl ?_
  refine aops_end (hK6 _ ?_)
  refine awp_ret ?_
  refine post_ret ⟨[(.agg [(bp (((-n) / ((Int.gcd (-n) (-d) : Nat) : Int)) < 0)), (.sl 1 (ns .u32 (digs ((-n) / ((Int.gcd (-n) (-d) : Nat) : Int)).natAbs))), (bp (((-d) / ((Int.gcd (-n) (-d) : Nat) : Int)) < 0)), (.sl 1 (ns .u32 (digs ((-d) / ((Int.gcd (-n) (-d) : Nat) : Int)).natAbs)))])], ⟨⟨4, (.var 92 [(bp (((-n) / ((Int.gcd (-n) (-d) : Nat) : Int)) < 0)), (.sl 1 (ns .u32 (digs ((-n) / ((Int.gcd (-n) (-d) : Nat) : Int)).natAbs))), (bp (((-d) / ((Int.gcd (-n) (-d) : Nat) : Int)) < 0)), (.sl 1 (ns .u32 (digs ((-d) / ((Int.gcd (-n) (-d) : Nat) : Int)).natAbs)))]), rfl, rfl, rfl, Or.inl ⟨f90_, AV.le_refl _⟩⟩, trivial⟩, rfl, ?_⟩
  exact (congrArg frW (red_n (sgn_lt0.1 (by assumption))))
 ·refine awp_skip (hK1 _ (awp_seq fun K7 hK7 => awp_region rfl ?_))
  refine o_loadA [bp (n < 0), .sl 1 (ns .u32 (digs n.natAbs))] gn f20_ rfl rfl rfl rfl rfl ?_
  refine o_loadA [bp (d < 0), .sl 1 (ns .u32 (digs d.natAbs))] gn f20_ rfl rfl rfl rfl rfl ?_
  refine o_ct (c_wGcd n d (by omega) (by omega)) gn f87_ rfl ?_
  refine o_alloc 5 [Fv, Zv] gn f15_ rfl rfl rfl ?_
  refine o_store [(5, (oZ 90 .u32 ((Int.gcd n d : Nat) : Int))), (4, .var 92 [Fv, Zv, Fv, Zv]), (3, oZ 90 .u32 d), (2, oZ 90 .u32 n)] gn f19_ rfl rfl rfl rfl rfl rfl ?_
  refine aops_end (hK7 _ (awp_seq fun K8 hK8 => awp_region rfl ?_))
  refine o_loadA [bp (n < 0), .sl 1 (ns .u32 (digs n.natAbs))] gn f20_ rfl rfl rfl rfl rfl ?_
  refine o_loadA [(bp (((Int.gcd n d : Nat) : Int) < 0)), (.sl 1 (ns .u32 (digs ((Int.gcd n d : Nat) : Int).natAbs)))] gn f20_ rfl rfl rfl rfl rfl ?_
  refine o_ct (c_wDivide n ((Int.gcd n d : Nat) : Int) (by omega) (by omega) (by omega)) gn f77_ rfl ?_
  refine o_mv (.tup [(intW (n / ((Int.gcd n d : Nat) : Int))), (intW (n % ((Int.gcd n d : Nat) : Int)))]) rfl (o_extract (intW (n / ((Int.gcd n d : Nat) : Int))) gn rfl rfl (o_extract (intW (n % ((Int.gcd n d : Nat) : Int))) gn rfl rfl ?_))
  refine o_alloc 6 [Fv, Zv] gn f15_ rfl rfl rfl ?_
  refine o_alloc 7 [Fv, Zv] gn f15_ rfl rfl rfl ?_
  refine o_store [(7, .var 90 [Fv, Zv]), (6, (oZ 90 .u32 (n / ((Int.gcd n d : Nat) : Int)))), (5, (oZ 90 .u32 ((Int.gcd n d : Nat) : Int))), (4, .var 92 [Fv, Zv, Fv, Zv]), (3, oZ 90 .u32 d), (2, oZ 90 .u32 n)] gn f19_ rfl rfl rfl rfl rfl rfl ?_
  refine o_store [(7, (oZ 90 .u32 (n % ((Int.gcd n d : Nat) : Int)))), (6, (oZ 90 .u32 (n / ((Int.gcd n d : Nat) : Int)))), (5, (oZ 90 .u32 ((Int.gcd n d : Nat) : Int))), (4, .var 92 [Fv, Zv, Fv, Zv]), (3, oZ 90 .u32 d), (2, oZ 90 .u32 n)] gn f19_ rfl rfl rfl rfl rfl rfl ?_
  refine aops_end (hK8 _ (awp_seq fun K9 hK9 => awp_region rfl ?_))
  refine o_loadA [bp (d < 0), .sl 1 (ns .u32 (digs d.natAbs))] gn f20_ rfl rfl rfl rfl rfl ?_
  refine o_loadA [(bp (((Int.gcd n d : Nat) : Int) < 0)), (.sl 1 (ns .u32 (digs ((Int.gcd n d : Nat) : Int).natAbs)))] gn f20_ rfl rfl rfl rfl rfl ?_
  refine o_ct (c_wDivide d ((Int.gcd n d : Nat) : Int) (by omega) (by omega) (by omega)) gn f77_ rfl ?_
  refine o_mv (.tup [(intW (d / ((Int.gcd n d : Nat) : Int))), (intW (d % ((Int.gcd n d : Nat) : Int)))]) rfl (o_extract (intW (d / ((Int.gcd n d : Nat) : Int))) gn rfl rfl (o_extract (intW (d % ((Int.gcd n d : Nat) : Int))) gn rfl rfl ?_))
  refine o_alloc 8 [Fv, Zv] gn f15_ rfl rfl rfl ?_
  refine o_alloc 9 [Fv, Zv] gn f15_ rfl rfl rfl ?_
  refine o_store [(9, .var 90 [Fv, Zv]), (8, (oZ 90 .u32 (d / ((Int.gcd n d : Nat) : Int)))), (7, (oZ 90 .u32 (n % ((Int.gcd n d : Nat) : Int)))), (6, (oZ 90 .u32 (n / ((Int.gcd n d : Nat) : Int)))), (5, (oZ 90 .u32 ((Int.gcd n d : Nat) : Int))), (4, .var 92 [Fv, Zv, Fv, Zv]), (3, oZ 90 .u32 d), (2, oZ 90 .u32 n)] gn f19_ rfl rfl rfl rfl rfl rfl ?_
  refine o_store [(9, (oZ 90 .u32 (d % ((Int.gcd n d : Nat) : Int)))), (8, (oZ 90 .u32 (d / ((Int.gcd n d : Nat) : Int)))), (7, (oZ 90 .u32 (n % ((Int.gcd n d : Nat) : Int)))), (6, (oZ 90 .u32 (n / ((Int.gcd n d : Nat) : Int)))), (5, (oZ 90 .u32 ((Int.gcd n d : Nat) : Int))), (4, .var 92 [Fv, Zv, Fv, Zv]), (3, oZ 90 .u32 d), (2, oZ 90 .u32 n)] gn f19_ rfl rfl rfl rfl rfl rfl ?_
  refine aops_end (hK9 _ (awp_seq fun K10 hK10 => awp_region rfl ?_))
  refine o_loadA [(bp ((n / ((Int.gcd n d : Nat) : Int)) < 0)), (.sl 1 (ns .u32 (digs (n / ((Int.gcd n d : Nat) : Int)).natAbs)))] gn f20_ rfl rfl rfl rfl rfl ?_
  refine o_loadA [(bp ((d / ((Int.gcd n d : Nat) : Int)) < 0)), (.sl 1 (ns .u32 (digs (d / ((Int.gcd n d : Nat) : Int)).natAbs)))] gn f20_ rfl rfl rfl rfl rfl ?_
  refine o_build [(bp ((n / ((Int.gcd n d : Nat) : Int)) < 0)), (.sl 1 (ns .u32 (digs (n / ((Int.gcd n d : Nat) : Int)).natAbs))), (bp ((d / ((Int.gcd n d : Nat) : Int)) < 0)), (.sl 1 (ns .u32 (digs (d / ((Int.gcd n d : Nat) : Int)).natAbs)))] [(0, [(bp ((n / ((Int.gcd n d : Nat) : Int)) < 0)), (.sl 1 (ns .u32 (digs (n / ((Int.gcd n d : Nat) : Int)).natAbs)))]), (1, [(bp ((d / ((Int.gcd n d : Nat) : Int)) < 0)), (.sl 1 (ns .u32 (digs (d / ((Int.gcd n d : Nat) : Int)).natAbs)))])] gn f88_ f86_ rfl rfl rfl ?_
  refine o_store [(9, (oZ 90 .u32 (d % ((Int.gcd n d : Nat) : Int)))), (8, (oZ 90 .u32 (d / ((Int.gcd n d : Nat) : Int)))), (7, (oZ 90 .u32 (n % ((Int.gcd n d : Nat) : Int)))), (6, (oZ 90 .u32 (n / ((Int.gcd n d : Nat) : Int)))), (5, (oZ 90 .u32 ((Int.gcd n d : Nat) : Int))), (4, (.var 92 [(bp ((n / ((Int.gcd n d : Nat) : Int)) < 0)), (.sl 1 (ns .u32 (digs (n / ((Int.gcd n d : Nat) : Int)).natAbs))), (bp ((d / ((Int.gcd n d : Nat) : Int)) < 0)), (.sl 1 (ns .u32 (digs (d / ((Int.gcd n d : Nat) : Int)).natAbs)))])), (3, oZ 90 .u32 d), (2, oZ 90 .u32 n)] gn f89_ rfl rfl rfl rfl rfl rfl ?_
  refine aops_end (hK10 _ ?_)
  refine awp_ret ?_
  refine post_ret ⟨[(.agg [(bp ((n / ((Int.gcd n d : Nat) : Int)) < 0)), (.sl 1 (ns .u32 (digs (n / ((Int.gcd n d : Nat) : Int)).natAbs))), (bp ((d / ((Int.gcd n d : Nat) : Int)) < 0)), (.sl 1 (ns .u32 (digs (d / ((Int.gcd n d : Nat) : Int)).natAbs)))])], ⟨⟨4, (.var 92 [(bp ((n / ((Int.gcd n d : Nat) : Int)) < 0)), (.sl 1 (ns .u32 (digs (n / ((Int.gcd n d : Nat) : Int)).natAbs))), (bp ((d / ((Int.gcd n d : Nat) : Int)) < 0)), (.sl 1 (ns .u32 (digs (d / ((Int.gcd n d : Nat) : Int)).natAbs)))]), rfl, rfl, rfl, Or.inl ⟨f90_, AV.le_refl _⟩⟩, trivial⟩, rfl, ?_⟩
  exact (congrArg frW (red_p (fun e => absurd (sgn_lt0.2 e) (by assumption))))

theorem c_yTold (f : FrZ) (h1 : Fit f.num) (h2 : Fit f.den) : ECalls cx 66 [frW f] (.tup [.agg (cF (frT f)), .lit (.bool true)]) := by
 refine ecalls_of_awp Tryz.func66 (c := _) rfl (Nat.le_of_ble_eq_true rfl) ?_
 show awp cx 29 _ (postF cx Tryz.f66 _) ⟨[(0, frW f)], []⟩
 have l1 := fit_len h1
 have l2 := fit_len h2
 refine awp_seq fun K0 hK0 => awp_region rfl ?_
 refine o_box 2 [bp (f.num < 0), .sl 1 (ns .u32 (digs (f.num).natAbs)), bp (f.den < 0), .sl 1 (ns .u32 (digs (f.den).natAbs))] gn rfl rfl ?_
 refine o_alloc 3 [Sv Ev, Sv Ev] gn f91_ rfl rfl rfl ?_
 refine o_as Fv rfl (aops_end (hK0 _ (awp_seq fun K1 hK1 => awp_region rfl ?_)))
 refine o_fieldRef 0 gn f92_ rfl rfl ?_
 refine o_loadA [bp (f.num < 0), .sl 1 (ns .u32 (digs (f.num).natAbs))] gn f20_ rfl rfl rfl rfl rfl ?_
 refine o_ct (c_nTold (f.num) (by first | omega | assumption | (simp only [Int.natAbs_neg]; omega))) gn f93_ rfl ?_
 refine o_mv (.tup [Sv (toldS (f.num)), Nv (toldE (f.num))]) rfl (o_extract (Sv (toldS (f.num))) gn rfl rfl ?_)
 refine n_as (v' := (Sv (txt f.num))) (by exact str_as (if_pos h1)) ?_
 refine o_extract (Nv (toldE (f.num))) gn rfl rfl ?_
 refine n_as (v' := (Nv 0)) (by exact congrArg (nm _) (if_pos h1)) ?_
 refine o_as (Sv (txt f.num)) rfl (o_as (Nv 0) rfl (aops_end (hK1 _ (awp_seq fun K2 hK2 => awp_region rfl ?_))))
 refine o_fieldRef 2 gn f94_ rfl rfl ?_
 refine o_loadA [bp (f.den < 0), .sl 1 (ns .u32 (digs (f.den).natAbs))] gn f20_ rfl rfl rfl rfl rfl ?_
 refine o_ct (c_nTold (f.den) (by first | omega | assumption | (simp only [Int.natAbs_neg]; omega))) gn f93_ rfl ?_
 refine o_mv (.tup [Sv (toldS (f.den)), Nv (toldE (f.den))]) rfl (o_extract (Sv (toldS (f.den))) gn rfl rfl ?_)
 refine n_as (v' := (Sv (txt f.den))) (by exact str_as (if_pos h2)) ?_
 refine o_extract (Nv (toldE (f.den))) gn rfl rfl ?_
 refine n_as (v' := (Nv 0)) (by exact congrArg (nm _) (if_pos h2)) ?_
 refine o_as (Sv (txt f.den)) rfl (o_as (Nv 0) rfl (aops_end (hK2 _ (awp_seq fun K3 hK3 => awp_region rfl (o_mv (Sv (txt f.num)) rfl (o_mv (Sv (txt f.den)) rfl ?_))))))
 refine o_build [Sv (txt f.num), Sv (txt f.den)] [(0, [Sv (txt f.num)]), (1, [Sv (txt f.den)])] gn f95_ f91_ rfl rfl rfl ?_
 refine o_mv (Nv 0) rfl ?_
 refine n_eql 0 0 gn rfl rfl ?_
 refine o_mv (bp (0 = 0)) rfl ?_
 refine o_move (Nv 0) (Gd.yes rfl rfl (decide_eq_true (by decide))) rfl ?_
 refine n_eql 0 0 (Gd.yes rfl rfl (decide_eq_true (by decide))) rfl rfl ?_
 refine o_pickT (bp (0 = 0)) gn rfl (decide_eq_true (by decide)) rfl ?_
 refine o_store [(3, .var 45 [Sv (txt f.num), Sv (txt f.den)]), (2, .var 92 [bp (f.num < 0), .sl 1 (ns .u32 (digs (f.num).natAbs)), bp (f.den < 0), .sl 1 (ns .u32 (digs (f.den).natAbs))])] gn f96_ rfl rfl rfl rfl rfl rfl ?_
 refine o_as (bp (0 = 0)) rfl (aops_end (hK3 _ ?_))
 refine awp_ret ?_
 refine post_ret ⟨[.agg [Sv (txt f.num), Sv (txt f.den)], bp (0 = 0)], ⟨⟨3, .var 45 [Sv (txt f.num), Sv (txt f.den)], rfl, rfl, rfl, Or.inl ⟨f97_, AV.le_refl _⟩⟩, AV.le_refl _, trivial⟩, rfl, ?_⟩
 rfl

theorem c_yFix (m : MapM) (w : List Int) (hM : OkM m) (hf : freeM m) (hW : OkW m w) (hne : w ≠ []) : ECalls cx 49 [mapV m, Lv w] (frW (fixZ m w)) := by
 refine ecalls_of_awp Tryz.func49 (c := _) rfl (Nat.le_of_ble_eq_true rfl) ?_
 show awp cx 17 _ (postF cx Tryz.f49 _) ⟨[(0, mapV m), (1, Lv w)], []⟩
 obtain ⟨l1, l2, l3⟩ := line_len hM w hW.1
 have l4 := hW.2
 have l5 := len_subZ (lineZ m w).div (lineZ m w).mul
 have l6 := line_ne hM hf hW.1 hne
 refine awp_seq fun K0 hK0 => awp_region rfl ?_
 refine o_box 2 [Iv m.mod, Lv m.mul, Lv m.add] gn rfl rfl ?_
 refine o_alloc 3 [Fv, Zv, Fv, Zv] gn f86_ rfl rfl rfl ?_
 refine aops_end (hK0 _ (awp_seq fun K1 hK1 => awp_region rfl ?_))
 refine o_loadA [Iv m.mod, Lv m.mul, Lv m.add] gn f63_ rfl rfl rfl rfl rfl ?_
 refine o_mv (Lv w) rfl ?_
 refine o_ct (c_oOf m w (by first | assumption | exact okM_iff.1 (by assumption)) (by first | assumption | exact (by assumption : OkW _ _).1 | exact isW_take (by assumption : OkW _ _).1 _) (by first | omega | exact (by assumption : OkW _ _).2)) gn f98_ rfl ?_
 refine o_alloc 4 [Fv, Zv, Fv, Zv, Fv, Zv] gn f78_ rfl rfl rfl ?_
 refine o_store [(4, .var 140 [Bv ((lineZ m w).mul), Dv ((lineZ m w).mul), Bv ((lineZ m w).add), Dv ((lineZ m w).add), Bv ((lineZ m w).div), Dv ((lineZ m w).div)]), (3, .var 92 [Fv, Zv, Fv, Zv]), (2, oM 24 m)] gn f80_ rfl rfl rfl rfl rfl rfl ?_
 refine aops_end (hK1 _ (awp_seq fun K2 hK2 => awp_regionD rfl ?_))
 refine o_fieldRef 2 gn f83_ rfl rfl ?_
 refine o_loadA [Bv ((lineZ m w).add), Dv ((lineZ m w).add)] gn f20_ rfl rfl rfl rfl rfl ?_
 refine o_fieldRef 4 gn f84_ rfl rfl ?_
 refine o_loadA [Bv ((lineZ m w).div), Dv ((lineZ m w).div)] gn f20_ rfl rfl rfl rfl rfl ?_
 refine o_fieldRef 0 gn f82_ rfl rfl ?_
 refine o_loadA [Bv ((lineZ m w).mul), Dv ((lineZ m w).mul)] gn f20_ rfl rfl rfl rfl rfl ?_
 refine o_ct (c_wSub ((lineZ m w).div) ((lineZ m w).mul) (by first | omega | assumption | (simp only [Int.natAbs_neg]; omega)) (by first | omega | assumption | (simp only [Int.natAbs_neg]; omega))) gn f47_ rfl ?_
 refine o_ct (c_yRed ((lineZ m w).add) (((lineZ m w).div) - ((lineZ m w).mul)) (by first | omega | assumption) (by first | omega | assumption) (by first | omega | assumption)) gn f99_ rfl ?_
 refine o_store [(4, .var 140 [Bv ((lineZ m w).mul), Dv ((lineZ m w).mul), Bv ((lineZ m w).add), Dv ((lineZ m w).add), Bv ((lineZ m w).div), Dv ((lineZ m w).div)]), (3, .var 92 [bp ((redZ ((lineZ m w).add) (((lineZ m w).div) - ((lineZ m w).mul))).num < 0), .sl 1 (ns .u32 (digs ((redZ ((lineZ m w).add) (((lineZ m w).div) - ((lineZ m w).mul))).num).natAbs)), bp ((redZ ((lineZ m w).add) (((lineZ m w).div) - ((lineZ m w).mul))).den < 0), .sl 1 (ns .u32 (digs ((redZ ((lineZ m w).add) (((lineZ m w).div) - ((lineZ m w).mul))).den).natAbs))]), (2, oM 24 m)] gn f89_ rfl rfl rfl rfl rfl rfl ?_
 refine aops_end ⟨by kernel_rfl, ?_⟩
 refine hK2 _ ?_
 refine awp_ret ?_
 refine post_ret ⟨[.agg [bp ((redZ ((lineZ m w).add) (((lineZ m w).div) - ((lineZ m w).mul))).num < 0), .sl 1 (ns .u32 (digs ((redZ ((lineZ m w).add) (((lineZ m w).div) - ((lineZ m w).mul))).num).natAbs)), bp ((redZ ((lineZ m w).add) (((lineZ m w).div) - ((lineZ m w).mul))).den < 0), .sl 1 (ns .u32 (digs ((redZ ((lineZ m w).add) (((lineZ m w).div) - ((lineZ m w).mul))).den).natAbs))]], ⟨⟨3, .var 92 [bp ((redZ ((lineZ m w).add) (((lineZ m w).div) - ((lineZ m w).mul))).num < 0), .sl 1 (ns .u32 (digs ((redZ ((lineZ m w).add) (((lineZ m w).div) - ((lineZ m w).mul))).num).natAbs)), bp ((redZ ((lineZ m w).add) (((lineZ m w).div) - ((lineZ m w).mul))).den < 0), .sl 1 (ns .u32 (digs ((redZ ((lineZ m w).add) (((lineZ m w).div) - ((lineZ m w).mul))).den).natAbs))], rfl, rfl, rfl, Or.inl ⟨f90_, AV.le_refl _⟩⟩, trivial⟩, rfl, ?_⟩
 rfl

theorem c_yCheck (m : MapM) (w : List Int) (hl : w.length ≤ 17592186044416) : ECalls cx 65 [mapV m, Lv w] (Nv (cycE m w)) := by
 refine ecalls_of_awp Tryz.func65 (c := _) rfl (Nat.le_of_ble_eq_true rfl) ?_
 show awp cx 24 _ (postF cx Tryz.f65 _) ⟨[(0, mapV m), (1, Lv w)], []⟩
 refine awp_seq fun K0 hK0 => awp_region rfl ?_
 refine o_box 2 [Iv m.mod, Lv m.mul, Lv m.add] gn rfl rfl ?_
 refine o_as (Nv 0) rfl (aops_end (hK0 _ (awp_seq fun K1 hK1 => ?_)))
 refine awp_block ?_
 refine awp_seq fun K2 hK2 => awp_region rfl ?_
 refine o_loadA [Iv m.mod, Lv m.mul, Lv m.add] gn f63_ rfl rfl rfl rfl rfl ?_
 refine o_ct (c_sValid m) gn f100_ rfl ?_
 refine o_not (b := okM m) gn rfl ?_
 refine o_as (.lit (.bool (!(okM m)))) rfl (aops_end (hK2 _ ?_))
 refine awp_condB (b := !(okM m)) rfl (fun h1 => ?_) (fun h1 => ?_)
 ·have hm' : ¬ okM m = true := by simpa using h1
  refine awp_seq fun K3 hK3 => awp_region rfl (o_as (Nv 1) rfl (aops_end (hK3 _ ?_)))
  refine awp_ret ?_
  refine post_ret ⟨[Nv 1], ⟨AV.le_refl _, trivial⟩, rfl, ?_⟩
  first | exact congrArg (nm _) (cyc_1 hm').symm | exact congrArg (nm _) (cyc_2 hm' (fun e => absurd e.1 (by assumption))).symm | exact congrArg (nm _) (cyc_2 hm' (fun e => absurd e.2.1 (by assumption))).symm | exact congrArg (nm _) (cyc_2 hm' (fun e => e.2.2 (List.eq_nil_of_length_eq_zero (by omega)))).symm | exact congrArg (nm _) (cyc_0 hm' ⟨Decidable.not_not.1 (by assumption), Decidable.not_not.1 (by assumption), fun e => by have q := congrArg List.length e; rw [List.length_nil] at q; omega⟩).symm | exact congrArg (nm _) (cyc_1 hm') | exact congrArg (nm _) (cyc_2 hm' (fun e => absurd e.1 (by assumption))) | exact congrArg (nm _) (cyc_2 hm' (fun e => absurd e.2.1 (by assumption))) | exact congrArg (nm _) (cyc_2 hm' (fun e => e.2.2 (List.eq_nil_of_length_eq_zero (by omega)))) | exact congrArg (nm _) (cyc_0 hm' ⟨Decidable.not_not.1 (by assumption), Decidable.not_not.1 (by assumption), fun e => by have q := congrArg List.length e; rw [List.length_nil] at q; omega⟩)
 ·have hm' : okM m = true := by simpa using h1
  have hM := okM_iff.1 hm'
  refine awp_seq fun K4 hK4 => awp_region rfl ?_
  refine o_loadA [Iv m.mod, Lv m.mul, Lv m.add] gn f63_ rfl rfl rfl rfl rfl ?_
  refine o_ct (c_sFree m (by first | assumption | exact okM_iff.1 (by assumption))) gn f101_ rfl ?_
  refine o_notP (q := freeM m) gn rfl ?_
  refine o_mv (bp (¬ (freeM m))) rfl ?_
  refine o_splitP (q := ¬ (freeM m)) 13 rfl (fun h2 => ?_) (fun h2 => ?_)
  ·refine o_skip rfl rfl (decide_eq_true h2) (o_skip rfl rfl (decide_eq_true h2) (o_skip rfl rfl (decide_eq_true h2) (o_skip rfl rfl (decide_eq_true h2) ?_)))
   refine o_pickT Tv gn rfl (decide_eq_true h2) rfl ?_
   refine o_mv Tv rfl (o_skip rfl rfl rfl (o_skip rfl rfl rfl (o_skip rfl rfl rfl ?_)))
   refine o_pickT Tv gn rfl rfl rfl ?_
   refine o_as Tv rfl (aops_end (hK4 _ ?_))
   refine awp_condB (b := true) rfl (fun _ => ?_) (fun hh => absurd (hh.symm.trans rfl) (by decide))
   refine awp_seq fun K5 hK5 => awp_region rfl (o_as (Nv 2) rfl (aops_end (hK5 _ ?_)))
   refine awp_ret ?_
   refine post_ret ⟨[Nv 2], ⟨AV.le_refl _, trivial⟩, rfl, ?_⟩
   first | exact congrArg (nm _) (cyc_1 hm').symm | exact congrArg (nm _) (cyc_2 hm' (fun e => absurd e.1 (by assumption))).symm | exact congrArg (nm _) (cyc_2 hm' (fun e => absurd e.2.1 (by assumption))).symm | exact congrArg (nm _) (cyc_2 hm' (fun e => e.2.2 (List.eq_nil_of_length_eq_zero (by omega)))).symm | exact congrArg (nm _) (cyc_0 hm' ⟨Decidable.not_not.1 (by assumption), Decidable.not_not.1 (by assumption), fun e => by have q := congrArg List.length e; rw [List.length_nil] at q; omega⟩).symm | exact congrArg (nm _) (cyc_1 hm') | exact congrArg (nm _) (cyc_2 hm' (fun e => absurd e.1 (by assumption))) | exact congrArg (nm _) (cyc_2 hm' (fun e => absurd e.2.1 (by assumption))) | exact congrArg (nm _) (cyc_2 hm' (fun e => e.2.2 (List.eq_nil_of_length_eq_zero (by omega)))) | exact congrArg (nm _) (cyc_0 hm' ⟨Decidable.not_not.1 (by assumption), Decidable.not_not.1 (by assumption), fun e => by have q := congrArg List.length e; rw [List.length_nil] at q; omega⟩)
  ·refine o_loadA [Iv m.mod, Lv m.mul, Lv m.add] (Gd.yes rfl rfl (decide_eq_false h2)) f63_ rfl rfl rfl rfl rfl ?_
   refine o_move (Lv w) (Gd.yes rfl rfl (decide_eq_false h2)) rfl ?_
   refine o_ct (c_oIs m w) (Gd.yes rfl rfl (decide_eq_false h2)) f102_ rfl ?_
   refine o_notP (q := OkW m w) (Gd.yes rfl rfl (decide_eq_false h2)) rfl ?_
   refine o_pickF (bp (¬ (OkW m w))) gn rfl (decide_eq_false h2) rfl ?_
   refine o_mv (bp (¬ (OkW m w))) rfl ?_
   refine o_splitP (q := ¬ (OkW m w)) 19 rfl (fun h3 => ?_) (fun h3 => ?_)
   ·refine o_skip rfl rfl (decide_eq_true h3) (o_skip rfl rfl (decide_eq_true h3) (o_skip rfl rfl (decide_eq_true h3) ?_))
    refine o_pickT Tv gn rfl (decide_eq_true h3) rfl ?_
    refine o_as Tv rfl (aops_end (hK4 _ ?_))
    refine awp_condB (b := true) rfl (fun _ => ?_) (fun hh => absurd (hh.symm.trans rfl) (by decide))
    refine awp_seq fun K6 hK6 => awp_region rfl (o_as (Nv 2) rfl (aops_end (hK6 _ ?_)))
    refine awp_ret ?_
    refine post_ret ⟨[Nv 2], ⟨AV.le_refl _, trivial⟩, rfl, ?_⟩
    first | exact congrArg (nm _) (cyc_1 hm').symm | exact congrArg (nm _) (cyc_2 hm' (fun e => absurd e.1 (by assumption))).symm | exact congrArg (nm _) (cyc_2 hm' (fun e => absurd e.2.1 (by assumption))).symm | exact congrArg (nm _) (cyc_2 hm' (fun e => e.2.2 (List.eq_nil_of_length_eq_zero (by omega)))).symm | exact congrArg (nm _) (cyc_0 hm' ⟨Decidable.not_not.1 (by assumption), Decidable.not_not.1 (by assumption), fun e => by have q := congrArg List.length e; rw [List.length_nil] at q; omega⟩).symm | exact congrArg (nm _) (cyc_1 hm') | exact congrArg (nm _) (cyc_2 hm' (fun e => absurd e.1 (by assumption))) | exact congrArg (nm _) (cyc_2 hm' (fun e => absurd e.2.1 (by assumption))) | exact congrArg (nm _) (cyc_2 hm' (fun e => e.2.2 (List.eq_nil_of_length_eq_zero (by omega)))) | exact congrArg (nm _) (cyc_0 hm' ⟨Decidable.not_not.1 (by assumption), Decidable.not_not.1 (by assumption), fun e => by have q := congrArg List.length e; rw [List.length_nil] at q; omega⟩)
   ·refine o_move (Lv w) (Gd.yes rfl rfl (decide_eq_false h3)) rfl ?_
    refine i_len w (Gd.yes rfl rfl (decide_eq_false h3)) f2_ rfl ?_
    refine n_eql (w.length) 0 (Gd.yes rfl rfl (decide_eq_false h3)) rfl rfl ?_
    refine o_pickF (bp ((w.length) = 0)) gn rfl (decide_eq_false h3) rfl ?_
    refine o_as (bp ((w.length) = 0)) rfl (aops_end (hK4 _ ?_))
    refine awp_condQ (q := (w.length) = 0) rfl (fun h4 => ?_) (fun h4 => ?_)
    ·refine awp_seq fun K7 hK7 => awp_region rfl (o_as (Nv 2) rfl (aops_end (hK7 _ ?_)))
     refine awp_ret ?_
     refine post_ret ⟨[Nv 2], ⟨AV.le_refl _, trivial⟩, rfl, ?_⟩
     first | exact congrArg (nm _) (cyc_1 hm').symm | exact congrArg (nm _) (cyc_2 hm' (fun e => absurd e.1 (by assumption))).symm | exact congrArg (nm _) (cyc_2 hm' (fun e => absurd e.2.1 (by assumption))).symm | exact congrArg (nm _) (cyc_2 hm' (fun e => e.2.2 (List.eq_nil_of_length_eq_zero (by omega)))).symm | exact congrArg (nm _) (cyc_0 hm' ⟨Decidable.not_not.1 (by assumption), Decidable.not_not.1 (by assumption), fun e => by have q := congrArg List.length e; rw [List.length_nil] at q; omega⟩).symm | exact congrArg (nm _) (cyc_1 hm') | exact congrArg (nm _) (cyc_2 hm' (fun e => absurd e.1 (by assumption))) | exact congrArg (nm _) (cyc_2 hm' (fun e => absurd e.2.1 (by assumption))) | exact congrArg (nm _) (cyc_2 hm' (fun e => e.2.2 (List.eq_nil_of_length_eq_zero (by omega)))) | exact congrArg (nm _) (cyc_0 hm' ⟨Decidable.not_not.1 (by assumption), Decidable.not_not.1 (by assumption), fun e => by have q := congrArg List.length e; rw [List.length_nil] at q; omega⟩)
    ·refine awp_skip (hK1 _ (awp_seq fun K8 hK8 => awp_region rfl (o_as (Nv 0) rfl (aops_end (hK8 _ ?_)))))
     refine awp_ret ?_
     refine post_ret ⟨[Nv 0], ⟨AV.le_refl _, trivial⟩, rfl, ?_⟩
     first | exact congrArg (nm _) (cyc_1 hm').symm | exact congrArg (nm _) (cyc_2 hm' (fun e => absurd e.1 (by assumption))).symm | exact congrArg (nm _) (cyc_2 hm' (fun e => absurd e.2.1 (by assumption))).symm | exact congrArg (nm _) (cyc_2 hm' (fun e => e.2.2 (List.eq_nil_of_length_eq_zero (by omega)))).symm | exact congrArg (nm _) (cyc_0 hm' ⟨Decidable.not_not.1 (by assumption), Decidable.not_not.1 (by assumption), fun e => by have q := congrArg List.length e; rw [List.length_nil] at q; omega⟩).symm | exact congrArg (nm _) (cyc_1 hm') | exact congrArg (nm _) (cyc_2 hm' (fun e => absurd e.1 (by assumption))) | exact congrArg (nm _) (cyc_2 hm' (fun e => absurd e.2.1 (by assumption))) | exact congrArg (nm _) (cyc_2 hm' (fun e => e.2.2 (List.eq_nil_of_length_eq_zero (by omega)))) | exact congrArg (nm _) (cyc_0 hm' ⟨Decidable.not_not.1 (by assumption), Decidable.not_not.1 (by assumption), fun e => by have q := congrArg List.length e; rw [List.length_nil] at q; omega⟩)

theorem c_yNext (m : MapM) (f : FrZ) (r : Int) (hM : OkM m) (h0 : 0 ≤ r) (h1 : r < m.mod) (h2 : f.den ≠ 0) (h3 : (digs f.num.natAbs).length ≤ 1000) (h4 : (digs f.den.natAbs).length ≤ 1000) : ECalls cx 73 [mapV m, frW f, Iv r] (frW (nxtZ m f r)) := by
 refine ecalls_of_awp Tryz.func73 (c := _) rfl (Nat.le_of_ble_eq_true rfl) ?_
 show awp cx 33 _ (postF cx Tryz.f73 _) ⟨[(0, mapV m), (1, frW f), (2, Iv r)], []⟩
 have hM2 := hM
 obtain ⟨o1, o2, o3, o4, o5⟩ := hM2
 have hr := o5 r.toNat (by omega)
 have q1 := small_len (z := (m.mul).getD r.toNat 0) (by omega)
 have q2 := small_len (z := (m.add).getD r.toNat 0) (by omega)
 have q3 := small_len (z := m.mod) (by omega)
 have q4 := len_mulZ f.num ((m.mul).getD r.toNat 0)
 have q5 := len_mulZ f.den ((m.add).getD r.toNat 0)
 have q6 := len_addZ (f.num * (m.mul).getD r.toNat 0) (f.den * (m.add).getD r.toNat 0)
 have q7 := len_mulZ f.den m.mod
 have q8 : f.den * m.mod ≠ 0 := by intro h0; rcases Int.mul_eq_zero.1 h0 with h | h <;> omega
 refine awp_seq fun K0 hK0 => awp_region rfl ?_
 refine o_box 2 [Iv m.mod, Lv m.mul, Lv m.add] gn rfl rfl ?_
 refine o_box 3 [bp (f.num < 0), .sl 1 (ns .u32 (digs (f.num).natAbs)), bp (f.den < 0), .sl 1 (ns .u32 (digs (f.den).natAbs))] gn rfl rfl ?_
 refine o_alloc 4 [Fv, Zv, Fv, Zv] gn f86_ rfl rfl rfl ?_
 refine aops_end (hK0 _ (awp_seq fun K1 hK1 => awp_regionD rfl ?_))
 refine o_fieldRef 0 gn f92_ rfl rfl ?_
 refine o_loadA [bp (f.num < 0), .sl 1 (ns .u32 (digs (f.num).natAbs))] gn f20_ rfl rfl rfl rfl rfl ?_
 refine o_fieldRef 1 gn f60_ rfl rfl ?_
 refine o_loadS (Lv m.mul) gn f1_ rfl rfl rfl ?_
 refine o_mv (Iv r) rfl ?_
 refine n_as (v' := (Nv r.toNat)) (nm_int (by omega)) ?_
 refine i_index m.mul r.toNat gn f10_ rfl rfl (by omega) ?_
 refine i_loadI m.mul r.toNat gn f11_ rfl (by omega) ?_
 refine o_ct (c_wOf ((m.mul).getD r.toNat 0) (by first | decide | omega) (by first | decide | omega)) gn f46_ rfl ?_
 refine o_ct (c_wMul (f.num) ((m.mul).getD r.toNat 0) (by first | omega | assumption | (simp only [Int.natAbs_neg]; omega)) (by first | omega | assumption | (simp only [Int.natAbs_neg]; omega))) gn f67_ rfl ?_
 refine o_fieldRef 2 gn f94_ rfl rfl ?_
 refine o_loadA [bp (f.den < 0), .sl 1 (ns .u32 (digs (f.den).natAbs))] gn f20_ rfl rfl rfl rfl rfl ?_
 refine o_fieldRef 2 gn f61_ rfl rfl ?_
 refine o_loadS (Lv m.add) gn f1_ rfl rfl rfl ?_
 refine o_mv (Iv r) rfl ?_
 refine n_as (v' := (Nv r.toNat)) (nm_int (by omega)) ?_
 refine i_index m.add r.toNat gn f10_ rfl rfl (by omega) ?_
 refine i_loadI m.add r.toNat gn f11_ rfl (by omega) ?_
 refine o_ct (c_wOf ((m.add).getD r.toNat 0) (by first | decide | omega) (by first | decide | omega)) gn f46_ rfl ?_
 refine o_ct (c_wMul (f.den) ((m.add).getD r.toNat 0) (by first | omega | assumption | (simp only [Int.natAbs_neg]; omega)) (by first | omega | assumption | (simp only [Int.natAbs_neg]; omega))) gn f67_ rfl ?_
 refine o_ct (c_wAdd (f.num * (m.mul).getD r.toNat 0) (f.den * (m.add).getD r.toNat 0) (by first | omega | assumption | (simp only [Int.natAbs_neg]; omega)) (by first | omega | assumption | (simp only [Int.natAbs_neg]; omega))) gn f40_ rfl ?_
 refine o_fieldRef 2 gn f94_ rfl rfl ?_
 refine o_loadA [bp (f.den < 0), .sl 1 (ns .u32 (digs (f.den).natAbs))] gn f20_ rfl rfl rfl rfl rfl ?_
 refine o_fieldRef 0 gn f59_ rfl rfl ?_
 refine o_loadS (Iv m.mod) gn f11_ rfl rfl rfl ?_
 refine o_ct (c_wOf m.mod (by first | decide | omega) (by first | decide | omega)) gn f46_ rfl ?_
 refine o_ct (c_wMul (f.den) m.mod (by first | omega | assumption | (simp only [Int.natAbs_neg]; omega)) (by first | omega | assumption | (simp only [Int.natAbs_neg]; omega))) gn f67_ rfl ?_
 refine o_ct (c_yRed ((f.num * (m.mul).getD r.toNat 0) + (f.den * (m.add).getD r.toNat 0)) (f.den * m.mod) (by first | omega | assumption) (by first | omega | assumption) (by first | omega | assumption)) gn f99_ rfl ?_
 refine o_store [(4, .var 92 [bp ((redZ ((f.num * (m.mul).getD r.toNat 0) + (f.den * (m.add).getD r.toNat 0)) (f.den * m.mod)).num < 0), .sl 1 (ns .u32 (digs ((redZ ((f.num * (m.mul).getD r.toNat 0) + (f.den * (m.add).getD r.toNat 0)) (f.den * m.mod)).num).natAbs)), bp ((redZ ((f.num * (m.mul).getD r.toNat 0) + (f.den * (m.add).getD r.toNat 0)) (f.den * m.mod)).den < 0), .sl 1 (ns .u32 (digs ((redZ ((f.num * (m.mul).getD r.toNat 0) + (f.den * (m.add).getD r.toNat 0)) (f.den * m.mod)).den).natAbs))]), (3, .var 92 [bp (f.num < 0), .sl 1 (ns .u32 (digs (f.num).natAbs)), bp (f.den < 0), .sl 1 (ns .u32 (digs (f.den).natAbs))]), (2, oM 24 m)] gn f89_ rfl rfl rfl rfl rfl rfl ?_
 refine aops_end ⟨by kernel_rfl, ?_⟩
 refine hK1 _ ?_
 refine awp_ret ?_
 refine post_ret ⟨[.agg [bp ((redZ ((f.num * (m.mul).getD r.toNat 0) + (f.den * (m.add).getD r.toNat 0)) (f.den * m.mod)).num < 0), .sl 1 (ns .u32 (digs ((redZ ((f.num * (m.mul).getD r.toNat 0) + (f.den * (m.add).getD r.toNat 0)) (f.den * m.mod)).num).natAbs)), bp ((redZ ((f.num * (m.mul).getD r.toNat 0) + (f.den * (m.add).getD r.toNat 0)) (f.den * m.mod)).den < 0), .sl 1 (ns .u32 (digs ((redZ ((f.num * (m.mul).getD r.toNat 0) + (f.den * (m.add).getD r.toNat 0)) (f.den * m.mod)).den).natAbs))]], ⟨⟨4, .var 92 [bp ((redZ ((f.num * (m.mul).getD r.toNat 0) + (f.den * (m.add).getD r.toNat 0)) (f.den * m.mod)).num < 0), .sl 1 (ns .u32 (digs ((redZ ((f.num * (m.mul).getD r.toNat 0) + (f.den * (m.add).getD r.toNat 0)) (f.den * m.mod)).num).natAbs)), bp ((redZ ((f.num * (m.mul).getD r.toNat 0) + (f.den * (m.add).getD r.toNat 0)) (f.den * m.mod)).den < 0), .sl 1 (ns .u32 (digs ((redZ ((f.num * (m.mul).getD r.toNat 0) + (f.den * (m.add).getD r.toNat 0)) (f.den * m.mod)).den).natAbs))], rfl, rfl, rfl, Or.inl ⟨f90_, AV.le_refl _⟩⟩, trivial⟩, rfl, ?_⟩
 rfl

theorem c_yFixed (m : MapM) (w : List Int) (hl : w.length ≤ 17592186044416) : ECalls cx 19 [mapV m, Lv w] (.tup [.agg (cF (fxF m w)), nm .i64 (cycE m w)]) := by
 refine ecalls_of_awp Tryz.func19 (c := _) rfl (Nat.le_of_ble_eq_true rfl) ?_
 show awp cx 27 _ (postF cx Tryz.f19 _) ⟨[(0, mapV m), (1, Lv w)], []⟩
 refine awp_seq fun K0 hK0 => awp_region rfl ?_
 refine o_box 2 [Iv m.mod, Lv m.mul, Lv m.add] gn rfl rfl ?_
 refine o_alloc 3 [Sv Ev, Sv Ev] gn f91_ rfl rfl rfl ?_
 refine o_as (Nv 0) rfl (aops_end (hK0 _ (awp_seq fun K1 hK1 => awp_seq fun K2 hK2 => awp_region rfl ?_)))
 refine o_loadA [Iv m.mod, Lv m.mul, Lv m.add] gn f63_ rfl rfl rfl rfl rfl ?_
 refine o_mv (Lv w) rfl ?_
 refine o_ct (c_yCheck m w (by assumption)) gn f103_ rfl ?_
 refine o_as (Nv (cycE m w)) rfl (aops_end (hK2 _ (awp_seq fun K3 hK3 => awp_region rfl (o_mv (Nv (cycE m w)) rfl ?_))))
 refine n_neq (cycE m w) 0 gn rfl rfl ?_
 refine aops_end (hK3 _ ?_)
 refine awp_condQ (q := (cycE m w) ≠ 0) rfl (fun h1 => ?_) (fun h1 => ?_)
 ·have hx := fxF_no h1
  refine awp_seq fun K4 hK4 => awp_region rfl ?_
  refine o_build [Sv Ev, Sv Ev] [] gn f95_ f91_ rfl rfl rfl ?_
  refine o_mv (Nv (cycE m w)) rfl ?_
  refine o_store [(3, .var 45 [Sv Ev, Sv Ev]), (2, oM 24 m)] gn f96_ rfl rfl rfl rfl rfl rfl ?_
  refine o_as (Nv (cycE m w)) rfl (aops_end (hK4 _ ?_))
  refine awp_ret ?_
  refine post_ret ⟨[.agg [Sv Ev, Sv Ev], Nv (cycE m w)], ⟨⟨3, .var 45 [Sv Ev, Sv Ev], rfl, rfl, rfl, Or.inl ⟨f97_, AV.le_refl _⟩⟩, AV.le_refl _, trivial⟩, rfl, ?_⟩
  first | exact tup_eq2 (congrArg (fun f => AV.agg (cF f)) hx.1) rfl | exact tup_eq2 (congrArg (fun f => AV.agg (cF f)) hx.1.symm) rfl | exact tup_eq2 (congrArg (fun f => AV.agg (cF f)) hx.1) (congrArg (nm _) hc0) | exact tup_eq2 (congrArg (fun f => AV.agg (cF f)) hx.1.symm) (congrArg (nm _) hc0.symm)
 ·have hc0 := Decidable.not_not.1 h1
  obtain ⟨hM, hf, hW, hne⟩ := cyc_0' hc0
  obtain ⟨k1, k2⟩ := fix_fit hM hf hW hne
  have hx := fxF_ok hc0
  refine awp_skip (hK1 _ (awp_seq fun K5 hK5 => awp_region rfl ?_))
  refine o_loadA [Iv m.mod, Lv m.mul, Lv m.add] gn f63_ rfl rfl rfl rfl rfl ?_
  refine o_mv (Lv w) rfl ?_
  refine o_ct (c_yFix m w hM hf hW hne) gn f104_ rfl ?_
  refine o_ct (c_yTold (fixZ m w) (by assumption) (by assumption)) gn f105_ rfl ?_
  refine o_mv (.tup [.agg [Sv ((frT (fixZ m w)).num), Sv ((frT (fixZ m w)).den)], Tv]) rfl (o_extract (.agg [Sv ((frT (fixZ m w)).num), Sv ((frT (fixZ m w)).den)]) gn rfl rfl (o_extract Tv gn rfl rfl ?_))
  refine o_alloc 4 [Sv Ev, Sv Ev] gn f91_ rfl rfl rfl ?_
  refine o_store [(4, .var 45 [Sv ((frT (fixZ m w)).num), Sv ((frT (fixZ m w)).den)]), (3, .var 45 [Sv Ev, Sv Ev]), (2, oM 24 m)] gn f96_ rfl rfl rfl rfl rfl rfl ?_
  refine o_as Tv rfl (aops_end (hK5 _ (awp_seq fun K6 hK6 => awp_seq fun K7 hK7 => awp_region rfl (o_mv Tv rfl ?_))))
  refine o_not (b := true) gn rfl ?_
  refine aops_end (hK7 _ ?_)
  refine awp_condB (b := false) rfl (fun hh => absurd (hh.symm.trans rfl) (by decide)) (fun _ => ?_)
  refine awp_skip (hK6 _ (awp_seq fun K8 hK8 => awp_region rfl ?_))
  refine o_loadA [Sv ((frT (fixZ m w)).num), Sv ((frT (fixZ m w)).den)] gn f97_ rfl rfl rfl rfl rfl ?_
  refine o_store [(4, .var 45 [Sv ((frT (fixZ m w)).num), Sv ((frT (fixZ m w)).den)]), (3, .var 45 [Sv ((frT (fixZ m w)).num), Sv ((frT (fixZ m w)).den)]), (2, oM 24 m)] gn f96_ rfl rfl rfl rfl rfl rfl ?_
  refine o_as (Nv 0) rfl (aops_end (hK8 _ ?_))
  refine awp_ret ?_
  refine post_ret ⟨[.agg [Sv ((frT (fixZ m w)).num), Sv ((frT (fixZ m w)).den)], Nv 0], ⟨⟨3, .var 45 [Sv ((frT (fixZ m w)).num), Sv ((frT (fixZ m w)).den)], rfl, rfl, rfl, Or.inl ⟨f97_, AV.le_refl _⟩⟩, AV.le_refl _, trivial⟩, rfl, ?_⟩
  first | exact tup_eq2 (congrArg (fun f => AV.agg (cF f)) hx.1) rfl | exact tup_eq2 (congrArg (fun f => AV.agg (cF f)) hx.1.symm) rfl | exact tup_eq2 (congrArg (fun f => AV.agg (cF f)) hx.1) (congrArg (nm _) hc0) | exact tup_eq2 (congrArg (fun f => AV.agg (cF f)) hx.1.symm) (congrArg (nm _) hc0.symm)

theorem c_yTurn (m : MapM) (w : List Int) (hl : w.length ≤ 17592186044416) : ECalls cx 29 [mapV m, Lv w] (.tup [.sl 2 (gcells cF (tnL m w)), nm .i64 (cycE m w)]) := by
 refine ecalls_of_awp Tryz.func29 (c := _) rfl (Nat.le_of_ble_eq_true rfl) ?_
 show awp cx 45 _ (postF cx Tryz.f29 _) ⟨[(0, mapV m), (1, Lv w)], []⟩
 refine awp_seq fun K0 hK0 => awp_region rfl ?_
 refine o_box 2 [Iv m.mod, Lv m.mul, Lv m.add] gn rfl rfl ?_
 refine o_as Zv rfl (o_as (Nv 0) rfl (aops_end (hK0 _ (awp_seq fun K1 hK1 => awp_seq fun K2 hK2 => awp_region rfl ?_))))
 refine o_loadA [Iv m.mod, Lv m.mul, Lv m.add] gn f63_ rfl rfl rfl rfl rfl ?_
 refine o_mv (Lv w) rfl ?_
 refine o_ct (c_yCheck m w (by assumption)) gn f103_ rfl ?_
 refine o_as (Nv (cycE m w)) rfl (aops_end (hK2 _ (awp_seq fun K3 hK3 => awp_region rfl (o_mv (Nv (cycE m w)) rfl ?_))))
 refine n_neq (cycE m w) 0 gn rfl rfl ?_
 refine aops_end (hK3 _ ?_)
 refine awp_condQ (q := (cycE m w) ≠ 0) rfl (fun h1 => ?_) (fun h1 => ?_)
 ·have hx := fxF_no h1
  refine awp_seq fun K4 hK4 => awp_region rfl (o_mv (Nv (cycE m w)) rfl (o_as Zv rfl (o_as (Nv (cycE m w)) rfl (aops_end (hK4 _ ?_)))))
  refine awp_ret ?_
  refine post_ret ⟨[.sl 2 (gcells cF ([])), Nv (cycE m w)], ⟨(AV.le_nil' (by decide) (by first | rfl | simp [digs_zero, ns, is])), AV.le_refl _, trivial⟩, rfl, ?_⟩
  first | exact tup_eq2 (gs_as hx.2) rfl | exact tup_eq2 (gs_as hx.2.symm) rfl | exact tup_eq2 (congrArg (.sl 2) (by rw [hx.2]; rfl)) rfl | (have e9 : i = w.length := (by omega); rw [e9]; exact tup_eq2 (gs_as hx.2) (congrArg (nm _) hc0))
 ·have hc0 := Decidable.not_not.1 h1
  obtain ⟨hM, hf, hW, hne⟩ := cyc_0' hc0
  have hM2 := hM
  obtain ⟨o1, o2, o3, o4, o5⟩ := hM2
  have hx := fxF_ok hc0
  have hwl := hW.2
  refine awp_skip (hK1 _ (awp_seq fun K5 hK5 => awp_region rfl (o_as Zv rfl (aops_end (hK5 _ (awp_seq fun K6 hK6 => awp_region rfl ?_))))))
  refine o_loadA [Iv m.mod, Lv m.mul, Lv m.add] gn f63_ rfl rfl rfl rfl rfl ?_
  refine o_mv (Lv w) rfl ?_
  refine o_ct (c_yFix m w hM hf hW hne) gn f104_ rfl ?_
  refine o_alloc 3 [Fv, Zv, Fv, Zv] gn f86_ rfl rfl rfl ?_
  refine o_store [(3, .var 92 [bp ((fixZ m w).num < 0), .sl 1 (ns .u32 (digs ((fixZ m w).num).natAbs)), bp ((fixZ m w).den < 0), .sl 1 (ns .u32 (digs ((fixZ m w).den).natAbs))]), (2, oM 24 m)] gn f89_ rfl rfl rfl rfl rfl rfl ?_
  refine aops_end (hK6 _ (awp_seq fun K7 hK7 => awp_seq fun K8 hK8 => awp_region rfl (o_mv (Lv w) rfl ?_)))
  refine i_len w gn f2_ rfl ?_
  refine o_mv (Nv 0) rfl (aops_end (hK8 _ ?_))
  refine awp_block ?_
  refine awp_loopR (fun κ σ => ∃ (i : Nat), (i ≤ w.length) ∧ (w.length - i) = κ ∧ σ = ⟨[(2, .ref 2 0), (7, .row 50), (8, .ref 3 0), (22, Lv w), (23, Nv (w.length)), (24, Nv i)], [(2, oM 24 m), (3, .var 92 [bp ((trnZ m w (fixZ m w) i).num < 0), .sl 1 (ns .u32 (digs ((trnZ m w (fixZ m w) i).num).natAbs)), bp ((trnZ m w (fixZ m w) i).den < 0), .sl 1 (ns .u32 (digs ((trnZ m w (fixZ m w) i).den).natAbs))]), (50, .row 45 2 (gcells cF (trL m w i)))]⟩) ⟨_, _, ⟨0, (by omega), rfl, rfl⟩, ?wk0⟩ ?rd0
  case wk0 =>
   exact Wk.trans (Wk.newNil (i := 7) (id := 504) (e := 45) (sz := 2) rfl rfl (by decide)) (Wk.trans (Wk.sub (σ' := ⟨[(2, .ref 2 0), (7, .row 504), (8, .ref 3 0), (22, Lv w), (23, Nv (w.length)), (24, Nv 0)], [(2, oM 24 m), (504, .row 45 2 (gcells cF ([]))), (3, .var 92 [bp ((fixZ m w).num < 0), .sl 1 (ns .u32 (digs ((fixZ m w).num).natAbs)), bp ((fixZ m w).den < 0), .sl 1 (ns .u32 (digs ((fixZ m w).den).natAbs))])]⟩) ⟨rfl, rfl, rfl, rfl, rfl, rfl, trivial⟩ ⟨rfl, rfl, rfl, trivial⟩) (Wk.trans (Wk.ren (id := 504) (id' := 50) rfl) (Wk.sub ⟨rfl, (by first | rfl | simp), rfl, rfl, rfl, (by first | rfl | exact nm_int (by omega)), trivial⟩ ⟨(by first | rfl | (first | exact row_gs' (trL_s m w _) | exact row_gs' (by rfl))), (by first | rfl | (first | exact row_gs' (trL_s m w _) | exact row_gs' (by rfl))), (by first | rfl | exact row_ns (by simp) | (first | exact row_gs' (trL_s m w _) | exact row_gs' (by rfl))), trivial⟩)))
  rintro κ _ ⟨i, hi, rfl, rfl⟩
  refine awp_seq fun K9 hK9 => awp_region rfl ?_
  refine n_lss i (w.length) gn rfl rfl ?_
  refine aops_end (hK9 _ (awp_seq fun K10 hK10 => ?_))
  refine awp_condQ (q := i < (w.length)) rfl (fun h2 => ?_) (fun h2 => ?_)
  ·obtain ⟨k1, k2⟩ := trn_fit hM hf hW hne (show i ≤ w.length by omega)
   obtain ⟨k3, k4⟩ := trn_len hM hf hW hne (show i ≤ w.length by omega)
   obtain ⟨k5, k6⟩ := isW_get hW.1 (show i < w.length by omega)
   have k7 := (trn_ok hM hf hW.1 hne (show i ≤ w.length by omega)).1.1
   have k8 := trL_len m w i
   refine awp_skip (hK10 _ (awp_seq fun K11 hK11 => ?_))
   refine awp_block ?_
   refine awp_seq fun K12 hK12 => awp_region rfl ?_
   refine i_index w i gn f10_ rfl rfl (by omega) ?_
   refine i_loadI w i gn f11_ rfl (by omega) ?_
   refine o_as (Iv (w.getD i 0)) rfl (aops_end (hK12 _ (awp_seq fun K13 hK13 => awp_region rfl ?_)))
   refine o_loadA [bp ((trnZ m w (fixZ m w) i).num < 0), .sl 1 (ns .u32 (digs ((trnZ m w (fixZ m w) i).num).natAbs)), bp ((trnZ m w (fixZ m w) i).den < 0), .sl 1 (ns .u32 (digs ((trnZ m w (fixZ m w) i).den).natAbs))] gn f90_ rfl rfl rfl rfl rfl ?_
   refine o_ct (c_yTold (trnZ m w (fixZ m w) i) (by assumption) (by assumption)) gn f105_ rfl ?_
   refine o_mv (.tup [.agg [Sv ((frT (trnZ m w (fixZ m w) i)).num), Sv ((frT (trnZ m w (fixZ m w) i)).den)], Tv]) rfl (o_extract (.agg [Sv ((frT (trnZ m w (fixZ m w) i)).num), Sv ((frT (trnZ m w (fixZ m w) i)).den)]) gn rfl rfl (o_extract Tv gn rfl rfl ?_))
   refine o_alloc 101 [Sv Ev, Sv Ev] gn f91_ rfl rfl rfl ?_
   refine o_store [(101, .var 45 [Sv ((frT (trnZ m w (fixZ m w) i)).num), Sv ((frT (trnZ m w (fixZ m w) i)).den)]), (2, oM 24 m), (3, .var 92 [bp ((trnZ m w (fixZ m w) i).num < 0), .sl 1 (ns .u32 (digs ((trnZ m w (fixZ m w) i).num).natAbs)), bp ((trnZ m w (fixZ m w) i).den < 0), .sl 1 (ns .u32 (digs ((trnZ m w (fixZ m w) i).den).natAbs))]), (50, .row 45 2 (gcells cF (trL m w i)))] gn f96_ rfl rfl rfl rfl rfl rfl ?_
   refine o_as Tv rfl (aops_end (hK13 _ (awp_seq fun K14 hK14 => awp_seq fun K15 hK15 => awp_region rfl (o_mv Tv rfl ?_))))
   refine o_not (b := true) gn rfl ?_
   refine aops_end (hK15 _ ?_)
   refine awp_condB (b := false) rfl (fun hh => absurd (hh.symm.trans rfl) (by decide)) (fun _ => ?_)
   refine awp_skip (hK14 _ (awp_seq fun K16 hK16 => awp_region rfl (o_mv (.row 50) rfl ?_)))
   refine o_loadA [Sv ((frT (trnZ m w (fixZ m w) i)).num), Sv ((frT (trnZ m w (fixZ m w) i)).den)] gn f97_ rfl rfl rfl rfl rfl ?_
   refine o_buildSlice 102 (gcells cF ([frT (trnZ m w (fixZ m w) i)])) [(0, [Sv ((frT (trnZ m w (fixZ m w) i)).num), Sv ((frT (trnZ m w (fixZ m w) i)).den)])] gn f106_ rfl f91_ rfl rfl rfl rfl rfl rfl rfl ?_
   refine g_append cF 103 (trL m w i) ([frT (trnZ m w (fixZ m w) i)]) [(102, .row 45 2 (gcells cF ([frT (trnZ m w (fixZ m w) i)]))), (101, .var 45 [Sv ((frT (trnZ m w (fixZ m w) i)).num), Sv ((frT (trnZ m w (fixZ m w) i)).den)]), (2, oM 24 m), (3, .var 92 [bp ((trnZ m w (fixZ m w) i).num < 0), .sl 1 (ns .u32 (digs ((trnZ m w (fixZ m w) i).num).natAbs)), bp ((trnZ m w (fixZ m w) i).den < 0), .sl 1 (ns .u32 (digs ((trnZ m w (fixZ m w) i).den).natAbs))])] cF_len rfl gn f106_ f91_ rfl rfl rfl rfl rfl (by simp only [List.length_append, List.length_cons, List.length_nil]; omega) (by simp only [List.length_append, List.length_cons, List.length_nil]; omega) rfl rfl ?_
   refine o_as (.row 103) rfl (aops_end (hK16 _ (awp_region rfl ?_)))
   refine o_loadA [Iv m.mod, Lv m.mul, Lv m.add] gn f63_ rfl rfl rfl rfl rfl ?_
   refine o_loadA [bp ((trnZ m w (fixZ m w) i).num < 0), .sl 1 (ns .u32 (digs ((trnZ m w (fixZ m w) i).num).natAbs)), bp ((trnZ m w (fixZ m w) i).den < 0), .sl 1 (ns .u32 (digs ((trnZ m w (fixZ m w) i).den).natAbs))] gn f90_ rfl rfl rfl rfl rfl ?_
   refine o_mv (Iv (w.getD i 0)) rfl ?_
   refine o_ct (c_yNext m (trnZ m w (fixZ m w) i) (w.getD i 0) hM (by omega) (by omega) (by omega) (by omega) (by omega)) gn f107_ rfl ?_
   refine o_store [(103, .row 45 2 (gcells cF ((trL m w i) ++ ([frT (trnZ m w (fixZ m w) i)])))), (102, .row 45 2 (gcells cF ([frT (trnZ m w (fixZ m w) i)]))), (101, .var 45 [Sv ((frT (trnZ m w (fixZ m w) i)).num), Sv ((frT (trnZ m w (fixZ m w) i)).den)]), (2, oM 24 m), (3, .var 92 [bp ((nxtZ m (trnZ m w (fixZ m w) i) (w.getD i 0)).num < 0), .sl 1 (ns .u32 (digs ((nxtZ m (trnZ m w (fixZ m w) i) (w.getD i 0)).num).natAbs)), bp ((nxtZ m (trnZ m w (fixZ m w) i) (w.getD i 0)).den < 0), .sl 1 (ns .u32 (digs ((nxtZ m (trnZ m w (fixZ m w) i) (w.getD i 0)).den).natAbs))])] gn f89_ rfl rfl rfl rfl rfl rfl ?_
   refine aops_end (hK11 _ (awp_region rfl ?_))
   refine n_add i 1 gn rfl rfl (by simp only [topOf]; omega) ?_
   refine o_mv (Nv (i + 1)) rfl (aops_end ?_)
   refine ⟨_, _, ?lt, ⟨i + 1, (by omega), rfl, rfl⟩, ?wk⟩
   case lt => omega
   case wk => exact Wk.trans (Wk.sub (σ' := ⟨[(2, .ref 2 0), (7, .row 103), (8, .ref 3 0), (22, Lv w), (23, Nv (w.length)), (24, Nv (i + 1))], [(2, oM 24 m), (103, .row 45 2 (gcells cF ((trL m w i) ++ ([frT (trnZ m w (fixZ m w) i)])))), (3, .var 92 [bp ((nxtZ m (trnZ m w (fixZ m w) i) (w.getD i 0)).num < 0), .sl 1 (ns .u32 (digs ((nxtZ m (trnZ m w (fixZ m w) i) (w.getD i 0)).num).natAbs)), bp ((nxtZ m (trnZ m w (fixZ m w) i) (w.getD i 0)).den < 0), .sl 1 (ns .u32 (digs ((nxtZ m (trnZ m w (fixZ m w) i) (w.getD i 0)).den).natAbs))])]⟩) ⟨rfl, rfl, rfl, rfl, rfl, rfl, trivial⟩ ⟨rfl, rfl, rfl, trivial⟩) (Wk.trans (Wk.ren (id := 103) (id' := 50) rfl) (Wk.sub ⟨rfl, (by first | rfl | simp), rfl, rfl, rfl, (by first | rfl | exact nm_int (by omega)), trivial⟩ ⟨rfl, (by first | rfl | (first | exact row_gs' (trL_s m w _) | exact row_gs' (by rfl))), (by first | rfl | exact row_ns (by simp) | (first | exact row_gs' (trL_s m w _) | exact row_gs' (by rfl))), trivial⟩))
  ·refine awp_exit ?_
   refine hK7 _ (awp_seq fun K17 hK17 => awp_region rfl (o_mv (.row 50) rfl (o_as (.row 50) rfl (o_as (Nv 0) rfl (aops_end (hK17 _ ?_))))))
   refine awp_wk (σ' := ⟨[(4, .row 50), (5, Nv 0)], [(50, .row 45 2 (gcells cF (trL m w i)))]⟩) (Wk.sub ⟨rfl, rfl, trivial⟩ ⟨rfl, trivial⟩) ?_
   refine awp_wk (σ' := ⟨[(4, .sl 2 (gcells cF (trL m w i))), (5, Nv 0)], []⟩) (Wk.freeze (id := 50) (e := 45) (sz := 2) (cs := (gcells cF (trL m w i))) rfl) ?_
   refine awp_ret ?_
   refine post_ret ⟨[.sl 2 (gcells cF (trL m w i)), Nv 0], ⟨AV.le_refl _, AV.le_refl _, trivial⟩, rfl, ?_⟩
   first | exact tup_eq2 (gs_as hx.2) rfl | exact tup_eq2 (gs_as hx.2.symm) rfl | exact tup_eq2 (congrArg (.sl 2) (by rw [hx.2]; rfl)) rfl | (have e9 : i = w.length := (by omega); rw [e9]; exact tup_eq2 (gs_as hx.2) (congrArg (nm _) hc0))

end Go.Proofs.YtdmkejloknejdaaGreatDoor

namespace Go.Ab
theorem Wk.cells {C : Ctx} {n : Nat} {σ : St} {i ty : Nat} {cs cs' : List AV} (hs : lookO σ.objs i = some (.var ty cs)) (hl : LeL cs cs') : Wk C n σ ⟨σ.slots, (i, .var ty cs') :: σ.objs⟩ := fun w0 H L a w hr => by
 have conv : ∀ j o, lookO ((i, .var ty cs') :: σ.objs) j = some o → (j = i ∧ o = .var ty cs') ∨ (j ≠ i ∧ σ.sem.μ j = some o) := fun j o ho => by
  simp only [lookO] at ho
  by_cases h2 : j = i
  ·subst h2
   simp at ho
   exact .inl ⟨rfl, ho.symm⟩
  ·rw [beq_ne (fun e => h2 e.symm)] at ho
   exact .inr ⟨h2, ho⟩
 have hi0 := hr.objs i (.var ty cs) hs
 refine ⟨H, L, Ext.refl _ _, ⟨hr.glob, hr.heap, hr.size, hr.slot, fun j o ho => ?_, fun j k o o' g x x' hjk hj hk => ?_, hr.below, hr.defers⟩⟩
 ·rcases conv j o ho with ⟨rfl, rfl⟩ | ⟨h1, h2⟩
  ·obtain ⟨g, vs, a1, a2, a3, a4, a5, a6⟩ := hi0
   exact ⟨g, vs, a1, a2, hl.rep a3, a4, a5, a6⟩
  ·exact hr.objs j o h2
 ·have conv' : ∀ j o, lookO ((i, .var ty cs') :: σ.objs) j = some o → ∃ o', σ.sem.μ j = some o' := fun j o ho => by
   rcases conv j o ho with ⟨rfl, rfl⟩ | ⟨h1, h2⟩
   ·exact ⟨_, hs⟩
   ·exact ⟨_, h2⟩
  obtain ⟨o1, h1⟩ := conv' j o hj
  obtain ⟨o2, h2⟩ := conv' k o' hk
  exact hr.apart j k o1 o2 g x x' hjk h1 h2
end Go.Ab
namespace Go.Mth
open Go.Ab
def gC (a b : Nat) : Prop := ((digs a).getD ((digs a).length - 1) 0) ≤ ((digs b).getD ((digs b).length - 1) 0) ∧ 0 < (digs a).length - (digs b).length
instance (a b : Nat) : Decidable (gC a b) := inferInstanceAs (Decidable ((digs a).getD ((digs a).length - 1) 0 ≤ ((digs b).getD ((digs b).length - 1) 0) ∧ 0 < (digs a).length - (digs b).length))
def gSh (a b : Nat) : Nat := if gC a b then (digs a).length - (digs b).length - 1 else (digs a).length - (digs b).length
def gTop (a b : Nat) : Nat := if gC a b then ((digs a).getD ((digs a).length - 1) 0) * 1000000000 + (digs a).getD ((digs a).length - 2) 0 else ((digs a).getD ((digs a).length - 1) 0)
def gQ (a b : Nat) : Nat := max (gTop a b / ((digs b).getD ((digs b).length - 1) 0 + 1)) 1
def guessN (a b : Nat) : Nat := 1000000000 ^ gSh a b * gQ a b
theorem top_lo {a : Nat} (h : 0 < (digs a).length) : ((digs a).getD ((digs a).length - 1) 0) * 1000000000 ^ ((digs a).length - 1) ≤ a := by
 have h1 := val_split (digs a) (j := (digs a).length - 1) (by omega)
 have h2 := val_drop_succ (xs := digs a) (j := (digs a).length - 1) (by omega)
 rw [val_drop_all (xs := digs a) (j := (digs a).length - 1 + 1) (by omega), Nat.mul_zero, Nat.add_zero] at h2
 rw [val_digs, h2] at h1
 rw [Nat.mul_comm]
 omega
theorem top_hi {a : Nat} (h : 0 < (digs a).length) : a < ((digs a).getD ((digs a).length - 1) 0 + 1) * 1000000000 ^ ((digs a).length - 1) := by
 have h1 := val_split (digs a) (j := (digs a).length - 1) (by omega)
 have h2 := val_drop_succ (xs := digs a) (j := (digs a).length - 1) (by omega)
 rw [val_drop_all (xs := digs a) (j := (digs a).length - 1 + 1) (by omega), Nat.mul_zero, Nat.add_zero] at h2
 rw [val_digs, h2] at h1
 have h3 := val_lt ((digs_dig a).take ((digs a).length - 1))
 rw [List.length_take, Nat.min_eq_left (by omega)] at h3
 rw [Nat.add_mul, Nat.one_mul, Nat.mul_comm]
 omega
theorem top2_lo {a : Nat} (h : 2 ≤ (digs a).length) : ((digs a).getD ((digs a).length - 1) 0 * 1000000000 + (digs a).getD ((digs a).length - 2) 0) * 1000000000 ^ ((digs a).length - 2) ≤ a := by
 have h1 := val_split (digs a) (j := (digs a).length - 2) (by omega)
 have h2 := val_drop_succ (xs := digs a) (j := (digs a).length - 1) (by omega)
 rw [val_drop_all (xs := digs a) (j := (digs a).length - 1 + 1) (by omega), Nat.mul_zero, Nat.add_zero] at h2
 have h3 := val_drop_succ (xs := digs a) (j := (digs a).length - 2) (by omega)
 rw [show (digs a).length - 2 + 1 = (digs a).length - 1 by omega, h2] at h3
 rw [val_digs, h3] at h1
 rw [Nat.mul_comm, Nat.add_comm (_ * _), Nat.mul_comm ((digs a).getD ((digs a).length - 1) 0)]
 omega
theorem top_pos {a : Nat} (h : 0 < (digs a).length) : 0 < ((digs a).getD ((digs a).length - 1) 0) := by
 have h1 := val_drop_pos (n := a) (j := (digs a).length - 1) (by omega)
 have h2 := val_drop_succ (xs := digs a) (j := (digs a).length - 1) (by omega)
 rw [val_drop_all (xs := digs a) (j := (digs a).length - 1 + 1) (by omega), Nat.mul_zero, Nat.add_zero] at h2
 omega
theorem digs_pos_len {a : Nat} (h : 0 < a) : 0 < (digs a).length := by
 rcases Nat.eq_zero_or_pos ((digs a).length) with e | e
 ·have := digs_len_zero.1 e; omega
 ·exact e
theorem guess_le {a b : Nat} (hb : 0 < b) (hab : b ≤ a) : 1 ≤ guessN a b ∧ guessN a b * b ≤ a := by
 have hlb := digs_pos_len hb
 have hla := digs_pos_len (show 0 < a by omega)
 have hll : (digs b).length ≤ (digs a).length := digs_len_le hab
 have hq1 : 1 ≤ gQ a b := Nat.le_max_right _ _
 have hbh := top_hi hlb
 refine ⟨?_, ?_⟩
 ·have := Nat.mul_le_mul (show 1 ≤ 1000000000 ^ gSh a b from Nat.pow_pos (by decide)) hq1
  unfold guessN; omega
 ·have htop : gTop a b * 1000000000 ^ (gSh a b + ((digs b).length - 1)) ≤ a := by
   unfold gTop gSh
   split
   ·rename_i h
    have := h.2
    rw [show (digs a).length - (digs b).length - 1 + ((digs b).length - 1) = (digs a).length - 2 by omega]
    exact top2_lo (by omega)
   ·rw [show (digs a).length - (digs b).length + ((digs b).length - 1) = (digs a).length - 1 by omega]
    exact top_lo hla
  by_cases hc : ((digs b).getD ((digs b).length - 1) 0) + 1 ≤ gTop a b
  ·have hq : gQ a b * ((digs b).getD ((digs b).length - 1) 0 + 1) ≤ gTop a b := by
    have h1 : 1 ≤ gTop a b / ((digs b).getD ((digs b).length - 1) 0 + 1) := Nat.div_pos hc (by omega)
    have h2 : gQ a b = gTop a b / ((digs b).getD ((digs b).length - 1) 0 + 1) := Nat.max_eq_left h1
    rw [h2]; exact Nat.div_mul_le_self _ _
   refine Nat.le_trans ?_ htop
   unfold guessN
   calc 1000000000 ^ gSh a b * gQ a b * b ≤ 1000000000 ^ gSh a b * gQ a b * (((digs b).getD ((digs b).length - 1) 0 + 1) * 1000000000 ^ ((digs b).length - 1)) := Nat.mul_le_mul_left _ (Nat.le_of_lt hbh)
    _ = (gQ a b * ((digs b).getD ((digs b).length - 1) 0 + 1)) * 1000000000 ^ (gSh a b + ((digs b).length - 1)) := by
     rw [Nat.pow_add, Nat.mul_comm (1000000000 ^ gSh a b) (gQ a b), Nat.mul_assoc, Nat.mul_assoc, Nat.mul_left_comm (1000000000 ^ gSh a b)]
    _ ≤ gTop a b * 1000000000 ^ (gSh a b + ((digs b).length - 1)) := Nat.mul_le_mul_right _ hq
  ·have hnc : ¬ gC a b := fun h => by
    have ht : gTop a b = ((digs a).getD ((digs a).length - 1) 0) * 1000000000 + (digs a).getD ((digs a).length - 2) 0 := if_pos h
    have := top_pos hla
    have hbt := Dig.getD (digs_dig b) ((digs b).length - 1)
    omega
   have ht : gTop a b = ((digs a).getD ((digs a).length - 1) 0) := if_neg hnc
   have hsh : gSh a b = 0 := by
    unfold gSh
    rw [if_neg hnc]
    rcases Nat.eq_zero_or_pos ((digs a).length - (digs b).length) with e | e
    ·exact e
    ·exact absurd ⟨by omega, e⟩ hnc
   have hq : gQ a b = 1 := by
    unfold gQ
    rw [Nat.div_eq_of_lt (by omega)]
    rfl
   unfold guessN
   rw [hsh, hq]
   omega
theorem app_step {r L : List Nat} {x : Nat} (h : r ++ digs x = L) (hx : 0 < x) : (r ++ [x % 1000000000]) ++ digs (x / 1000000000) = L := by
 rw [← h, digs_pos hx]; simp
theorem app_end {r L : List Nat} {x : Nat} (h : r ++ digs x = L) (hx : ¬ 0 < x) : r = L := by
 rw [show x = 0 by omega, digs_zero, List.append_nil] at h; exact h
theorem val_guess (sh q : Nat) : val (List.replicate sh 0 ++ digs q) = 1000000000 ^ sh * q := by
 rw [val_app, val_repl, val_digs, List.length_replicate]; omega
theorem div_inv {X q g Y r : Nat} (hv : X = q * Y + r) (h : g * Y ≤ r) : X = (q + g) * Y + (r - g * Y) := by rw [Nat.add_mul]; omega
theorem div_fin {X q Y r : Nat} (hv : X = q * Y + r) (h : r < Y) : q = X / Y ∧ r = X % Y := by
 subst hv
 constructor
 ·rw [Nat.mul_comm, Nat.mul_add_div (by omega), Nat.div_eq_of_lt h]; rfl
 ·rw [Nat.mul_comm, Nat.mul_add_mod, Nat.mod_eq_of_lt h]
theorem absR (x : Int) : AV.agg [AV.lit (.bool false), .sl 1 (ns .i64 (digs x.natAbs))] = intR ((x.natAbs : Nat) : Int) :=
 intK_eq (bl_bp (b := false) ⟨fun h => (by cases h), fun h => (by omega)⟩) rfl
theorem sgn_zero {n : Nat} : sgn ((n : Nat) : Int) = 0 ↔ n = 0 := by unfold sgn; repeat' split <;> omega
theorem cmpZ_nn {y : Int} {r : Nat} (hy : 0 < y) : 0 ≤ cmpZ ((r : Nat) : Int) y ↔ y.natAbs ≤ r := by unfold cmpZ; repeat' split <;> omega
theorem sub_cast {g r : Nat} {y : Int} (h : g * y.natAbs ≤ r) (hy : 0 < y) : ((r : Nat) : Int) - ((g : Nat) : Int) * y = ((r - g * y.natAbs : Nat) : Int) := by
 rw [Int.natCast_sub h, Int.natCast_mul, show ((y.natAbs : Nat) : Int) = y by omega]
theorem len_gy {g r : Nat} {y : Int} (h : g * y.natAbs ≤ r) : (digs (((g : Nat) : Int) * y).natAbs).length ≤ (digs r).length := by
 rw [Int.natAbs_mul]
 exact digs_len_le h
end Go.Mth

namespace Go.Proofs.YtdmkejloknejdaaGreatDoor
open Go Go.Ab Go.Mth
theorem f108_ : callable cx.P 21 = true := by kernel_rfl
theorem f109_ : callable cx.P 101 = true := by kernel_rfl
theorem f110_ : callable cx.P 60 = true := by kernel_rfl
theorem f111_ : callable cx.P 62 = true := by kernel_rfl
theorem c_rGuess (x y : Int) (hy : 0 < y.natAbs) (hxy : y.natAbs ≤ x.natAbs) (hx : (digs x.natAbs).length ≤ 1000000000) : ECalls cx 101 [intR x, intR y] (intR ((guessN x.natAbs y.natAbs : Nat) : Int)) := by
 refine ecalls_of_awp Tryz.func101 (c := _) rfl (Nat.le_of_ble_eq_true rfl) ?_
 show awp cx 74 _ (postF cx Tryz.f101 _) ⟨[(0, intR x), (1, intR y)], []⟩
 have hlb := digs_pos_len hy
 have hla := digs_pos_len (show 0 < x.natAbs by omega)
 have hll := digs_len_le hxy
 have hta := Dig.getD (digs_dig x.natAbs) ((digs x.natAbs).length - 1)
 have hta2 := Dig.getD (digs_dig x.natAbs) ((digs x.natAbs).length - 2)
 have htb := Dig.getD (digs_dig y.natAbs) ((digs y.natAbs).length - 1)
 refine awp_seq fun K0 hK0 => awp_region rfl ?_
 refine o_box 2 [bp (x < 0), .sl 1 (ns .i64 (digs x.natAbs))] gn rfl rfl ?_
 refine o_box 3 [bp (y < 0), .sl 1 (ns .i64 (digs y.natAbs))] gn rfl rfl ?_
 refine o_alloc 4 [Fv, Zv] gn f9_ rfl rfl rfl ?_
 refine aops_end (hK0 _ (awp_seq fun K1 hK1 => awp_region rfl ?_))
 refine o_fieldRef 1 gn f0_ rfl rfl ?_
 refine o_loadS (.sl 1 (ns .i64 (digs y.natAbs))) gn f1_ rfl rfl rfl ?_
 refine n_len (digs y.natAbs) gn f2_ rfl ?_
 refine o_as (Nv ((digs y.natAbs).length)) rfl (aops_end (hK1 _ (awp_seq fun K2 hK2 => awp_region rfl ?_)))
 refine o_fieldRef 1 gn f0_ rfl rfl ?_
 refine o_loadS (.sl 1 (ns .i64 (digs x.natAbs))) gn f1_ rfl rfl rfl ?_
 refine n_len (digs x.natAbs) gn f2_ rfl ?_
 refine o_mv (Nv ((digs y.natAbs).length)) rfl ?_
 refine n_sub ((digs x.natAbs).length) ((digs y.natAbs).length) gn rfl rfl (by omega) (by simp only [topOf]; omega) ?_
 refine o_as (Nv (((digs x.natAbs).length) - ((digs y.natAbs).length))) rfl (aops_end (hK2 _ (awp_seq fun K3 hK3 => awp_region rfl ?_)))
 refine o_fieldRef 1 gn f0_ rfl rfl ?_
 refine o_loadS (.sl 1 (ns .i64 (digs x.natAbs))) gn f1_ rfl rfl rfl ?_
 refine o_fieldRef 1 gn f0_ rfl rfl ?_
 refine o_loadS (.sl 1 (ns .i64 (digs x.natAbs))) gn f1_ rfl rfl rfl ?_
 refine n_len (digs x.natAbs) gn f2_ rfl ?_
 refine n_sub ((digs x.natAbs).length) 1 gn rfl rfl (by omega) (by simp only [topOf]; omega) ?_
 refine n_index (digs x.natAbs) (((digs x.natAbs).length) - 1) gn f10_ rfl rfl (by omega) ?_
 refine n_loadI (digs x.natAbs) (((digs x.natAbs).length) - 1) gn f11_ rfl (by omega) ?_
 refine o_as (Nv ((digs x.natAbs).getD (((digs x.natAbs).length) - 1) 0)) rfl (aops_end (hK3 _ ?_))
 refine awp_seqJ (J := fun σ => ∃ (sh : Nat), ∃ (top : Nat), (sh = gSh x.natAbs y.natAbs) ∧ (top = gTop x.natAbs y.natAbs) ∧ (sh ≤ 1000000000) ∧ (top < 1000000000000000000) ∧ True ∧ σ = ⟨[(2, .ref 2 0), (3, .ref 3 0), (4, .ref 4 0), (5, Nv ((digs y.natAbs).length)), (6, Nv sh), (7, Nv top)], [(2, oZ 42 .i64 x), (3, oZ 42 .i64 y), (4, .var 42 [Fv, Zv])]⟩) ?ja0 ?jb0
 case ja0 =>
  refine awp_seq fun K4 hK4 => awp_region rfl (o_mv (Nv ((digs x.natAbs).getD (((digs x.natAbs).length) - 1) 0)) rfl ?_)
  refine o_fieldRef 1 gn f0_ rfl rfl ?_
  refine o_loadS (.sl 1 (ns .i64 (digs y.natAbs))) gn f1_ rfl rfl rfl ?_
  refine o_mv (Nv ((digs y.natAbs).length)) rfl ?_
  refine n_sub ((digs y.natAbs).length) 1 gn rfl rfl (by omega) (by simp only [topOf]; omega) ?_
  refine n_index (digs y.natAbs) (((digs y.natAbs).length) - 1) gn f10_ rfl rfl (by omega) ?_
  refine n_loadI (digs y.natAbs) (((digs y.natAbs).length) - 1) gn f11_ rfl (by omega) ?_
  refine n_leq ((digs x.natAbs).getD (((digs x.natAbs).length) - 1) 0) ((digs y.natAbs).getD (((digs y.natAbs).length) - 1) 0) gn rfl rfl ?_
  refine o_mv (bp (((digs x.natAbs).getD (((digs x.natAbs).length) - 1) 0) ≤ ((digs y.natAbs).getD (((digs y.natAbs).length) - 1) 0))) rfl ?_
  refine o_splitP (q := ((digs x.natAbs).getD (((digs x.natAbs).length) - 1) 0) ≤ ((digs y.natAbs).getD (((digs y.natAbs).length) - 1) 0)) 34 rfl (fun h1 => ?_) (fun h1 => ?_)
  ·refine o_move (Nv (((digs x.natAbs).length) - ((digs y.natAbs).length))) (Gd.yes rfl rfl (decide_eq_true h1)) rfl ?_
   refine n_gtr (((digs x.natAbs).length) - ((digs y.natAbs).length)) 0 (Gd.yes rfl rfl (decide_eq_true h1)) rfl rfl ?_
   refine o_pickT (bp (0 < (((digs x.natAbs).length) - ((digs y.natAbs).length)))) gn rfl (decide_eq_true h1) rfl ?_
   refine aops_end (hK4 _ ?_)
   refine awp_condQ (q := 0 < (((digs x.natAbs).length) - ((digs y.natAbs).length))) rfl (fun h2 => ?_) (fun h2 => ?_)
   ·refine awp_seq fun K5 hK5 => awp_region rfl (o_mv (Nv (((digs x.natAbs).length) - ((digs y.natAbs).length))) rfl ?_)
    refine n_sub (((digs x.natAbs).length) - ((digs y.natAbs).length)) 1 gn rfl rfl (by omega) (by simp only [topOf]; omega) ?_
    refine o_as (Nv ((((digs x.natAbs).length) - ((digs y.natAbs).length)) - 1)) rfl (aops_end (hK5 _ (awp_region rfl (o_mv (Nv ((digs x.natAbs).getD (((digs x.natAbs).length) - 1) 0)) rfl ?_))))
    refine n_mul ((digs x.natAbs).getD (((digs x.natAbs).length) - 1) 0) 1000000000 gn rfl rfl (by simp only [topOf]; omega) ?_
    refine o_fieldRef 1 gn f0_ rfl rfl ?_
    refine o_loadS (.sl 1 (ns .i64 (digs x.natAbs))) gn f1_ rfl rfl rfl ?_
    refine o_fieldRef 1 gn f0_ rfl rfl ?_
    refine o_loadS (.sl 1 (ns .i64 (digs x.natAbs))) gn f1_ rfl rfl rfl ?_
    refine n_len (digs x.natAbs) gn f2_ rfl ?_
    refine n_sub ((digs x.natAbs).length) 2 gn rfl rfl (by omega) (by simp only [topOf]; omega) ?_
    refine n_index (digs x.natAbs) (((digs x.natAbs).length) - 2) gn f10_ rfl rfl (by omega) ?_
    refine n_loadI (digs x.natAbs) (((digs x.natAbs).length) - 2) gn f11_ rfl (by omega) ?_
    refine n_add (((digs x.natAbs).getD (((digs x.natAbs).length) - 1) 0) * 1000000000) ((digs x.natAbs).getD (((digs x.natAbs).length) - 2) 0) gn rfl rfl (by simp only [topOf]; omega) ?_
    refine o_as (Nv ((((digs x.natAbs).getD (((digs x.natAbs).length) - 1) 0) * 1000000000) + ((digs x.natAbs).getD (((digs x.natAbs).length) - 2) 0))) rfl (aops_end ?_)
    exact ⟨_, ⟨(digs x.natAbs).length - (digs y.natAbs).length - 1, ((digs x.natAbs).getD ((digs x.natAbs).length - 1) 0) * 1000000000 + (digs x.natAbs).getD ((digs x.natAbs).length - 2) 0, (by unfold gSh; rw [if_pos (show gC x.natAbs y.natAbs from ⟨h1, by omega⟩)]), (by unfold gTop; rw [if_pos (show gC x.natAbs y.natAbs from ⟨h1, by omega⟩)]), (by omega), (by omega), trivial, rfl⟩, Wk.sub ⟨rfl, rfl, rfl, rfl, (by first | rfl | exact nm_int (by omega)), (by first | rfl | exact nm_int (by omega)), trivial⟩ ⟨rfl, rfl, rfl, trivial⟩⟩
   ·refine awp_skip ?_
    exact ⟨_, ⟨(digs x.natAbs).length - (digs y.natAbs).length, (digs x.natAbs).getD ((digs x.natAbs).length - 1) 0, (by unfold gSh; rw [if_neg (show ¬ gC x.natAbs y.natAbs from fun h => absurd h.2 (by omega))]), (by unfold gTop; rw [if_neg (show ¬ gC x.natAbs y.natAbs from fun h => absurd h.2 (by omega))]), (by omega), (by omega), trivial, rfl⟩, Wk.sub ⟨rfl, rfl, rfl, rfl, (by first | rfl | exact nm_int (by omega)), (by first | rfl | exact nm_int (by omega)), trivial⟩ ⟨rfl, rfl, rfl, trivial⟩⟩
  ·refine o_skip rfl rfl (decide_eq_false h1) (o_skip rfl rfl (decide_eq_false h1) ?_)
   refine o_pickF Fv gn rfl (decide_eq_false h1) rfl ?_
   refine aops_end (hK4 _ ?_)
   refine awp_condB (b := false) rfl (fun hh => absurd (hh.symm.trans rfl) (by decide)) (fun _ => ?_)
   refine awp_skip ?_
   exact ⟨_, ⟨(digs x.natAbs).length - (digs y.natAbs).length, (digs x.natAbs).getD ((digs x.natAbs).length - 1) 0, (by unfold gSh; rw [if_neg (show ¬ gC x.natAbs y.natAbs from fun h => absurd h.1 (by omega))]), (by unfold gTop; rw [if_neg (show ¬ gC x.natAbs y.natAbs from fun h => absurd h.1 (by omega))]), (by omega), (by omega), trivial, rfl⟩, Wk.sub ⟨rfl, rfl, rfl, rfl, (by first | rfl | exact nm_int (by omega)), (by first | rfl | exact nm_int (by omega)), trivial⟩ ⟨rfl, rfl, rfl, trivial⟩⟩
 rintro _ ⟨sh, top, hs, ht, hs2, ht2, -, rfl⟩
 have hdq := Nat.div_le_self top (((digs y.natAbs).getD ((digs y.natAbs).length - 1) 0) + 1)
 refine awp_seq fun K6 hK6 => awp_region rfl (o_mv (Nv top) rfl ?_)
 refine o_fieldRef 1 gn f0_ rfl rfl ?_
 refine o_loadS (.sl 1 (ns .i64 (digs y.natAbs))) gn f1_ rfl rfl rfl ?_
 refine o_mv (Nv ((digs y.natAbs).length)) rfl ?_
 refine n_sub ((digs y.natAbs).length) 1 gn rfl rfl (by omega) (by simp only [topOf]; omega) ?_
 refine n_index (digs y.natAbs) (((digs y.natAbs).length) - 1) gn f10_ rfl rfl (by omega) ?_
 refine n_loadI (digs y.natAbs) (((digs y.natAbs).length) - 1) gn f11_ rfl (by omega) ?_
 refine n_add ((digs y.natAbs).getD (((digs y.natAbs).length) - 1) 0) 1 gn rfl rfl (by simp only [topOf]; omega) ?_
 refine n_quo top (((digs y.natAbs).getD (((digs y.natAbs).length) - 1) 0) + 1) gn rfl rfl (by omega) (by simp only [topOf]; omega) ?_
 refine n_max (top / (((digs y.natAbs).getD (((digs y.natAbs).length) - 1) 0) + 1)) 1 gn rfl rfl (fun a c w => run_max a c w) ?_
 refine o_as (Nv (max (top / (((digs y.natAbs).getD (((digs y.natAbs).length) - 1) 0) + 1)) 1)) rfl (aops_end (hK6 _ (awp_seq fun K7 hK7 => awp_region rfl (o_mv (Nv sh) rfl ?_))))
 refine n_make 101 sh gn f10_ f26_ rfl rfl (by omega) rfl rfl ?_
 refine o_as (.row 101) rfl (aops_end (hK7 _ (awp_seq fun K8 hK8 => ?_)))
 refine awp_block ?_
 refine awp_loopR (fun κ σ => ∃ (u : Nat), ∃ (r : List Nat), (u ≤ 1000000000000000000) ∧ (r ++ digs u = List.replicate sh 0 ++ digs (max (top / (((digs y.natAbs).getD ((digs y.natAbs).length - 1) 0) + 1)) 1)) ∧ (Dig r) ∧ u = κ ∧ σ = ⟨[(2, .ref 2 0), (3, .ref 3 0), (4, .ref 4 0), (8, Nv u), (9, .row 5)], [(2, oZ 42 .i64 x), (3, oZ 42 .i64 y), (4, .var 42 [Fv, Zv]), (5, .row 3 1 (ns .i64 r))]⟩) ⟨_, _, ⟨max (top / (((digs y.natAbs).getD ((digs y.natAbs).length - 1) 0) + 1)) 1, List.replicate sh 0, (by have := Nat.div_le_self top (((digs y.natAbs).getD ((digs y.natAbs).length - 1) 0) + 1); omega), rfl, Dig.repl _, rfl, rfl⟩, ?wk1⟩ ?rd1
 case wk1 =>
  exact Wk.trans (Wk.sub (σ' := ⟨[(2, .ref 2 0), (3, .ref 3 0), (4, .ref 4 0), (8, Nv (max (top / (((digs y.natAbs).getD (((digs y.natAbs).length) - 1) 0) + 1)) 1)), (9, .row 101)], [(2, oZ 42 .i64 x), (3, oZ 42 .i64 y), (4, .var 42 [Fv, Zv]), (101, .row 3 1 (ns .i64 (List.replicate sh 0)))]⟩) ⟨rfl, rfl, rfl, rfl, rfl, trivial⟩ ⟨rfl, rfl, rfl, rfl, trivial⟩) (Wk.trans (Wk.ren (id := 101) (id' := 5) rfl) (Wk.sub ⟨rfl, rfl, rfl, (by first | rfl | exact nm_int (by omega)), (by first | rfl | simp), trivial⟩ ⟨rfl, rfl, rfl, (by first | rfl | exact row_ns (by simp)), trivial⟩))
 rintro κ _ ⟨u, r, hu, hr, hrd, rfl, rfl⟩
 have hlen := congrArg List.length hr
 simp only [List.length_append, List.length_replicate] at hlen
 have hq3 := digs_len_small (n := max (top / (((digs y.natAbs).getD ((digs y.natAbs).length - 1) 0) + 1)) 1) (by have := Nat.div_le_self top (((digs y.natAbs).getD ((digs y.natAbs).length - 1) 0) + 1); omega)
 refine awp_seq fun K9 hK9 => awp_seq fun K10 hK10 => awp_region rfl (o_mv (Nv u) rfl ?_)
 refine n_gtr u 0 gn rfl rfl ?_
 refine aops_end (hK10 _ ?_)
 refine awp_condQ (q := 0 < u) rfl (fun h3 => ?_) (fun h3 => ?_)
 ·refine awp_skip (hK9 _ ?_)
  refine awp_block ?_
  refine awp_seq fun K11 hK11 => awp_region rfl (o_mv (.row 5) rfl (o_mv (Nv u) rfl ?_))
  refine n_rem u 1000000000 gn rfl rfl (by omega) ?_
  refine o_buildSlice 201 (ns .i64 ([u % 1000000000])) [(0, [Nv (u % 1000000000)])] gn f10_ rfl f26_ rfl rfl rfl rfl rfl rfl rfl ?_
  refine n_append 202 r ([u % 1000000000]) [(201, .row 3 1 (ns .i64 ([u % 1000000000]))), (2, oZ 42 .i64 x), (3, oZ 42 .i64 y), (4, .var 42 [Fv, Zv])] gn f10_ f26_ rfl rfl rfl rfl rfl (by simp only [List.length_append, List.length_cons, List.length_nil]; omega) (by decide) rfl rfl ?_
  refine o_as (.row 202) rfl (aops_end (hK11 _ (awp_region rfl (o_mv (Nv u) rfl ?_))))
  refine n_quo u 1000000000 gn rfl rfl (by omega) (by simp only [topOf]; omega) ?_
  refine o_as (Nv (u / 1000000000)) rfl (aops_end ?_)
  refine ⟨_, _, ?lt, ⟨u / 1000000000, r ++ ([u % 1000000000]), (by omega), (app_step hr (by assumption)), (hrd.snoc (Nat.mod_lt _ (by decide))), rfl, rfl⟩, ?wk⟩
  case lt => omega
  case wk => exact Wk.trans (Wk.sub (σ' := ⟨[(2, .ref 2 0), (3, .ref 3 0), (4, .ref 4 0), (8, Nv (u / 1000000000)), (9, .row 202)], [(2, oZ 42 .i64 x), (3, oZ 42 .i64 y), (4, .var 42 [Fv, Zv]), (202, .row 3 1 (ns .i64 (r ++ ([u % 1000000000]))))]⟩) ⟨rfl, rfl, rfl, rfl, rfl, trivial⟩ ⟨rfl, rfl, rfl, rfl, trivial⟩) (Wk.trans (Wk.ren (id := 202) (id' := 5) rfl) (Wk.sub ⟨rfl, rfl, rfl, (by first | rfl | exact nm_int (by omega)), (by first | rfl | simp), trivial⟩ ⟨rfl, rfl, rfl, (by first | rfl | exact row_ns (by simp)), trivial⟩))
 ·refine awp_exit ?_
  refine hK8 _ (awp_seq fun K12 hK12 => awp_region rfl (o_mv (.row 5) rfl ?_))
  refine o_callG [(5, 1, ns .i64 r)] [Fv, .sl 1 (ns .i64 r)] _ (intR (sg false (val r))) [(2, oZ 42 .i64 x), (3, oZ 42 .i64 y), (4, .var 42 [Fv, Zv])] gn f32_ rfl ⟨⟨_, rfl⟩, trivial⟩ rfl rfl (LeL.cons (AV.le_refl _) (LeL.cons (AV.le_refl _) LeL.nil)) (c_rTrim false r (by first | assumption | exact dgn_dig _ _ | exact digs_dig _ | exact Dig.snoc (by assumption) (by assumption) | exact Dig.cons (by omega) (digs_dig _))) rfl ?_
  refine o_store [(2, oZ 42 .i64 x), (3, oZ 42 .i64 y), (4, oZ 42 .i64 (sg false (val r)))] gn f13_ rfl rfl rfl rfl rfl rfl ?_
  refine aops_end (hK12 _ ?_)
  refine awp_ret ?_
  refine post_ret ⟨[intR (sg false (val r))], ⟨⟨4, oZ 42 .i64 (sg false (val r)), rfl, rfl, rfl, Or.inl ⟨f14_, AV.le_refl _⟩⟩, trivial⟩, rfl, ?_⟩
  refine congrArg intR ?_
  rw [app_end hr (by assumption), val_guess]
  show _ = ((_ : Nat) : Int)
  unfold guessN gQ
  rw [← hs, ← ht]

theorem c_rDiv (x y : Int) (hy : 0 < y) (hx : (digs x.natAbs).length ≤ 800000000) (hyl : (digs y.natAbs).length ≤ 800000000) : ECalls cx 62 [intR x, intR y] (.tup [intR (x / y), intR (x % y)]) := by
 refine ecalls_of_awp Tryz.func62 (c := _) rfl (Nat.le_of_ble_eq_true rfl) ?_
 show awp cx 46 _ (postF cx Tryz.f62 _) ⟨[(0, intR x), (1, intR y)], []⟩
 refine awp_seq fun K0 hK0 => awp_region rfl ?_
 refine o_box 2 [bp (x < 0), .sl 1 (ns .i64 (digs x.natAbs))] gn rfl rfl ?_
 refine o_box 3 [bp (y < 0), .sl 1 (ns .i64 (digs y.natAbs))] gn rfl rfl ?_
 refine o_alloc 4 [Fv, Zv] gn f9_ rfl rfl rfl ?_
 refine o_alloc 5 [Fv, Zv] gn f9_ rfl rfl rfl ?_
 refine aops_end (hK0 _ (awp_seq fun K1 hK1 => awp_region rfl ?_))
 refine o_build [Fv, Zv] [] gn f12_ f9_ rfl rfl rfl ?_
 refine o_alloc 6 [Fv, Zv] gn f9_ rfl rfl rfl ?_
 refine o_store [(6, .var 42 [Fv, Zv]), (5, .var 42 [Fv, Zv]), (4, .var 42 [Fv, Zv]), (3, oZ 42 .i64 y), (2, oZ 42 .i64 x)] gn f13_ rfl rfl rfl rfl rfl rfl ?_
 refine aops_end (hK1 _ (awp_seq fun K2 hK2 => awp_region rfl ?_))
 refine o_fieldRef 1 gn f0_ rfl rfl ?_
 refine o_loadS (.sl 1 (ns .i64 (digs x.natAbs))) gn f1_ rfl rfl rfl ?_
 refine o_build [Fv, .sl 1 (ns .i64 (digs x.natAbs))] [(1, [.sl 1 (ns .i64 (digs x.natAbs))])] gn f12_ f9_ rfl rfl rfl ?_
 refine n_as (v' := (intR ((x.natAbs : Nat) : Int))) (by exact absR x) ?_
 refine o_alloc 7 [Fv, Zv] gn f9_ rfl rfl rfl ?_
 refine o_store [(7, (oZ 42 .i64 ((x.natAbs : Nat) : Int))), (6, .var 42 [Fv, Zv]), (5, .var 42 [Fv, Zv]), (4, .var 42 [Fv, Zv]), (3, oZ 42 .i64 y), (2, oZ 42 .i64 x)] gn f13_ rfl rfl rfl rfl rfl rfl ?_
 refine aops_end (hK2 _ (awp_seq fun K3 hK3 => ?_))
 refine awp_block ?_
 refine awp_wk (Wk.cells (i := 6) (cs' := [bp (((0 : Nat) : Int) < 0), AV.sl 1 (ns .i64 (digs ((0 : Nat) : Int).natAbs))]) rfl (LeL.cons (AV.le_eq (bl_bp (b := false) (by simp))) (LeL.cons (AV.le_nil' (by decide) (by simp [digs_zero, ns])) LeL.nil))) ?_
 refine awp_loopR (fun κ σ => ∃ (q : Nat), ∃ (r : Nat), (x.natAbs = q * y.natAbs + r) ∧ r = κ ∧ σ = ⟨[(2, .ref 2 0), (3, .ref 3 0), (4, .ref 4 0), (5, .ref 5 0), (6, .ref 6 0), (7, .ref 7 0)], [(2, oZ 42 .i64 x), (3, oZ 42 .i64 y), (4, .var 42 [Fv, Zv]), (5, .var 42 [Fv, Zv]), (6, (oZ 42 .i64 ((q : Nat) : Int))), (7, (oZ 42 .i64 ((r : Nat) : Int)))]⟩) ⟨_, _, ⟨0, x.natAbs, (by omega), rfl, rfl⟩, ?wk0⟩ ?rd0
 case wk0 =>
  exact Wk.sub ⟨rfl, rfl, rfl, rfl, rfl, rfl, trivial⟩ ⟨rfl, rfl, rfl, rfl, rfl, rfl, trivial⟩
 rintro κ _ ⟨q, r, hv, rfl, rfl⟩
 have hrx : r ≤ x.natAbs := by omega
 have hqx : q ≤ x.natAbs := by have := Nat.le_mul_of_pos_right q (show 0 < y.natAbs by omega); omega
 have hrl := digs_len_le hrx
 have hql := digs_len_le hqx
 have hrl2 : (digs ((r : Nat) : Int).natAbs).length ≤ 800000000 := Nat.le_trans hrl hx
 have hql2 : (digs ((q : Nat) : Int).natAbs).length ≤ 800000000 := Nat.le_trans hql hx
 have ho := len_one
 have hq1 := len_addZ ((q : Nat) : Int) 1
 have hcz := cmpZ_nn (r := r) hy
 refine awp_seq fun K4 hK4 => awp_seq fun K5 hK5 => awp_region rfl ?_
 refine o_loadA [(bp (((r : Nat) : Int) < 0)), (.sl 1 (ns .i64 (digs ((r : Nat) : Int).natAbs)))] gn f14_ rfl rfl rfl rfl rfl ?_
 refine o_loadA [bp (y < 0), .sl 1 (ns .i64 (digs y.natAbs))] gn f14_ rfl rfl rfl rfl rfl ?_
 refine o_ct (c_rCmp ((r : Nat) : Int) y) gn f108_ rfl ?_
 refine o_geq (a := (cmpZ ((r : Nat) : Int) y)) (c := ((0 : Nat) : Int)) gn rfl rfl ?_
 refine aops_end (hK5 _ ?_)
 refine awp_condQ (q := ((0 : Nat) : Int) ≤ (cmpZ ((r : Nat) : Int) y)) rfl (fun h1 => ?_) (fun h1 => ?_)
 ·have hyr := hcz.1 h1
  have hg := guess_le (show 0 < y.natAbs by omega) hyr
  have hgr : guessN r y.natAbs ≤ r := by have := Nat.le_mul_of_pos_right (guessN r y.natAbs) (show 0 < y.natAbs by omega); omega
  have hgl := digs_len_le hgr
  have hgl2 : (digs ((guessN r y.natAbs : Nat) : Int).natAbs).length ≤ 800000000 := Nat.le_trans hgl hrl2
  have hml : (digs (((guessN r y.natAbs : Nat) : Int) * y).natAbs).length ≤ 800000000 := Nat.le_trans (len_gy hg.2) hrl2
  refine awp_skip (hK4 _ ?_)
  refine awp_block ?_
  refine awp_seq fun K6 hK6 => awp_region rfl ?_
  refine o_loadA [(bp (((r : Nat) : Int) < 0)), (.sl 1 (ns .i64 (digs ((r : Nat) : Int).natAbs)))] gn f14_ rfl rfl rfl rfl rfl ?_
  refine o_loadA [bp (y < 0), .sl 1 (ns .i64 (digs y.natAbs))] gn f14_ rfl rfl rfl rfl rfl ?_
  refine o_ct (c_rGuess ((r : Nat) : Int) y (by omega) (by omega) (by first | omega | assumption | (simp only [Int.natAbs_neg]; omega))) gn f109_ rfl ?_
  refine n_as (v' := (intR ((guessN r y.natAbs : Nat) : Int))) (by rfl) ?_
  refine o_alloc 101 [Fv, Zv] gn f9_ rfl rfl rfl ?_
  refine o_store [(101, (oZ 42 .i64 ((guessN r y.natAbs : Nat) : Int))), (2, oZ 42 .i64 x), (3, oZ 42 .i64 y), (4, .var 42 [Fv, Zv]), (5, .var 42 [Fv, Zv]), (6, (oZ 42 .i64 ((q : Nat) : Int))), (7, (oZ 42 .i64 ((r : Nat) : Int)))] gn f13_ rfl rfl rfl rfl rfl rfl ?_
  refine aops_end (hK6 _ (awp_seq fun K7 hK7 => awp_region rfl ?_))
  refine o_loadA [(bp (((q : Nat) : Int) < 0)), (.sl 1 (ns .i64 (digs ((q : Nat) : Int).natAbs)))] gn f14_ rfl rfl rfl rfl rfl ?_
  refine o_loadA [(bp (((guessN r y.natAbs : Nat) : Int) < 0)), (.sl 1 (ns .i64 (digs ((guessN r y.natAbs : Nat) : Int).natAbs)))] gn f14_ rfl rfl rfl rfl rfl ?_
  refine o_ct (c_rAdd ((q : Nat) : Int) ((guessN r y.natAbs : Nat) : Int) (by first | omega | assumption | (simp only [Int.natAbs_neg]; omega)) (by first | omega | assumption | (simp only [Int.natAbs_neg]; omega))) gn f38_ rfl ?_
  refine n_as (v' := (intR ((q + guessN r y.natAbs : Nat) : Int))) (by exact congrArg intR (Int.natCast_add _ _).symm) ?_
  refine o_store [(101, (oZ 42 .i64 ((guessN r y.natAbs : Nat) : Int))), (2, oZ 42 .i64 x), (3, oZ 42 .i64 y), (4, .var 42 [Fv, Zv]), (5, .var 42 [Fv, Zv]), (6, (oZ 42 .i64 ((q + guessN r y.natAbs : Nat) : Int))), (7, (oZ 42 .i64 ((r : Nat) : Int)))] gn f13_ rfl rfl rfl rfl rfl rfl ?_
  refine aops_end (hK7 _ (awp_regionD rfl ?_))
  refine o_loadA [(bp (((r : Nat) : Int) < 0)), (.sl 1 (ns .i64 (digs ((r : Nat) : Int).natAbs)))] gn f14_ rfl rfl rfl rfl rfl ?_
  refine o_loadA [(bp (((guessN r y.natAbs : Nat) : Int) < 0)), (.sl 1 (ns .i64 (digs ((guessN r y.natAbs : Nat) : Int).natAbs)))] gn f14_ rfl rfl rfl rfl rfl ?_
  refine o_loadA [bp (y < 0), .sl 1 (ns .i64 (digs y.natAbs))] gn f14_ rfl rfl rfl rfl rfl ?_
  refine o_ct (c_rMul ((guessN r y.natAbs : Nat) : Int) y (by first | omega | assumption | (simp only [Int.natAbs_neg]; omega)) (by first | omega | assumption | (simp only [Int.natAbs_neg]; omega))) gn f65_ rfl ?_
  refine o_ct (c_rSub ((r : Nat) : Int) (((guessN r y.natAbs : Nat) : Int) * y) (by first | omega | assumption | (simp only [Int.natAbs_neg]; omega)) (by first | omega | assumption | (simp only [Int.natAbs_neg]; omega))) gn f110_ rfl ?_
  refine n_as (v' := (intR ((r - guessN r y.natAbs * y.natAbs : Nat) : Int))) (by exact congrArg intR (sub_cast hg.2 hy)) ?_
  refine o_store [(101, (oZ 42 .i64 ((guessN r y.natAbs : Nat) : Int))), (2, oZ 42 .i64 x), (3, oZ 42 .i64 y), (4, .var 42 [Fv, Zv]), (5, .var 42 [Fv, Zv]), (6, (oZ 42 .i64 ((q + guessN r y.natAbs : Nat) : Int))), (7, (oZ 42 .i64 ((r - guessN r y.natAbs * y.natAbs : Nat) : Int)))] gn f13_ rfl rfl rfl rfl rfl rfl ?_
  refine aops_end ⟨by kernel_rfl, ?_⟩
  refine ⟨_, _, ?lt, ⟨q + guessN r y.natAbs, r - guessN r y.natAbs * y.natAbs, div_inv hv hg.2, rfl, rfl⟩, ?wk⟩
  case lt => (have := Nat.mul_le_mul_right y.natAbs hg.1; omega)
  case wk => exact Wk.sub ⟨rfl, rfl, rfl, rfl, rfl, rfl, trivial⟩ ⟨rfl, rfl, rfl, rfl, rfl, rfl, trivial⟩
 ·have hry : r < y.natAbs := Nat.not_le.1 fun h => h1 (hcz.2 h)
  have hE := div_fin hv hry
  have hyy : ((y.natAbs : Nat) : Int) = y := by omega
  refine awp_exit ?_
  refine hK3 _ (awp_seq fun K8 hK8 => awp_seq fun K9 hK9 => awp_region rfl ?_)
  refine o_fieldRef 0 gn f3_ rfl rfl ?_
  refine o_loadS (bp (x < 0)) gn f4_ rfl rfl rfl ?_
  refine o_notP (q := x < 0) gn rfl ?_
  refine aops_end (hK9 _ ?_)
  refine awp_condQ (q := ¬ (x < 0)) rfl (fun h2 => ?_) (fun h2 => ?_)
  ·refine awp_seq fun K10 hK10 => awp_regionD rfl ?_
   refine o_loadA [(bp (((q : Nat) : Int) < 0)), (.sl 1 (ns .i64 (digs ((q : Nat) : Int).natAbs)))] gn f14_ rfl rfl rfl rfl rfl ?_
   refine o_loadA [(bp (((r : Nat) : Int) < 0)), (.sl 1 (ns .i64 (digs ((r : Nat) : Int).natAbs)))] gn f14_ rfl rfl rfl rfl rfl ?_
   refine o_store [(2, oZ 42 .i64 x), (3, oZ 42 .i64 y), (4, (oZ 42 .i64 ((q : Nat) : Int))), (5, .var 42 [Fv, Zv]), (6, (oZ 42 .i64 ((q : Nat) : Int))), (7, (oZ 42 .i64 ((r : Nat) : Int)))] gn f13_ rfl rfl rfl rfl rfl rfl ?_
   refine o_store [(2, oZ 42 .i64 x), (3, oZ 42 .i64 y), (4, (oZ 42 .i64 ((q : Nat) : Int))), (5, (oZ 42 .i64 ((r : Nat) : Int))), (6, (oZ 42 .i64 ((q : Nat) : Int))), (7, (oZ 42 .i64 ((r : Nat) : Int)))] gn f13_ rfl rfl rfl rfl rfl rfl ?_
   refine aops_end ⟨by kernel_rfl, ?_⟩
   refine hK10 _ ?_
   refine awp_ret ?_
   refine post_ret ⟨[(intR ((q : Nat) : Int)), (intR ((r : Nat) : Int))], ⟨⟨4, (oZ 42 .i64 ((q : Nat) : Int)), rfl, rfl, rfl, Or.inl ⟨f14_, AV.le_refl _⟩⟩, ⟨5, (oZ 42 .i64 ((r : Nat) : Int)), rfl, rfl, rfl, Or.inl ⟨f14_, AV.le_refl _⟩⟩, trivial⟩, rfl, ?_⟩
   have e := part1 (d := y.natAbs) h2 (by omega) hE.1 hE.2
   rw [hyy] at e
   exact tup_eq2 (congrArg intR e.1) (congrArg intR e.2)
  ·refine awp_skip (hK8 _ (awp_seq fun K11 hK11 => awp_seq fun K12 hK12 => awp_region rfl ?_))
   refine o_loadA [(bp (((r : Nat) : Int) < 0)), (.sl 1 (ns .i64 (digs ((r : Nat) : Int).natAbs)))] gn f14_ rfl rfl rfl rfl rfl ?_
   refine o_ct (c_rSign ((r : Nat) : Int)) gn f21_ rfl ?_
   refine o_eql (a := (sgn ((r : Nat) : Int))) (c := ((0 : Nat) : Int)) gn rfl rfl ?_
   refine aops_end (hK12 _ ?_)
   refine awp_condQ (q := (sgn ((r : Nat) : Int)) = ((0 : Nat) : Int)) rfl (fun h3 => ?_) (fun h3 => ?_)
   ·refine awp_seq fun K13 hK13 => awp_regionD rfl ?_
    refine o_loadA [(bp (((q : Nat) : Int) < 0)), (.sl 1 (ns .i64 (digs ((q : Nat) : Int).natAbs)))] gn f14_ rfl rfl rfl rfl rfl ?_
    refine o_ct (c_rMinus ((q : Nat) : Int)) gn f37_ rfl ?_
    refine o_loadA [(bp (((r : Nat) : Int) < 0)), (.sl 1 (ns .i64 (digs ((r : Nat) : Int).natAbs)))] gn f14_ rfl rfl rfl rfl rfl ?_
    refine o_store [(2, oZ 42 .i64 x), (3, oZ 42 .i64 y), (4, (oZ 42 .i64 (-((q : Nat) : Int)))), (5, .var 42 [Fv, Zv]), (6, (oZ 42 .i64 ((q : Nat) : Int))), (7, (oZ 42 .i64 ((r : Nat) : Int)))] gn f13_ rfl rfl rfl rfl rfl rfl ?_
    refine o_store [(2, oZ 42 .i64 x), (3, oZ 42 .i64 y), (4, (oZ 42 .i64 (-((q : Nat) : Int)))), (5, (oZ 42 .i64 ((r : Nat) : Int))), (6, (oZ 42 .i64 ((q : Nat) : Int))), (7, (oZ 42 .i64 ((r : Nat) : Int)))] gn f13_ rfl rfl rfl rfl rfl rfl ?_
    refine aops_end ⟨by kernel_rfl, ?_⟩
    refine hK13 _ ?_
    refine awp_ret ?_
    refine post_ret ⟨[(intR (-((q : Nat) : Int))), (intR ((r : Nat) : Int))], ⟨⟨4, (oZ 42 .i64 (-((q : Nat) : Int))), rfl, rfl, rfl, Or.inl ⟨f14_, AV.le_refl _⟩⟩, ⟨5, (oZ 42 .i64 ((r : Nat) : Int)), rfl, rfl, rfl, Or.inl ⟨f14_, AV.le_refl _⟩⟩, trivial⟩, rfl, ?_⟩
    have e := part2 (d := y.natAbs) (Decidable.not_not.1 h2) (by omega) hE.1 hE.2 (sgn_zero.1 h3)
    rw [hyy] at e
    exact tup_eq2 (congrArg intR e.1) (congrArg intR (e.2.trans (by rw [sgn_zero.1 h3]; rfl)))
   ·refine awp_skip (hK11 _ (awp_seq fun K14 hK14 => awp_regionD rfl ?_))
    refine o_loadA [(bp (((q : Nat) : Int) < 0)), (.sl 1 (ns .i64 (digs ((q : Nat) : Int).natAbs)))] gn f14_ rfl rfl rfl rfl rfl ?_
    refine o_ct (c_rOf (1 : Int) (by first | decide | omega) (by first | decide | omega)) gn f45_ rfl ?_
    refine o_ct (c_rAdd ((q : Nat) : Int) (1 : Int) (by first | omega | assumption | (simp only [Int.natAbs_neg]; omega)) (by first | omega | assumption | (simp only [Int.natAbs_neg]; omega))) gn f38_ rfl ?_
    refine o_ct (c_rMinus (((q : Nat) : Int) + (1 : Int))) gn f37_ rfl ?_
    refine o_loadA [bp (y < 0), .sl 1 (ns .i64 (digs y.natAbs))] gn f14_ rfl rfl rfl rfl rfl ?_
    refine o_loadA [(bp (((r : Nat) : Int) < 0)), (.sl 1 (ns .i64 (digs ((r : Nat) : Int).natAbs)))] gn f14_ rfl rfl rfl rfl rfl ?_
    refine o_ct (c_rSub y ((r : Nat) : Int) (by first | omega | assumption | (simp only [Int.natAbs_neg]; omega)) (by first | omega | assumption | (simp only [Int.natAbs_neg]; omega))) gn f110_ rfl ?_
    refine o_store [(2, oZ 42 .i64 x), (3, oZ 42 .i64 y), (4, (oZ 42 .i64 (-(((q : Nat) : Int) + (1 : Int))))), (5, .var 42 [Fv, Zv]), (6, (oZ 42 .i64 ((q : Nat) : Int))), (7, (oZ 42 .i64 ((r : Nat) : Int)))] gn f13_ rfl rfl rfl rfl rfl rfl ?_
    refine o_store [(2, oZ 42 .i64 x), (3, oZ 42 .i64 y), (4, (oZ 42 .i64 (-(((q : Nat) : Int) + (1 : Int))))), (5, (oZ 42 .i64 (y - ((r : Nat) : Int)))), (6, (oZ 42 .i64 ((q : Nat) : Int))), (7, (oZ 42 .i64 ((r : Nat) : Int)))] gn f13_ rfl rfl rfl rfl rfl rfl ?_
    refine aops_end ⟨by kernel_rfl, ?_⟩
    refine hK14 _ ?_
    refine awp_ret ?_
    refine post_ret ⟨[(intR (-(((q : Nat) : Int) + (1 : Int)))), (intR (y - ((r : Nat) : Int)))], ⟨⟨4, (oZ 42 .i64 (-(((q : Nat) : Int) + (1 : Int)))), rfl, rfl, rfl, Or.inl ⟨f14_, AV.le_refl _⟩⟩, ⟨5, (oZ 42 .i64 (y - ((r : Nat) : Int))), rfl, rfl, rfl, Or.inl ⟨f14_, AV.le_refl _⟩⟩, trivial⟩, rfl, ?_⟩
    have e := part3 (d := y.natAbs) (Decidable.not_not.1 h2) (by omega) hE.1 hE.2 (fun e => h3 (sgn_zero.2 e))
    rw [hyy] at e
    exact tup_eq2 (congrArg intR (e.1.trans (by omega))) (congrArg intR e.2)

theorem c_rGcd (x y : Int) (hx : (digs x.natAbs).length ≤ 800000000) (hyl : (digs y.natAbs).length ≤ 800000000) : ECalls cx 22 [intR x, intR y] (intR ((Int.gcd x y : Nat) : Int)) := by
 refine ecalls_of_awp Tryz.func22 (c := _) rfl (Nat.le_of_ble_eq_true rfl) ?_
 show awp cx 25 _ (postF cx Tryz.f22 _) ⟨[(0, intR x), (1, intR y)], []⟩
 refine awp_seq fun K0 hK0 => awp_region rfl ?_
 refine o_box 2 [bp (x < 0), .sl 1 (ns .i64 (digs x.natAbs))] gn rfl rfl ?_
 refine o_box 3 [bp (y < 0), .sl 1 (ns .i64 (digs y.natAbs))] gn rfl rfl ?_
 refine o_alloc 4 [Fv, Zv] gn f9_ rfl rfl rfl ?_
 refine aops_end (hK0 _ (awp_seq fun K1 hK1 => awp_regionD rfl ?_))
 refine o_fieldRef 1 gn f0_ rfl rfl ?_
 refine o_loadS (.sl 1 (ns .i64 (digs x.natAbs))) gn f1_ rfl rfl rfl ?_
 refine o_build [Fv, .sl 1 (ns .i64 (digs x.natAbs))] [(1, [.sl 1 (ns .i64 (digs x.natAbs))])] gn f12_ f9_ rfl rfl rfl ?_
 refine n_as (v' := (intR ((x.natAbs : Nat) : Int))) (by exact absR x) ?_
 refine o_fieldRef 1 gn f0_ rfl rfl ?_
 refine o_loadS (.sl 1 (ns .i64 (digs y.natAbs))) gn f1_ rfl rfl rfl ?_
 refine o_build [Fv, .sl 1 (ns .i64 (digs y.natAbs))] [(1, [.sl 1 (ns .i64 (digs y.natAbs))])] gn f12_ f9_ rfl rfl rfl ?_
 refine n_as (v' := (intR ((y.natAbs : Nat) : Int))) (by exact absR y) ?_
 refine o_store [(4, .var 42 [Fv, Zv]), (3, oZ 42 .i64 y), (2, (oZ 42 .i64 ((x.natAbs : Nat) : Int)))] gn f13_ rfl rfl rfl rfl rfl rfl ?_
 refine o_store [(4, .var 42 [Fv, Zv]), (3, (oZ 42 .i64 ((y.natAbs : Nat) : Int))), (2, (oZ 42 .i64 ((x.natAbs : Nat) : Int)))] gn f13_ rfl rfl rfl rfl rfl rfl ?_
 refine aops_end ⟨by kernel_rfl, ?_⟩
 refine hK1 _ (awp_seq fun K2 hK2 => ?_)
 refine awp_block ?_
 refine awp_loopR (fun κ σ => ∃ (u : Nat), ∃ (v : Nat), (Nat.gcd u v = Int.gcd x y) ∧ ((digs u).length ≤ 800000000) ∧ ((digs v).length ≤ 800000000) ∧ v = κ ∧ σ = ⟨[(2, .ref 2 0), (3, .ref 3 0), (4, .ref 4 0)], [(2, (oZ 42 .i64 ((u : Nat) : Int))), (3, (oZ 42 .i64 ((v : Nat) : Int))), (4, .var 42 [Fv, Zv])]⟩) ⟨_, _, ⟨x.natAbs, y.natAbs, rfl, hx, hyl, rfl, rfl⟩, ?wk0⟩ ?rd0
 case wk0 =>
  exact Wk.sub ⟨rfl, rfl, rfl, trivial⟩ ⟨rfl, rfl, rfl, trivial⟩
 rintro κ _ ⟨u, v, hg, hu, hv, rfl, rfl⟩
 have hu2 : (digs ((u : Nat) : Int).natAbs).length ≤ 800000000 := hu
 have hv2 : (digs ((v : Nat) : Int).natAbs).length ≤ 800000000 := hv
 refine awp_seq fun K3 hK3 => awp_seq fun K4 hK4 => awp_region rfl ?_
 refine o_loadA [(bp (((v : Nat) : Int) < 0)), (.sl 1 (ns .i64 (digs ((v : Nat) : Int).natAbs)))] gn f14_ rfl rfl rfl rfl rfl ?_
 refine o_ct (c_rSign ((v : Nat) : Int)) gn f21_ rfl ?_
 refine o_neq (a := (sgn ((v : Nat) : Int))) (c := ((0 : Nat) : Int)) gn rfl rfl ?_
 refine aops_end (hK4 _ ?_)
 refine awp_condQ (q := (sgn ((v : Nat) : Int)) ≠ ((0 : Nat) : Int)) rfl (fun h1 => ?_) (fun h1 => ?_)
 ·have hv0 : 0 < v := Nat.pos_of_ne_zero fun e => h1 (sgn_zero.2 e)
  refine awp_skip (hK3 _ ?_)
  refine awp_block ?_
  refine awp_seq fun K5 hK5 => awp_region rfl ?_
  refine o_loadA [(bp (((u : Nat) : Int) < 0)), (.sl 1 (ns .i64 (digs ((u : Nat) : Int).natAbs)))] gn f14_ rfl rfl rfl rfl rfl ?_
  refine o_loadA [(bp (((v : Nat) : Int) < 0)), (.sl 1 (ns .i64 (digs ((v : Nat) : Int).natAbs)))] gn f14_ rfl rfl rfl rfl rfl ?_
  refine o_ct (c_rDiv ((u : Nat) : Int) ((v : Nat) : Int) (by omega) (by omega) (by omega)) gn f111_ rfl ?_
  refine o_mv (.tup [(intR (((u : Nat) : Int) / ((v : Nat) : Int))), (intR (((u : Nat) : Int) % ((v : Nat) : Int)))]) rfl (o_extract (intR (((u : Nat) : Int) / ((v : Nat) : Int))) gn rfl rfl (o_extract (intR (((u : Nat) : Int) % ((v : Nat) : Int))) gn rfl rfl ?_))
  refine n_as (v' := (intR ((u % v : Nat) : Int))) (by exact congrArg intR (Int.natCast_emod u v).symm) ?_
  refine o_alloc 101 [Fv, Zv] gn f9_ rfl rfl rfl ?_
  refine o_alloc 102 [Fv, Zv] gn f9_ rfl rfl rfl ?_
  refine o_store [(102, .var 42 [Fv, Zv]), (101, (oZ 42 .i64 (((u : Nat) : Int) / ((v : Nat) : Int)))), (2, (oZ 42 .i64 ((u : Nat) : Int))), (3, (oZ 42 .i64 ((v : Nat) : Int))), (4, .var 42 [Fv, Zv])] gn f13_ rfl rfl rfl rfl rfl rfl ?_
  refine o_store [(102, (oZ 42 .i64 ((u % v : Nat) : Int))), (101, (oZ 42 .i64 (((u : Nat) : Int) / ((v : Nat) : Int)))), (2, (oZ 42 .i64 ((u : Nat) : Int))), (3, (oZ 42 .i64 ((v : Nat) : Int))), (4, .var 42 [Fv, Zv])] gn f13_ rfl rfl rfl rfl rfl rfl ?_
  refine aops_end (hK5 _ (awp_regionD rfl ?_))
  refine o_loadA [(bp (((v : Nat) : Int) < 0)), (.sl 1 (ns .i64 (digs ((v : Nat) : Int).natAbs)))] gn f14_ rfl rfl rfl rfl rfl ?_
  refine o_loadA [(bp (((u % v : Nat) : Int) < 0)), (.sl 1 (ns .i64 (digs ((u % v : Nat) : Int).natAbs)))] gn f14_ rfl rfl rfl rfl rfl ?_
  refine o_store [(102, (oZ 42 .i64 ((u % v : Nat) : Int))), (101, (oZ 42 .i64 (((u : Nat) : Int) / ((v : Nat) : Int)))), (2, (oZ 42 .i64 ((v : Nat) : Int))), (3, (oZ 42 .i64 ((v : Nat) : Int))), (4, .var 42 [Fv, Zv])] gn f13_ rfl rfl rfl rfl rfl rfl ?_
  refine o_store [(102, (oZ 42 .i64 ((u % v : Nat) : Int))), (101, (oZ 42 .i64 (((u : Nat) : Int) / ((v : Nat) : Int)))), (2, (oZ 42 .i64 ((v : Nat) : Int))), (3, (oZ 42 .i64 ((u % v : Nat) : Int))), (4, .var 42 [Fv, Zv])] gn f13_ rfl rfl rfl rfl rfl rfl ?_
  refine aops_end ⟨by kernel_rfl, ?_⟩
  refine ⟨_, _, ?lt, ⟨v, u % v, gcd_next hg, hv, Nat.le_trans (digs_len_mod u hv0) hv, rfl, rfl⟩, ?wk⟩
  case lt => exact Nat.mod_lt u hv0
  case wk => exact Wk.sub ⟨rfl, rfl, rfl, trivial⟩ ⟨rfl, rfl, rfl, trivial⟩
 ·have hvz : v = 0 := sgn_zero.1 (Decidable.not_not.1 h1)
  refine awp_exit ?_
  refine hK2 _ (awp_seq fun K6 hK6 => awp_region rfl ?_)
  refine o_loadA [(bp (((u : Nat) : Int) < 0)), (.sl 1 (ns .i64 (digs ((u : Nat) : Int).natAbs)))] gn f14_ rfl rfl rfl rfl rfl ?_
  refine o_store [(2, (oZ 42 .i64 ((u : Nat) : Int))), (3, (oZ 42 .i64 ((v : Nat) : Int))), (4, (oZ 42 .i64 ((u : Nat) : Int)))] gn f13_ rfl rfl rfl rfl rfl rfl ?_
  refine aops_end (hK6 _ ?_)
  refine awp_ret ?_
  refine post_ret ⟨[(intR ((u : Nat) : Int))], ⟨⟨4, (oZ 42 .i64 ((u : Nat) : Int)), rfl, rfl, rfl, Or.inl ⟨f14_, AV.le_refl _⟩⟩, trivial⟩, rfl, ?_⟩
  exact congrArg intR (congrArg Int.ofNat (gcd_end hg hvz))

end Go.Proofs.YtdmkejloknejdaaGreatDoor

namespace Go.Proofs.YtdmkejloknejdaaGreatDoor
open Go Go.Ab Go.Mth
end Go.Proofs.YtdmkejloknejdaaGreatDoor

namespace Go.Proofs.YtdmkejloknejdaaGreatDoor
open Go Go.Ab Go.Mth
theorem f112_ : tyZero cx.P 50 = some [Go.Value.bool false, Go.Value.slice none 0 0, Go.Value.bool false, Go.Value.slice none 0 0] := by kernel_rfl
theorem f113_ : callable cx.P 22 = true := by kernel_rfl
theorem f114_ : tyPlaces cx.P 50 = some (fun i => (#[(0, 2), (2, 2)] : Array (Nat × Nat))[i]?) := by kernel_rfl
theorem f115_ : tySize cx.P 50 = some 4 := by kernel_rfl
theorem f116_ : tyAgg cx.P 50 = some 4 := by kernel_rfl
theorem f117_ : tyField cx.P 50 0 = some (0, 42) := by kernel_rfl
theorem f118_ : callable cx.P 17 = true := by kernel_rfl
theorem f119_ : tyField cx.P 50 1 = some (2, 42) := by kernel_rfl
theorem f120_ : callable cx.P 40 = true := by kernel_rfl
theorem f121_ : callable cx.P 78 = true := by kernel_rfl
theorem c_zRed (n d : Int) (hd : d ≠ 0) (h1 : (digs n.natAbs).length ≤ 1000000) (h2 : (digs d.natAbs).length ≤ 1000000) : ECalls cx 78 [intR n, intR d] (frR (redZ n d)) := by
 refine ecalls_of_awp Tryz.func78 (c := _) rfl (Nat.le_of_ble_eq_true rfl) ?_
 show awp cx 35 _ (postF cx Tryz.f78 _) ⟨[(0, intR n), (1, intR d)], []⟩
 have g1 := gcd_pos (n := n) hd
 have g2 := gcd_pos (n := -n) (d := -d) (by omega)
 have g3 := gcd_len (n := n) hd
 have g4 := gcd_len (n := -n) (d := -d) (by omega)
 have g5 : (digs ((-n).natAbs)).length ≤ 1000000 := by rw [Int.natAbs_neg]; exact h1
 have g6 : (digs ((-d).natAbs)).length ≤ 1000000 := by rw [Int.natAbs_neg]; exact h2
 refine awp_seq fun K0 hK0 => awp_region rfl ?_
 refine o_box 2 [bp (n < 0), .sl 1 (ns .i64 (digs n.natAbs))] gn rfl rfl ?_
 refine o_box 3 [bp (d < 0), .sl 1 (ns .i64 (digs d.natAbs))] gn rfl rfl ?_
 refine o_alloc 4 [Fv, Zv, Fv, Zv] gn f112_ rfl rfl rfl ?_
 refine aops_end (hK0 _ (awp_seq fun K1 hK1 => awp_seq fun K2 hK2 => awp_region rfl ?_))
 refine o_loadA [bp (d < 0), .sl 1 (ns .i64 (digs d.natAbs))] gn f14_ rfl rfl rfl rfl rfl ?_
 refine o_ct (c_rSign d) gn f21_ rfl ?_
 refine o_lss (a := (sgn d)) (c := ((0 : Nat) : Int)) gn rfl rfl ?_
 refine aops_end (hK2 _ ?_)
 refine awp_condQ (q := (sgn d) < ((0 : Nat) : Int)) rfl (fun h1 => ?_) (fun h1 => ?_)
 ·refine awp_regionD rfl ?_
  refine o_loadA [bp (n < 0), .sl 1 (ns .i64 (digs n.natAbs))] gn f14_ rfl rfl rfl rfl rfl ?_
  refine o_ct (c_rMinus n) gn f37_ rfl ?_
  refine o_loadA [bp (d < 0), .sl 1 (ns .i64 (digs d.natAbs))] gn f14_ rfl rfl rfl rfl rfl ?_
  refine o_ct (c_rMinus d) gn f37_ rfl ?_
  refine o_store [(4, .var 50 [Fv, Zv, Fv, Zv]), (3, oZ 42 .i64 d), (2, oZ 42 .i64 (-n))] gn f13_ rfl rfl rfl rfl rfl rfl ?_
  refine o_store [(4, .var 50 [Fv, Zv, Fv, Zv]), (3, oZ 42 .i64 (-d)), (2, oZ 42 .i64 (-n))] gn f13_ rfl rfl rfl rfl rfl rfl ?_
  refine aops_end ⟨by kernel_rfl, ?_⟩
  refine hK1 _ (awp_seq fun K3 hK3 => awp_region rfl ?_)
  refine o_loadA [bp ((-n) < 0), .sl 1 (ns .i64 (digs (-n).natAbs))] gn f14_ rfl rfl rfl rfl rfl ?_
  refine o_loadA [bp ((-d) < 0), .sl 1 (ns .i64 (digs (-d).natAbs))] gn f14_ rfl rfl rfl rfl rfl ?_
  refine o_ct (c_rGcd (-n) (-d) (by omega) (by omega)) gn f113_ rfl ?_
  refine o_alloc 5 [Fv, Zv] gn f9_ rfl rfl rfl ?_
  refine o_store [(5, (oZ 42 .i64 ((Int.gcd (-n) (-d) : Nat) : Int))), (4, .var 50 [Fv, Zv, Fv, Zv]), (3, oZ 42 .i64 (-d)), (2, oZ 42 .i64 (-n))] gn f13_ rfl rfl rfl rfl rfl rfl ?_
  refine aops_end (hK3 _ (awp_seq fun K4 hK4 => awp_region rfl ?_))
  refine o_loadA [bp ((-n) < 0), .sl 1 (ns .i64 (digs (-n).natAbs))] gn f14_ rfl rfl rfl rfl rfl ?_
  refine o_loadA [(bp (((Int.gcd (-n) (-d) : Nat) : Int) < 0)), (.sl 1 (ns .i64 (digs ((Int.gcd (-n) (-d) : Nat) : Int).natAbs)))] gn f14_ rfl rfl rfl rfl rfl ?_
  refine o_ct (c_rDiv (-n) ((Int.gcd (-n) (-d) : Nat) : Int) (by omega) (by omega) (by omega)) gn f111_ rfl ?_
  refine o_mv (.tup [(intR ((-n) / ((Int.gcd (-n) (-d) : Nat) : Int))), (intR ((-n) % ((Int.gcd (-n) (-d) : Nat) : Int)))]) rfl (o_extract (intR ((-n) / ((Int.gcd (-n) (-d) : Nat) : Int))) gn rfl rfl (o_extract (intR ((-n) % ((Int.gcd (-n) (-d) : Nat) : Int))) gn rfl rfl ?_))
  refine o_alloc 6 [Fv, Zv] gn f9_ rfl rfl rfl ?_
  refine o_alloc 7 [Fv, Zv] gn f9_ rfl rfl rfl ?_
  refine o_store [(7, .var 42 [Fv, Zv]), (6, (oZ 42 .i64 ((-n) / ((Int.gcd (-n) (-d) : Nat) : Int)))), (5, (oZ 42 .i64 ((Int.gcd (-n) (-d) : Nat) : Int))), (4, .var 50 [Fv, Zv, Fv, Zv]), (3, oZ 42 .i64 (-d)), (2, oZ 42 .i64 (-n))] gn f13_ rfl rfl rfl rfl rfl rfl ?_
  refine o_store [(7, (oZ 42 .i64 ((-n) % ((Int.gcd (-n) (-d) : Nat) : Int)))), (6, (oZ 42 .i64 ((-n) / ((Int.gcd (-n) (-d) : Nat) : Int)))), (5, (oZ 42 .i64 ((Int.gcd (-n) (-d) : Nat) : Int))), (4, .var 50 [Fv, Zv, Fv, Zv]), (3, oZ 42 .i64 (-d)), (2, oZ 42 .i64 (-n))] gn f13_ rfl rfl rfl rfl rfl rfl ?_
  refine aops_end (hK4 _ (awp_seq fun K5 hK5 => awp_region rfl ?_))
  refine o_loadA [bp ((-d) < 0), .sl 1 (ns .i64 (digs (-d).natAbs))] gn f14_ rfl rfl rfl rfl rfl ?_
  refine o_loadA [(bp (((Int.gcd (-n) (-d) : Nat) : Int) < 0)), (.sl 1 (ns .i64 (digs ((Int.gcd (-n) (-d) : Nat) : Int).natAbs)))] gn f14_ rfl rfl rfl rfl rfl ?_
  refine o_ct (c_rDiv (-d) ((Int.gcd (-n) (-d) : Nat) : Int) (by omega) (by omega) (by omega)) gn f111_ rfl ?_
  refine o_mv (.tup [(intR ((-d) / ((Int.gcd (-n) (-d) : Nat) : Int))), (intR ((-d) % ((Int.gcd (-n) (-d) : Nat) : Int)))]) rfl (o_extract (intR ((-d) / ((Int.gcd (-n) (-d) : Nat) : Int))) gn rfl rfl (o_extract (intR ((-d) % ((Int.gcd (-n) (-d) : Nat) : Int))) gn rfl rfl ?_))
  refine o_alloc 8 [Fv, Zv] gn f9_ rfl rfl rfl ?_
  refine o_alloc 9 [Fv, Zv] gn f9_ rfl rfl rfl ?_
  refine o_store [(9, .var 42 [Fv, Zv]), (8, (oZ 42 .i64 ((-d) / ((Int.gcd (-n) (-d) : Nat) : Int)))), (7, (oZ 42 .i64 ((-n) % ((Int.gcd (-n) (-d) : Nat) : Int)))), (6, (oZ 42 .i64 ((-n) / ((Int.gcd (-n) (-d) : Nat) : Int)))), (5, (oZ 42 .i64 ((Int.gcd (-n) (-d) : Nat) : Int))), (4, .var 50 [Fv, Zv, Fv, Zv]), (3, oZ 42 .i64 (-d)), (2, oZ 42 .i64 (-n))] gn f13_ rfl rfl rfl rfl rfl rfl ?_
  refine o_store [(9, (oZ 42 .i64 ((-d) % ((Int.gcd (-n) (-d) : Nat) : Int)))), (8, (oZ 42 .i64 ((-d) / ((Int.gcd (-n) (-d) : Nat) : Int)))), (7, (oZ 42 .i64 ((-n) % ((Int.gcd (-n) (-d) : Nat) : Int)))), (6, (oZ 42 .i64 ((-n) / ((Int.gcd (-n) (-d) : Nat) : Int)))), (5, (oZ 42 .i64 ((Int.gcd (-n) (-d) : Nat) : Int))), (4, .var 50 [Fv, Zv, Fv, Zv]), (3, oZ 42 .i64 (-d)), (2, oZ 42 .i64 (-n))] gn f13_ rfl rfl rfl rfl rfl rfl ?_
  refine aops_end (hK5 _ (awp_seq fun K6 hK6 => awp_region rfl ?_))
  refine o_loadA [(bp (((-n) / ((Int.gcd (-n) (-d) : Nat) : Int)) < 0)), (.sl 1 (ns .i64 (digs ((-n) / ((Int.gcd (-n) (-d) : Nat) : Int)).natAbs)))] gn f14_ rfl rfl rfl rfl rfl ?_
  refine o_loadA [(bp (((-d) / ((Int.gcd (-n) (-d) : Nat) : Int)) < 0)), (.sl 1 (ns .i64 (digs ((-d) / ((Int.gcd (-n) (-d) : Nat) : Int)).natAbs)))] gn f14_ rfl rfl rfl rfl rfl ?_
  refine o_build [(bp (((-n) / ((Int.gcd (-n) (-d) : Nat) : Int)) < 0)), (.sl 1 (ns .i64 (digs ((-n) / ((Int.gcd (-n) (-d) : Nat) : Int)).natAbs))), (bp (((-d) / ((Int.gcd (-n) (-d) : Nat) : Int)) < 0)), (.sl 1 (ns .i64 (digs ((-d) / ((Int.gcd (-n) (-d) : Nat) : Int)).natAbs)))] [(0, [(bp (((-n) / ((Int.gcd (-n) (-d) : Nat) : Int)) < 0)), (.sl 1 (ns .i64 (digs ((-n) / ((Int.gcd (-n) (-d) : Nat) : Int)).natAbs)))]), (1, [(bp (((-d) / ((Int.gcd (-n) (-d) : Nat) : Int)) < 0)), (.sl 1 (ns .i64 (digs ((-d) / ((Int.gcd (-n) (-d) : Nat) : Int)).natAbs)))])] gn f114_ f112_ rfl rfl rfl ?_
  refine o_store [(9, (oZ 42 .i64 ((-d) % ((Int.gcd (-n) (-d) : Nat) : Int)))), (8, (oZ 42 .i64 ((-d) / ((Int.gcd (-n) (-d) : Nat) : Int)))), (7, (oZ 42 .i64 ((-n) % ((Int.gcd (-n) (-d) : Nat) : Int)))), (6, (oZ 42 .i64 ((-n) / ((Int.gcd (-n) (-d) : Nat) : Int)))), (5, (oZ 42 .i64 ((Int.gcd (-n) (-d) : Nat) : Int))), (4, (.var 50 [(bp (((-n) / ((Int.gcd (-n) (-d) : Nat) : Int)) < 0)), (.sl 1 (ns .i64 (digs ((-n) / ((Int.gcd (-n) (-d) : Nat) : Int)).natAbs))), (bp (((-d) / ((Int.gcd (-n) (-d) : Nat) : Int)) < 0)), (.sl 1 (ns .i64 (digs ((-d) / ((Int.gcd (-n) (-d) : Nat) : Int)).natAbs)))])), (3, oZ 42 .i64 (-d)), (2, oZ 42 .i64 (-n))] gn f115_ rfl rfl rfl rfl rfl rfl ?_
  refine aops_end (hK6 _ ?_)
  refine awp_ret ?_
  refine post_ret ⟨[(.agg [(bp (((-n) / ((Int.gcd (-n) (-d) : Nat) : Int)) < 0)), (.sl 1 (ns .i64 (digs ((-n) / ((Int.gcd (-n) (-d) : Nat) : Int)).natAbs))), (bp (((-d) / ((Int.gcd (-n) (-d) : Nat) : Int)) < 0)), (.sl 1 (ns .i64 (digs ((-d) / ((Int.gcd (-n) (-d) : Nat) : Int)).natAbs)))])], ⟨⟨4, (.var 50 [(bp (((-n) / ((Int.gcd (-n) (-d) : Nat) : Int)) < 0)), (.sl 1 (ns .i64 (digs ((-n) / ((Int.gcd (-n) (-d) : Nat) : Int)).natAbs))), (bp (((-d) / ((Int.gcd (-n) (-d) : Nat) : Int)) < 0)), (.sl 1 (ns .i64 (digs ((-d) / ((Int.gcd (-n) (-d) : Nat) : Int)).natAbs)))]), rfl, rfl, rfl, Or.inl ⟨f116_, AV.le_refl _⟩⟩, trivial⟩, rfl, ?_⟩
  exact (congrArg frR (red_n (sgn_lt0.1 (by assumption))))
 ·refine awp_skip (hK1 _ (awp_seq fun K7 hK7 => awp_region rfl ?_))
  refine o_loadA [bp (n < 0), .sl 1 (ns .i64 (digs n.natAbs))] gn f14_ rfl rfl rfl rfl rfl ?_
  refine o_loadA [bp (d < 0), .sl 1 (ns .i64 (digs d.natAbs))] gn f14_ rfl rfl rfl rfl rfl ?_
  refine o_ct (c_rGcd n d (by omega) (by omega)) gn f113_ rfl ?_
  refine o_alloc 5 [Fv, Zv] gn f9_ rfl rfl rfl ?_
  refine o_store [(5, (oZ 42 .i64 ((Int.gcd n d : Nat) : Int))), (4, .var 50 [Fv, Zv, Fv, Zv]), (3, oZ 42 .i64 d), (2, oZ 42 .i64 n)] gn f13_ rfl rfl rfl rfl rfl rfl ?_
  refine aops_end (hK7 _ (awp_seq fun K8 hK8 => awp_region rfl ?_))
  refine o_loadA [bp (n < 0), .sl 1 (ns .i64 (digs n.natAbs))] gn f14_ rfl rfl rfl rfl rfl ?_
  refine o_loadA [(bp (((Int.gcd n d : Nat) : Int) < 0)), (.sl 1 (ns .i64 (digs ((Int.gcd n d : Nat) : Int).natAbs)))] gn f14_ rfl rfl rfl rfl rfl ?_
  refine o_ct (c_rDiv n ((Int.gcd n d : Nat) : Int) (by omega) (by omega) (by omega)) gn f111_ rfl ?_
  refine o_mv (.tup [(intR (n / ((Int.gcd n d : Nat) : Int))), (intR (n % ((Int.gcd n d : Nat) : Int)))]) rfl (o_extract (intR (n / ((Int.gcd n d : Nat) : Int))) gn rfl rfl (o_extract (intR (n % ((Int.gcd n d : Nat) : Int))) gn rfl rfl ?_))
  refine o_alloc 6 [Fv, Zv] gn f9_ rfl rfl rfl ?_
  refine o_alloc 7 [Fv, Zv] gn f9_ rfl rfl rfl ?_
  refine o_store [(7, .var 42 [Fv, Zv]), (6, (oZ 42 .i64 (n / ((Int.gcd n d : Nat) : Int)))), (5, (oZ 42 .i64 ((Int.gcd n d : Nat) : Int))), (4, .var 50 [Fv, Zv, Fv, Zv]), (3, oZ 42 .i64 d), (2, oZ 42 .i64 n)] gn f13_ rfl rfl rfl rfl rfl rfl ?_
  refine o_store [(7, (oZ 42 .i64 (n % ((Int.gcd n d : Nat) : Int)))), (6, (oZ 42 .i64 (n / ((Int.gcd n d : Nat) : Int)))), (5, (oZ 42 .i64 ((Int.gcd n d : Nat) : Int))), (4, .var 50 [Fv, Zv, Fv, Zv]), (3, oZ 42 .i64 d), (2, oZ 42 .i64 n)] gn f13_ rfl rfl rfl rfl rfl rfl ?_
  refine aops_end (hK8 _ (awp_seq fun K9 hK9 => awp_region rfl ?_))
  refine o_loadA [bp (d < 0), .sl 1 (ns .i64 (digs d.natAbs))] gn f14_ rfl rfl rfl rfl rfl ?_
  refine o_loadA [(bp (((Int.gcd n d : Nat) : Int) < 0)), (.sl 1 (ns .i64 (digs ((Int.gcd n d : Nat) : Int).natAbs)))] gn f14_ rfl rfl rfl rfl rfl ?_
  refine o_ct (c_rDiv d ((Int.gcd n d : Nat) : Int) (by omega) (by omega) (by omega)) gn f111_ rfl ?_
  refine o_mv (.tup [(intR (d / ((Int.gcd n d : Nat) : Int))), (intR (d % ((Int.gcd n d : Nat) : Int)))]) rfl (o_extract (intR (d / ((Int.gcd n d : Nat) : Int))) gn rfl rfl (o_extract (intR (d % ((Int.gcd n d : Nat) : Int))) gn rfl rfl ?_))
  refine o_alloc 8 [Fv, Zv] gn f9_ rfl rfl rfl ?_
  refine o_alloc 9 [Fv, Zv] gn f9_ rfl rfl rfl ?_
  refine o_store [(9, .var 42 [Fv, Zv]), (8, (oZ 42 .i64 (d / ((Int.gcd n d : Nat) : Int)))), (7, (oZ 42 .i64 (n % ((Int.gcd n d : Nat) : Int)))), (6, (oZ 42 .i64 (n / ((Int.gcd n d : Nat) : Int)))), (5, (oZ 42 .i64 ((Int.gcd n d : Nat) : Int))), (4, .var 50 [Fv, Zv, Fv, Zv]), (3, oZ 42 .i64 d), (2, oZ 42 .i64 n)] gn f13_ rfl rfl rfl rfl rfl rfl ?_
  refine o_store [(9, (oZ 42 .i64 (d % ((Int.gcd n d : Nat) : Int)))), (8, (oZ 42 .i64 (d / ((Int.gcd n d : Nat) : Int)))), (7, (oZ 42 .i64 (n % ((Int.gcd n d : Nat) : Int)))), (6, (oZ 42 .i64 (n / ((Int.gcd n d : Nat) : Int)))), (5, (oZ 42 .i64 ((Int.gcd n d : Nat) : Int))), (4, .var 50 [Fv, Zv, Fv, Zv]), (3, oZ 42 .i64 d), (2, oZ 42 .i64 n)] gn f13_ rfl rfl rfl rfl rfl rfl ?_
  refine aops_end (hK9 _ (awp_seq fun K10 hK10 => awp_region rfl ?_))
  refine o_loadA [(bp ((n / ((Int.gcd n d : Nat) : Int)) < 0)), (.sl 1 (ns .i64 (digs (n / ((Int.gcd n d : Nat) : Int)).natAbs)))] gn f14_ rfl rfl rfl rfl rfl ?_
  refine o_loadA [(bp ((d / ((Int.gcd n d : Nat) : Int)) < 0)), (.sl 1 (ns .i64 (digs (d / ((Int.gcd n d : Nat) : Int)).natAbs)))] gn f14_ rfl rfl rfl rfl rfl ?_
  refine o_build [(bp ((n / ((Int.gcd n d : Nat) : Int)) < 0)), (.sl 1 (ns .i64 (digs (n / ((Int.gcd n d : Nat) : Int)).natAbs))), (bp ((d / ((Int.gcd n d : Nat) : Int)) < 0)), (.sl 1 (ns .i64 (digs (d / ((Int.gcd n d : Nat) : Int)).natAbs)))] [(0, [(bp ((n / ((Int.gcd n d : Nat) : Int)) < 0)), (.sl 1 (ns .i64 (digs (n / ((Int.gcd n d : Nat) : Int)).natAbs)))]), (1, [(bp ((d / ((Int.gcd n d : Nat) : Int)) < 0)), (.sl 1 (ns .i64 (digs (d / ((Int.gcd n d : Nat) : Int)).natAbs)))])] gn f114_ f112_ rfl rfl rfl ?_
  refine o_store [(9, (oZ 42 .i64 (d % ((Int.gcd n d : Nat) : Int)))), (8, (oZ 42 .i64 (d / ((Int.gcd n d : Nat) : Int)))), (7, (oZ 42 .i64 (n % ((Int.gcd n d : Nat) : Int)))), (6, (oZ 42 .i64 (n / ((Int.gcd n d : Nat) : Int)))), (5, (oZ 42 .i64 ((Int.gcd n d : Nat) : Int))), (4, (.var 50 [(bp ((n / ((Int.gcd n d : Nat) : Int)) < 0)), (.sl 1 (ns .i64 (digs (n / ((Int.gcd n d : Nat) : Int)).natAbs))), (bp ((d / ((Int.gcd n d : Nat) : Int)) < 0)), (.sl 1 (ns .i64 (digs (d / ((Int.gcd n d : Nat) : Int)).natAbs)))])), (3, oZ 42 .i64 d), (2, oZ 42 .i64 n)] gn f115_ rfl rfl rfl rfl rfl rfl ?_
  refine aops_end (hK10 _ ?_)
  refine awp_ret ?_
  refine post_ret ⟨[(.agg [(bp ((n / ((Int.gcd n d : Nat) : Int)) < 0)), (.sl 1 (ns .i64 (digs (n / ((Int.gcd n d : Nat) : Int)).natAbs))), (bp ((d / ((Int.gcd n d : Nat) : Int)) < 0)), (.sl 1 (ns .i64 (digs (d / ((Int.gcd n d : Nat) : Int)).natAbs)))])], ⟨⟨4, (.var 50 [(bp ((n / ((Int.gcd n d : Nat) : Int)) < 0)), (.sl 1 (ns .i64 (digs (n / ((Int.gcd n d : Nat) : Int)).natAbs))), (bp ((d / ((Int.gcd n d : Nat) : Int)) < 0)), (.sl 1 (ns .i64 (digs (d / ((Int.gcd n d : Nat) : Int)).natAbs)))]), rfl, rfl, rfl, Or.inl ⟨f116_, AV.le_refl _⟩⟩, trivial⟩, rfl, ?_⟩
  exact (congrArg frR (red_p (fun e => absurd (sgn_lt0.2 e) (by assumption))))

theorem c_zText (f : FrZ) (h1 : (digs f.num.natAbs).length ≤ 1000000) (h2 : (digs f.den.natAbs).length ≤ 1000000) : ECalls cx 32 [frR f] (.agg (cF (frT f))) := by
 refine ecalls_of_awp Tryz.func32 (c := _) rfl (Nat.le_of_ble_eq_true rfl) ?_
 show awp cx 10 _ (postF cx Tryz.f32 _) ⟨[(0, frR f)], []⟩
 refine awp_seq fun K0 hK0 => awp_region rfl ?_
 refine o_box 2 [bp (f.num < 0), .sl 1 (ns .i64 (digs (f.num).natAbs)), bp (f.den < 0), .sl 1 (ns .i64 (digs (f.den).natAbs))] gn rfl rfl ?_
 refine o_alloc 3 [Sv Ev, Sv Ev] gn f91_ rfl rfl rfl ?_
 refine aops_end (hK0 _ (awp_seq fun K1 hK1 => awp_regionD rfl ?_))
 refine o_fieldRef 0 gn f117_ rfl rfl ?_
 refine o_loadA [bp (f.num < 0), .sl 1 (ns .i64 (digs (f.num).natAbs))] gn f14_ rfl rfl rfl rfl rfl ?_
 refine o_ct (c_rText (f.num) (by first | omega | assumption | (simp only [Int.natAbs_neg]; omega))) gn f118_ rfl ?_
 refine o_fieldRef 2 gn f119_ rfl rfl ?_
 refine o_loadA [bp (f.den < 0), .sl 1 (ns .i64 (digs (f.den).natAbs))] gn f14_ rfl rfl rfl rfl rfl ?_
 refine o_ct (c_rText (f.den) (by first | omega | assumption | (simp only [Int.natAbs_neg]; omega))) gn f118_ rfl ?_
 refine o_build [Sv (txt (f.num)), Sv (txt (f.den))] [(0, [Sv (txt (f.num))]), (1, [Sv (txt (f.den))])] gn f95_ f91_ rfl rfl rfl ?_
 refine o_store [(3, .var 45 [Sv (txt (f.num)), Sv (txt (f.den))]), (2, .var 50 [bp (f.num < 0), .sl 1 (ns .i64 (digs (f.num).natAbs)), bp (f.den < 0), .sl 1 (ns .i64 (digs (f.den).natAbs))])] gn f96_ rfl rfl rfl rfl rfl rfl ?_
 refine aops_end ⟨by kernel_rfl, ?_⟩
 refine hK1 _ ?_
 refine awp_ret ?_
 refine post_ret ⟨[.agg [Sv (txt (f.num)), Sv (txt (f.den))]], ⟨⟨3, .var 45 [Sv (txt (f.num)), Sv (txt (f.den))], rfl, rfl, rfl, Or.inl ⟨f97_, AV.le_refl _⟩⟩, trivial⟩, rfl, ?_⟩
 rfl

theorem c_zRest (m : MapM) (f : FrZ) (hM : OkM m) (b1 : (digs f.num.natAbs).length ≤ 1000) (b2 : (digs f.den.natAbs).length ≤ 1000) : ECalls cx 40 [mapV m, frR f] (.lit (.int .i64 (restF m f))) := by
 refine ecalls_of_awp Tryz.func40 (c := _) rfl (Nat.le_of_ble_eq_true rfl) ?_
 show awp cx 24 _ (postF cx Tryz.f40 _) ⟨[(0, mapV m), (1, frR f)], []⟩
 have hM2 := hM
 obtain ⟨o1, o2, o3, o4, o5⟩ := hM2
 refine awp_seq fun K0 hK0 => awp_region rfl ?_
 refine o_box 2 [Iv m.mod, Lv m.mul, Lv m.add] gn rfl rfl ?_
 refine o_box 3 [bp (f.num < 0), .sl 1 (ns .i64 (digs (f.num).natAbs)), bp (f.den < 0), .sl 1 (ns .i64 (digs (f.den).natAbs))] gn rfl rfl ?_
 refine o_as (Nv 0) rfl (aops_end (hK0 _ (awp_seq fun K1 hK1 => awp_seq fun K2 hK2 => awp_region rfl (o_as (Nv 0) rfl (aops_end (hK2 _ ?_))))))
 refine awp_block ?_
 refine awp_loopR (fun κ σ => ∃ (k : Nat), (((k : Nat) : Int) ≤ m.mod) ∧ (∀ j : Nat, j < k → (f.num - ((j : Nat) : Int) * f.den) % m.mod ≠ 0) ∧ ((m.mod - ((k : Nat) : Int)).toNat) = κ ∧ σ = ⟨[(2, .ref 2 0), (3, .ref 3 0), (5, Nv k)], [(2, oM 24 m), (3, .var 50 [bp (f.num < 0), .sl 1 (ns .i64 (digs (f.num).natAbs)), bp (f.den < 0), .sl 1 (ns .i64 (digs (f.den).natAbs))])]⟩) ⟨_, _, ⟨0, (by omega), (fun j hj => by omega), rfl, rfl⟩, ?wk0⟩ ?rd0
 case wk0 =>
  exact Wk.sub ⟨rfl, rfl, (by first | rfl | exact nm_int (by omega)), trivial⟩ ⟨rfl, rfl, trivial⟩
 rintro κ _ ⟨k, hk, hn, rfl, rfl⟩
 have q1 := small_len (z := ((k : Nat) : Int)) (by omega)
 have q2 := len_mulZ ((k : Nat) : Int) f.den
 have q3 := len_subZ f.num (((k : Nat) : Int) * f.den)
 refine awp_seq fun K3 hK3 => awp_seq fun K4 hK4 => awp_region rfl (o_mv (Nv k) rfl ?_)
 refine o_fieldRef 0 gn f59_ rfl rfl ?_
 refine o_loadS (Iv m.mod) gn f11_ rfl rfl rfl ?_
 refine o_lss (a := ((k : Nat) : Int)) (c := m.mod) gn rfl rfl ?_
 refine aops_end (hK4 _ ?_)
 refine awp_condQ (q := ((k : Nat) : Int) < m.mod) rfl (fun h1 => ?_) (fun h1 => ?_)
 ·refine awp_skip (hK3 _ (awp_seq fun K5 hK5 => ?_))
  refine awp_block ?_
  refine awp_seq fun K6 hK6 => awp_regionD rfl ?_
  refine o_loadA [Iv m.mod, Lv m.mul, Lv m.add] gn f63_ rfl rfl rfl rfl rfl ?_
  refine o_fieldRef 0 gn f117_ rfl rfl ?_
  refine o_loadA [bp (f.num < 0), .sl 1 (ns .i64 (digs (f.num).natAbs))] gn f14_ rfl rfl rfl rfl rfl ?_
  refine o_mv (Nv k) rfl ?_
  refine o_ct (c_rOf ((k : Nat) : Int) (by first | decide | omega) (by first | decide | omega)) gn f45_ rfl ?_
  refine o_fieldRef 2 gn f119_ rfl rfl ?_
  refine o_loadA [bp (f.den < 0), .sl 1 (ns .i64 (digs (f.den).natAbs))] gn f14_ rfl rfl rfl rfl rfl ?_
  refine o_ct (c_rMul ((k : Nat) : Int) (f.den) (by first | omega | assumption | (simp only [Int.natAbs_neg]; omega)) (by first | omega | assumption | (simp only [Int.natAbs_neg]; omega))) gn f65_ rfl ?_
  refine o_ct (c_rSub (f.num) (((k : Nat) : Int) * f.den) (by first | omega | assumption | (simp only [Int.natAbs_neg]; omega)) (by first | omega | assumption | (simp only [Int.natAbs_neg]; omega))) gn f110_ rfl ?_
  refine o_ct (c_gRest m (f.num - (((k : Nat) : Int) * f.den)) (by first | assumption | exact okM_iff.1 (by assumption)) (by first | omega | assumption | (simp only [Int.natAbs_neg]; omega))) gn f64_ rfl ?_
  refine o_eql (a := ((f.num - (((k : Nat) : Int) * f.den)) % m.mod)) (c := ((0 : Nat) : Int)) gn rfl rfl ?_
  refine aops_end ⟨by kernel_rfl, ?_⟩
  refine hK6 _ ?_
  refine awp_condQ (q := ((f.num - (((k : Nat) : Int) * f.den)) % m.mod) = ((0 : Nat) : Int)) rfl (fun h2 => ?_) (fun h2 => ?_)
  ·refine awp_seq fun K7 hK7 => awp_region rfl (o_mv (Nv k) rfl (o_as (Nv k) rfl (aops_end (hK7 _ ?_))))
   refine awp_ret ?_
   refine post_ret ⟨[Nv k], ⟨AV.le_refl _, trivial⟩, rfl, ?_⟩
   exact congrArg (fun z => AV.lit (.int .i64 z)) (restF_y h1 (by assumption) hn)
  ·refine awp_skip (hK5 _ (awp_region rfl (o_mv (Nv k) rfl ?_)))
   refine n_add k 1 gn rfl rfl (by simp only [topOf]; omega) ?_
   refine o_as (Nv (k + 1)) rfl (aops_end ?_)
   refine ⟨_, _, ?lt, ⟨k + 1, (by omega), (fun j hj => by rcases Nat.lt_or_ge j k with e | e; exact hn j e; rw [show j = k by omega]; assumption), rfl, rfl⟩, ?wk⟩
   case lt => omega
   case wk => exact Wk.sub ⟨rfl, rfl, (by first | rfl | exact nm_int (by omega)), trivial⟩ ⟨rfl, rfl, trivial⟩
 ·refine awp_exit ?_
  refine hK1 _ (awp_seq fun K8 hK8 => awp_region rfl (o_as (Iv (-1)) rfl (aops_end (hK8 _ ?_))))
  refine awp_ret ?_
  refine post_ret ⟨[Iv (-1)], ⟨AV.le_refl _, trivial⟩, rfl, ?_⟩
  exact congrArg (fun z => AV.lit (.int .i64 z)) (restF_n fun j hj => hn j (by omega))

theorem c_zStep (m : MapM) (f : FrZ) (hM : OkM m) (b1 : (digs f.num.natAbs).length ≤ 1000) (b2 : (digs f.den.natAbs).length ≤ 1000) (b3 : f.den ≠ 0) (b4 : 0 ≤ restF m f) : ECalls cx 41 [mapV m, frR f] (frR (nxtZ m f (restF m f))) := by
 refine ecalls_of_awp Tryz.func41 (c := _) rfl (Nat.le_of_ble_eq_true rfl) ?_
 show awp cx 35 _ (postF cx Tryz.f41 _) ⟨[(0, mapV m), (1, frR f)], []⟩
 have hM2 := hM
 obtain ⟨o1, o2, o3, o4, o5⟩ := hM2
 have hrl := restF_lt hM f
 have hr := o5 (restF m f).toNat (by omega)
 have q1 := small_len (z := ((m.mul).getD ((restF m f).toNat) 0)) (by omega)
 have q2 := small_len (z := ((m.add).getD ((restF m f).toNat) 0)) (by omega)
 have q3 := small_len (z := m.mod) (by omega)
 have q4 := len_mulZ ((m.mul).getD ((restF m f).toNat) 0) f.num
 have q5 := len_mulZ ((m.add).getD ((restF m f).toNat) 0) f.den
 have q6 := len_addZ (((m.mul).getD ((restF m f).toNat) 0) * f.num) (((m.add).getD ((restF m f).toNat) 0) * f.den)
 have q7 := len_mulZ f.den m.mod
 have q8 : f.den * m.mod ≠ 0 := by intro h0; rcases Int.mul_eq_zero.1 h0 with h | h <;> omega
 refine awp_seq fun K0 hK0 => awp_region rfl ?_
 refine o_box 2 [Iv m.mod, Lv m.mul, Lv m.add] gn rfl rfl ?_
 refine o_box 3 [bp (f.num < 0), .sl 1 (ns .i64 (digs (f.num).natAbs)), bp (f.den < 0), .sl 1 (ns .i64 (digs (f.den).natAbs))] gn rfl rfl ?_
 refine o_alloc 4 [Fv, Zv, Fv, Zv] gn f112_ rfl rfl rfl ?_
 refine aops_end (hK0 _ (awp_seq fun K1 hK1 => awp_region rfl ?_))
 refine o_loadA [Iv m.mod, Lv m.mul, Lv m.add] gn f63_ rfl rfl rfl rfl rfl ?_
 refine o_loadA [bp (f.num < 0), .sl 1 (ns .i64 (digs (f.num).natAbs)), bp (f.den < 0), .sl 1 (ns .i64 (digs (f.den).natAbs))] gn f116_ rfl rfl rfl rfl rfl ?_
 refine o_ct (c_zRest m f hM (by omega) (by omega)) gn f120_ rfl ?_
 refine o_as (Iv (restF m f)) rfl (aops_end (hK1 _ (awp_seq fun K2 hK2 => awp_regionD rfl ?_)))
 refine o_fieldRef 1 gn f60_ rfl rfl ?_
 refine o_loadS (Lv m.mul) gn f1_ rfl rfl rfl ?_
 refine o_mv (Iv (restF m f)) rfl ?_
 refine n_as (v' := (Nv ((restF m f).toNat))) (nm_int (by omega)) ?_
 refine i_index m.mul ((restF m f).toNat) gn f10_ rfl rfl (by omega) ?_
 refine i_loadI m.mul ((restF m f).toNat) gn f11_ rfl (by omega) ?_
 refine o_ct (c_rOf ((m.mul).getD ((restF m f).toNat) 0) (by first | decide | omega) (by first | decide | omega)) gn f45_ rfl ?_
 refine o_fieldRef 0 gn f117_ rfl rfl ?_
 refine o_loadA [bp (f.num < 0), .sl 1 (ns .i64 (digs (f.num).natAbs))] gn f14_ rfl rfl rfl rfl rfl ?_
 refine o_ct (c_rMul ((m.mul).getD ((restF m f).toNat) 0) (f.num) (by first | omega | assumption | (simp only [Int.natAbs_neg]; omega)) (by first | omega | assumption | (simp only [Int.natAbs_neg]; omega))) gn f65_ rfl ?_
 refine o_fieldRef 2 gn f61_ rfl rfl ?_
 refine o_loadS (Lv m.add) gn f1_ rfl rfl rfl ?_
 refine o_mv (Iv (restF m f)) rfl ?_
 refine n_as (v' := (Nv ((restF m f).toNat))) (nm_int (by omega)) ?_
 refine i_index m.add ((restF m f).toNat) gn f10_ rfl rfl (by omega) ?_
 refine i_loadI m.add ((restF m f).toNat) gn f11_ rfl (by omega) ?_
 refine o_ct (c_rOf ((m.add).getD ((restF m f).toNat) 0) (by first | decide | omega) (by first | decide | omega)) gn f45_ rfl ?_
 refine o_fieldRef 2 gn f119_ rfl rfl ?_
 refine o_loadA [bp (f.den < 0), .sl 1 (ns .i64 (digs (f.den).natAbs))] gn f14_ rfl rfl rfl rfl rfl ?_
 refine o_ct (c_rMul ((m.add).getD ((restF m f).toNat) 0) (f.den) (by first | omega | assumption | (simp only [Int.natAbs_neg]; omega)) (by first | omega | assumption | (simp only [Int.natAbs_neg]; omega))) gn f65_ rfl ?_
 refine o_ct (c_rAdd ((m.mul).getD ((restF m f).toNat) 0 * f.num) ((m.add).getD ((restF m f).toNat) 0 * f.den) (by first | omega | assumption | (simp only [Int.natAbs_neg]; omega)) (by first | omega | assumption | (simp only [Int.natAbs_neg]; omega))) gn f38_ rfl ?_
 refine o_fieldRef 2 gn f119_ rfl rfl ?_
 refine o_loadA [bp (f.den < 0), .sl 1 (ns .i64 (digs (f.den).natAbs))] gn f14_ rfl rfl rfl rfl rfl ?_
 refine o_fieldRef 0 gn f59_ rfl rfl ?_
 refine o_loadS (Iv m.mod) gn f11_ rfl rfl rfl ?_
 refine o_ct (c_rOf m.mod (by first | decide | omega) (by first | decide | omega)) gn f45_ rfl ?_
 refine o_ct (c_rMul (f.den) m.mod (by first | omega | assumption | (simp only [Int.natAbs_neg]; omega)) (by first | omega | assumption | (simp only [Int.natAbs_neg]; omega))) gn f65_ rfl ?_
 refine o_ct (c_zRed (((m.mul).getD ((restF m f).toNat) 0 * f.num) + ((m.add).getD ((restF m f).toNat) 0 * f.den)) (f.den * m.mod) (by first | omega | assumption) (by first | omega | assumption) (by first | omega | assumption)) gn f121_ rfl ?_
 refine n_as (v' := (frR (nxtZ m f (restF m f)))) (by exact congrArg frR (congrArg (fun z => redZ z _) (congr (congrArg HAdd.hAdd (Int.mul_comm _ _)) (Int.mul_comm _ _)))) ?_
 refine o_store [(4, .var 50 [bp ((nxtZ m f (restF m f)).num < 0), .sl 1 (ns .i64 (digs ((nxtZ m f (restF m f)).num).natAbs)), bp ((nxtZ m f (restF m f)).den < 0), .sl 1 (ns .i64 (digs ((nxtZ m f (restF m f)).den).natAbs))]), (3, .var 50 [bp (f.num < 0), .sl 1 (ns .i64 (digs (f.num).natAbs)), bp (f.den < 0), .sl 1 (ns .i64 (digs (f.den).natAbs))]), (2, oM 24 m)] gn f115_ rfl rfl rfl rfl rfl rfl ?_
 refine aops_end ⟨by kernel_rfl, ?_⟩
 refine hK2 _ ?_
 refine awp_ret ?_
 refine post_ret ⟨[.agg [bp ((nxtZ m f (restF m f)).num < 0), .sl 1 (ns .i64 (digs ((nxtZ m f (restF m f)).num).natAbs)), bp ((nxtZ m f (restF m f)).den < 0), .sl 1 (ns .i64 (digs ((nxtZ m f (restF m f)).den).natAbs))]], ⟨⟨4, .var 50 [bp ((nxtZ m f (restF m f)).num < 0), .sl 1 (ns .i64 (digs ((nxtZ m f (restF m f)).num).natAbs)), bp ((nxtZ m f (restF m f)).den < 0), .sl 1 (ns .i64 (digs ((nxtZ m f (restF m f)).den).natAbs))], rfl, rfl, rfl, Or.inl ⟨f116_, AV.le_refl _⟩⟩, trivial⟩, rfl, ?_⟩
 rfl

end Go.Proofs.YtdmkejloknejdaaGreatDoor

namespace Go.Mth
open Go.Ab
theorem cmpL_s1 {x y : List Int} {i : Nat} (hx : i < x.length) (hy : y.length ≤ i) : cmpL (x.drop i) (y.drop i) = 1 := by
 rw [List.drop_of_length_le hy, List.drop_eq_getElem_cons hx]; rfl
theorem cmpL_s2 {x y : List Int} {i : Nat} (hx : i < x.length) (hy : i < y.length) : cmpL (x.drop i) (y.drop i) = if cmpZ (x.getD i 0) (y.getD i 0) = 0 then cmpL (x.drop (i + 1)) (y.drop (i + 1)) else cmpZ (x.getD i 0) (y.getD i 0) := by
 rw [List.drop_eq_getElem_cons hx, List.drop_eq_getElem_cons hy, List.getD_eq_getElem?_getD, List.getD_eq_getElem?_getD, List.getElem?_eq_getElem hx, List.getElem?_eq_getElem hy]; rfl
theorem cmpL_e1 {x y : List Int} {i : Nat} (hx : x.length ≤ i) (hy : i < y.length) : cmpL (x.drop i) (y.drop i) = -1 := by
 rw [List.drop_of_length_le hx, List.drop_eq_getElem_cons hy]; rfl
theorem cmpL_e2 {x y : List Int} {i : Nat} (hx : x.length ≤ i) (hy : y.length ≤ i) : cmpL (x.drop i) (y.drop i) = 0 := by
 rw [List.drop_of_length_le hx, List.drop_of_length_le hy]; rfl
theorem rot_cut {α : Type} (w : List α) {i : Nat} (hi : i ≤ w.length) : ((w.drop i).take (w.length - i)) ++ ((w.drop 0).take (i - 0)) = rotL w i := by
 rw [List.take_of_length_le (by rw [List.length_drop]; exact Nat.le_refl _), List.drop_zero, Nat.sub_zero]; rfl
def orbL (m : MapM) (x : Int) (n : Nat) : List Int := (List.range n).map fun i => iterZ m i x
def leastI (l : List Int) : Nat → Nat
 | 0 => 0
 | i + 1 => if l.getD i default < l.getD (leastI l i) default then i else leastI l i
def rotM (l : List Int) : List Int := rotL l (leastI l l.length)
def cyc (m : MapM) (x : Int) (n : Nat) : List Int := rotM (orbL m x n)
theorem orbL_len (m : MapM) (x : Int) (n : Nat) : (orbL m x n).length = n := by unfold orbL; simp
theorem orbL_s (m : MapM) (x : Int) (n : Nat) : orbL m x n ++ [iterZ m n x] = orbL m x (n + 1) := by unfold orbL; rw [List.range_succ, List.map_append]; rfl
theorem orbL_get {m : MapM} {x : Int} {n i : Nat} (h : i < n) : (orbL m x n).getD i default = iterZ m i x := by unfold orbL; simp [List.getD_eq_getElem?_getD, h]
theorem least_lt {l : List Int} (h : 0 < l.length) : ∀ i, i ≤ l.length → leastI l i < l.length
 | 0, _ => h
 | i + 1, hi => by
  rw [leastI]
  split
  ·omega
  ·exact least_lt h i (by omega)
theorem least_y {l : List Int} {i : Nat} (h : l.getD i default < l.getD (leastI l i) default) : leastI l (i + 1) = i := if_pos h
theorem least_n {l : List Int} {i : Nat} (h : ¬ l.getD i default < l.getD (leastI l i) default) : leastI l (i + 1) = leastI l i := if_neg h
theorem least_le {l : List Int} : ∀ i j, j < i → l.getD (leastI l i) default ≤ l.getD j default
 | 0, j, h => by omega
 | i + 1, j, h => by
  have ih := fun hj => least_le (l := l) i j hj
  rw [leastI]
  split
  ·rename_i e
   rcases Nat.lt_or_ge j i with g | g
   ·have := ih g; omega
   ·rw [show j = i by omega]; exact Int.le_refl _
  ·rename_i e
   rcases Nat.lt_or_ge j i with g | g
   ·exact ih g
   ·rw [show j = i by omega]; omega
theorem iter_len {m : MapM} (hm : OkM m) (z : Int) : ∀ k, (digs (iterZ m k z).natAbs).length ≤ (digs z.natAbs).length + 4 * k
 | 0 => by show (digs z.natAbs).length ≤ _; omega
 | k + 1 => by
  have h1 := iter_len hm z k
  have h2 := step_len' hm (iterZ m k z)
  show (digs (stepZ m (iterZ m k z)).natAbs).length ≤ _
  omega
end Go.Mth

namespace Go.Ab
open Go.RowKit
def reachB : Nat → Array Oper → Nat → Nat → Bool
 | 0, _, _, _ => false
 | f + 1, ops, i, j => match ops[j]? with
  | some o => o.after.any fun e => Region.binds .any e && (Nat.beq e.on i || reachB f ops i e.on)
  | none => false
def pairsT (ops : Array Oper) : List It → Bool
 | [] => true
 | p :: r => r.all (fun q => lateB p q && (reachB 6 ops p.i q.i || indepB ops p q)) && pairsT ops r
def drawT (ops : Array Oper) (es : List Eff) : Bool := edgesB 0 ops.toList && pairsT ops (items 0 ops.toList es)
section
variable {C : Ctx} {n : Nat} {w0 : World} {ops : Array Oper} {Q : Exit → Act → World → Prop}

end
section
variable {C : Ctx} {ops : Array Oper} {s : List (Nat × AV)} {m : List (Nat × AO)} {K : List Eff → St → Prop} {os : List Oper} {d : Nat} {t : TypeId} {p : String} {af : Array Edge} {g : Option (Nat × Bool)}
end
end Go.Ab

