/- The law 'katabasislaw03.WordTerras' is true for every map, list and string: by a regular map the word of a number is the list exactly if its rest modulo Mod^k is the one that Rest returns. Its condition: none but the row's own (the listed tables of the library). -/
import Derived.Test.YtbilndahjkimkaaDoorPkWordTerrase
set_option linter.unusedVariables false
set_option linter.unusedSimpArgs false
namespace Go.Proofs.YtbilndahjkimkaaDoor
open Go Go.Ab Go.Mth
theorem Xc_tU22 : cx.P.underlying 22 = some (.slice 3) := by kernel_rfl
theorem Xc_tE22 : tyElem cx.P 22 = some (3, 1, 8) := by kernel_rfl
theorem Xc_tS3 : tySc cx.P 3 = true := by kernel_rfl
theorem Xc_tF24_0 : tyField cx.P 24 0 = some (0, 3) := by kernel_rfl
theorem c_vIs (m : MapM) (w : List Int) (hwl : w.length ≤ 17592186044416) : ECalls cx 22 [(mapV m), (AV.sl 1 (is .i64 (w)))] (bp (OkW m w)) := by
  refine ecalls_of_awp Tryd.func22 (c := _) rfl (Nat.le_of_ble_eq_true rfl) ?_
  show awp cx 29 _ (postF cx Tryd.f22 _) ⟨[(0, (mapV m)), (1, (AV.sl 1 (is .i64 (w))))], []⟩
  refine awp_seq fun K0 hK0 => ?_
  refine awp_region rfl ?_
  refine o_box 2 [(AV.lit (.int .i64 (m.mod))), (AV.sl 1 (is .i64 (m.mul))), (AV.sl 1 (is .i64 (m.add)))] Gd.none rfl rfl ?_
  refine o_assign (AV.lit (.bool false)) Gd.none rfl ?_
  refine aops_end ?_
  refine hK0 _ ?_
  refine awp_seq fun K1 hK1 => ?_
  refine awp_seq fun K2 hK2 => ?_
  refine awp_region rfl ?_
  refine o_assign (nm .i64 (0)) Gd.none rfl ?_
  refine aops_end ?_
  refine hK2 _ ?_
  refine awp_block ?_
  refine awp_loopR (fun κ σ => ∃ (i : Nat), (i ≤ w.length) ∧ (∀ k, k < i → 0 ≤ w.getD k 0 ∧ w.getD k 0 < m.mod) ∧ (w.length - i) = κ ∧ σ = ⟨[(1, (AV.sl 1 (is .i64 (w)))), (2, (AV.ref 2 (0))), (5, (nm .i64 (i)))], [(2, (AO.var 24 [(AV.lit (.int .i64 (m.mod))), (AV.sl 1 (is .i64 (m.mul))), (AV.sl 1 (is .i64 (m.add)))]))]⟩) ⟨_, _, ⟨0, (by omega), (fun k hk => by omega), rfl, rfl⟩, ?wk0⟩ ?rd0
  case wk0 =>
    exact Wk.sub (And.intro (by exact rfl) (And.intro (by exact rfl) (And.intro (by first | rfl | exact congrArg (nm _) (by omega) | exact nm_int (by omega) | exact nm_int (by simp [IntKind.wrap, IntKind.bits, IntKind.signed]; omega)) (trivial)))) (And.intro (by first | rfl | exact row_ns (by simp) | exact congrArg (fun x => some (AO.blk (.stringIter _ x))) (by omega)) (trivial))
  rintro κ _ ⟨i, hi, hf, rfl, rfl⟩
  refine awp_seq fun K3 hK3 => ?_
  refine awp_seq fun K4 hK4 => ?_
  refine awp_region rfl ?_
  refine o_move (nm .i64 (i)) Gd.none rfl ?_
  refine o_move (AV.sl 1 (is .i64 (w))) Gd.none rfl ?_
  refine i_len (w) Gd.none Xc_tU22 rfl ?_
  refine n_lss (i) ((w).length) Gd.none rfl rfl ?_
  refine aops_end ?_
  refine hK4 _ ?_
  refine awp_condQ (q := (i) < ((w).length)) rfl (fun h1 => ?_) (fun h1 => ?_)
  · refine awp_skip ?_
    refine hK3 _ ?_
    refine awp_seq fun K5 hK5 => ?_
    refine awp_block ?_
    refine awp_seq fun K6 hK6 => ?_
    refine awp_regionD rfl ?_
    refine o_move (AV.sl 1 (is .i64 (w))) Gd.none rfl ?_
    refine o_move (nm .i64 (i)) Gd.none rfl ?_
    refine i_index (w) (i) Gd.none Xc_tE22 rfl rfl (by omega) ?_
    refine i_loadI (w) (i) Gd.none Xc_tS3 rfl (by omega) ?_
    refine o_lss (a := ((w).getD (i) 0)) (c := (((0 : Nat) : Int))) Gd.none rfl rfl ?_
    refine o_move (bp (((w).getD (i) 0) < (((0 : Nat) : Int)))) Gd.none rfl ?_
    refine o_splitP (q := ((w).getD (i) 0) < (((0 : Nat) : Int))) 17 rfl (fun h2 => ?_) (fun h2 => ?_)
    · refine o_skip (b := decide (((w).getD (i) 0) < (((0 : Nat) : Int)))) rfl rfl (decide_eq_true h2) ?_
      refine o_skip (b := decide (((w).getD (i) 0) < (((0 : Nat) : Int)))) rfl rfl (decide_eq_true h2) ?_
      refine o_skip (b := decide (((w).getD (i) 0) < (((0 : Nat) : Int)))) rfl rfl (decide_eq_true h2) ?_
      refine o_skip (b := decide (((w).getD (i) 0) < (((0 : Nat) : Int)))) rfl rfl (decide_eq_true h2) ?_
      refine o_skip (b := decide (((w).getD (i) 0) < (((0 : Nat) : Int)))) rfl rfl (decide_eq_true h2) ?_
      refine o_skip (b := decide (((w).getD (i) 0) < (((0 : Nat) : Int)))) rfl rfl (decide_eq_true h2) ?_
      refine o_skip (b := decide (((w).getD (i) 0) < (((0 : Nat) : Int)))) rfl rfl (decide_eq_true h2) ?_
      refine o_pickT (b := decide (((w).getD (i) 0) < (((0 : Nat) : Int)))) (AV.lit (.bool true)) Gd.none rfl (decide_eq_true h2) rfl ?_
      refine aops_end ⟨by kernel_rfl, ?_⟩
      refine hK6 _ ?_
      refine awp_condB (b := true) rfl (fun _ => ?_) (fun hh => absurd (hh.symm.trans rfl) (by decide))
      refine awp_seq fun K7 hK7 => ?_
      refine awp_region rfl ?_
      refine o_assign (AV.lit (.bool false)) Gd.none rfl ?_
      refine aops_end ?_
      refine hK7 _ ?_
      refine awp_ret ?_
      refine post_ret ⟨[(AV.lit (.bool false))], And.intro (AV.le_refl _) (trivial), rfl, ?_⟩
      exact (bl_bp (b := false) ⟨fun h => (by cases h), fun h => absurd h (fun hh => absurd (isW_get hh.1 h1).1 (by omega))⟩).symm
    · refine o_move (AV.sl 1 (is .i64 (w))) (Gd.yes rfl rfl (decide_eq_false h2)) rfl ?_
      refine o_move (nm .i64 (i)) (Gd.yes rfl rfl (decide_eq_false h2)) rfl ?_
      refine i_index (w) (i) (Gd.yes rfl rfl (decide_eq_false h2)) Xc_tE22 rfl rfl (by omega) ?_
      refine i_loadI (w) (i) (Gd.yes rfl rfl (decide_eq_false h2)) Xc_tS3 rfl (by omega) ?_
      refine o_fieldRef 0 (Gd.yes rfl rfl (decide_eq_false h2)) Xc_tF24_0 rfl rfl ?_
      refine o_loadS (AV.lit (.int .i64 (m.mod))) (Gd.yes rfl rfl (decide_eq_false h2)) Xc_tS3 rfl rfl rfl ?_
      refine o_geq (a := ((w).getD (i) 0)) (c := (m.mod)) (Gd.yes rfl rfl (decide_eq_false h2)) rfl rfl ?_
      refine o_pickF (b := decide (((w).getD (i) 0) < (((0 : Nat) : Int)))) (bp ((m.mod) ≤ ((w).getD (i) 0))) Gd.none rfl (decide_eq_false h2) rfl ?_
      refine aops_end ⟨by kernel_rfl, ?_⟩
      refine hK6 _ ?_
      refine awp_condQ (q := (m.mod) ≤ ((w).getD (i) 0)) rfl (fun h3 => ?_) (fun h3 => ?_)
      · refine awp_seq fun K8 hK8 => ?_
        refine awp_region rfl ?_
        refine o_assign (AV.lit (.bool false)) Gd.none rfl ?_
        refine aops_end ?_
        refine hK8 _ ?_
        refine awp_ret ?_
        refine post_ret ⟨[(AV.lit (.bool false))], And.intro (AV.le_refl _) (trivial), rfl, ?_⟩
        exact (bl_bp (b := false) ⟨fun h => (by cases h), fun h => absurd h (fun hh => absurd (isW_get hh.1 h1).2 (by omega))⟩).symm
      · refine awp_skip ?_
        refine hK5 _ ?_
        refine awp_region rfl ?_
        refine o_move (nm .i64 (i)) Gd.none rfl ?_
        refine n_add (i) (1) Gd.none rfl rfl (by simp only [topOf]; omega) ?_
        refine o_assign (nm .i64 ((i) + (1))) Gd.none rfl ?_
        refine aops_end ?_
        refine ⟨_, _, ?lt, ⟨i + 1, (by omega), (fun k hk => by rcases Nat.lt_or_ge k i with e | e; exact hf k e; rw [show k = i by omega]; omega), rfl, rfl⟩, ?wk⟩
        case lt => omega
        case wk => exact Wk.sub (And.intro (by exact rfl) (And.intro (by exact rfl) (And.intro (by first | rfl | exact congrArg (nm _) (by omega) | exact nm_int (by omega) | exact nm_int (by simp [IntKind.wrap, IntKind.bits, IntKind.signed]; omega)) (trivial)))) (And.intro (by first | rfl | exact row_ns (by simp) | exact congrArg (fun x => some (AO.blk (.stringIter _ x))) (by omega)) (trivial))
  · refine awp_exit ?_
    refine hK1 _ ?_
    refine awp_seq fun K9 hK9 => ?_
    refine awp_region rfl ?_
    refine o_move (AV.sl 1 (is .i64 (w))) Gd.none rfl ?_
    refine i_len (w) Gd.none Xc_tU22 rfl ?_
    refine n_leq ((w).length) (200) Gd.none rfl rfl ?_
    refine o_assign (bp (((w).length) ≤ (200))) Gd.none rfl ?_
    refine aops_end ?_
    refine hK9 _ ?_
    refine awp_ret ?_
    refine post_ret ⟨[(bp (((w).length) ≤ (200)))], And.intro (AV.le_refl _) (trivial), rfl, ?_⟩
    exact bp_congr ⟨fun h => h.2, fun h => ⟨isW_of fun k hk => hf k (by omega), h⟩⟩

end Go.Proofs.YtbilndahjkimkaaDoor

set_option linter.unusedVariables false
set_option linter.unusedSimpArgs false
namespace Go.Mth
open Go.Ab
theorem exW_free : freeM (kinM 3 1) := fun i hi => by
  have : i < 2 := hi
  have : i = 0 ∨ i = 1 := by omega
  rcases this with rfl | rfl <;> decide
theorem exW_ok : OkW (kinM 3 1) [1, 1, 0] := ⟨fun r hr => by
  simp only [List.mem_cons, List.not_mem_nil, or_false] at hr
  rcases hr with rfl | rfl | rfl <;> exact ⟨by decide, by decide⟩, by decide⟩
theorem txt1 (n : Nat) (h : n < 10) : txt (n : Int) = ⟨#[UInt8.ofNat (48 + n)]⟩ := by
  have : n = 0 ∨ n = 1 ∨ n = 2 ∨ n = 3 ∨ n = 4 ∨ n = 5 ∨ n = 6 ∨ n = 7 ∨ n = 8 ∨ n = 9 := by omega
  rcases this with rfl | rfl | rfl | rfl | rfl | rfl | rfl | rfl | rfl | rfl <;> (simp [txt, txtL, decs, strN]; try rfl)
theorem txt13 : txt 13 = ⟨#[49, 51]⟩ := by
  simp [txt, txtL, decs, strN]
  rfl
theorem exW_line : lineS (kinM 3 1) [1, 1, 0] = ⟨⟨#[57]⟩, ⟨#[53]⟩, ⟨#[56]⟩⟩ ∧ lineE (kinM 3 1) [1, 1, 0] = 0 := by
  have h := line_0 okM_ex exW_ok
  have e : lineZ (kinM 3 1) [1, 1, 0] = ⟨9, 5, 8⟩ := by rfl
  refine ⟨h.2.trans ?_, h.1⟩
  rw [e]
  unfold lineT
  rw [show (9 : Int) = ((9 : Nat) : Int) by rfl, show (5 : Int) = ((5 : Nat) : Int) by rfl, show (8 : Int) = ((8 : Nat) : Int) by rfl, txt1 9 (by decide), txt1 5 (by decide), txt1 8 (by decide)]
  rfl
theorem exW_rest : restS (kinM 3 1) [1, 1, 0] = ⟨#[51]⟩ ∧ restD (kinM 3 1) [1, 1, 0] = ⟨#[56]⟩ ∧ restE (kinM 3 1) [1, 1, 0] = 0 := by
  have h := rest_0 okM_ex ⟨exW_ok, exW_free⟩
  have e : (restZ (kinM 3 1) [1, 1, 0]).1 = ((3 : Nat) : Int) := by decide +kernel
  have e2 : (kinM 3 1).mod ^ ([1, 1, 0] : List Int).length = ((8 : Nat) : Int) := by decide +kernel
  refine ⟨h.2.1.trans ?_, h.2.2.trans ?_, h.1⟩
  · rw [e, txt1 3 (by decide)]; rfl
  · rw [e2, txt1 8 (by decide)]; rfl
theorem exW_word : wordL (kinM 3 1) ⟨#[55]⟩ 4 = [1, 1, 1, 0] ∧ wordE (kinM 3 1) ⟨#[55]⟩ 4 = 0 := by
  have hf : FitK (kinM 3 1) (numS ⟨#[55]⟩) (4 : Int).toNat := fun j hj => by
    have : j < 4 := hj
    have : j = 0 ∨ j = 1 ∨ j = 2 ∨ j = 3 := by omega
    rw [numS_ex]
    rcases this with rfl | rfl | rfl | rfl
    · exact fit_of_lt (by decide)
    · rw [show iterZ (kinM 3 1) 1 7 = 11 by decide]; exact fit_of_lt (by decide)
    · rw [show iterZ (kinM 3 1) 2 7 = 17 by decide]; exact fit_of_lt (by decide)
    · rw [show iterZ (kinM 3 1) 3 7 = 26 by decide]; exact fit_of_lt (by decide)
  have h := wordE_0 (K := 4) ⟨okM_ex, okS_ex⟩ (by decide) hf
  refine ⟨h.2.trans ?_, h.1⟩
  rw [numS_ex]
  decide
theorem okS_dig {a : ByteArray} (h1 : 0 < a.size) (h2 : a.size ≤ 2000) (h3 : 49 ≤ byt a 0) (h : ∀ i, i < a.size → 48 ≤ byt a i ∧ byt a i ≤ 57) : okS a = true := by
  have h0 := h 0 h1
  have hs : sgnAt a = 0 := by unfold sgnAt; rw [if_neg (by omega)]
  exact okS_yes ⟨by rw [hs]; exact h1, by rw [hs]; omega, fun e => by rw [hs] at e; omega, fun i _ h2 => h i h2⟩
theorem dig1 {a : ByteArray} (h : (a.size = 1 ∧ 49 ≤ byt a 0 ∧ byt a 0 ≤ 57)) : okS a = true := okS_dig (by omega) (by omega) h.2.1 fun i hi => by
  have : i = 0 := by omega
  subst this; omega
theorem dig2 {a : ByteArray} (h : (a.size = 2 ∧ 49 ≤ byt a 0 ∧ byt a 0 ≤ 57 ∧ 48 ≤ byt a 1 ∧ byt a 1 ≤ 57)) : okS a = true := okS_dig (by omega) (by omega) h.2.1 fun i hi => by
  have : i = 0 ∨ i = 1 := by omega
  rcases this with rfl | rfl <;> omega
def exL : LineS := ⟨⟨#[57]⟩, ⟨#[53]⟩, ⟨#[56]⟩⟩
theorem exL_ok : okL exL = true := by
  unfold okL
  rw [show okS exL.mul = true from dig1 ⟨by decide, by decide, by decide⟩, show okS exL.add = true from dig1 ⟨by decide, by decide, by decide⟩, show okS exL.div = true from dig1 ⟨by decide, by decide, by decide⟩]
  rfl
theorem exL_num : numS exL.mul = 9 ∧ numS exL.add = 5 ∧ numS exL.div = 8 := ⟨by decide, by decide, by decide⟩
theorem exW_app : appS exL ⟨#[49, 49]⟩ = ⟨#[49, 51]⟩ ∧ AppB exL ⟨#[49, 49]⟩ ∧ appE exL ⟨#[49, 49]⟩ = 0 := by
  have hk : okS ⟨#[49, 49]⟩ = true := dig2 ⟨by decide, by decide, by decide, by decide, by decide⟩
  have hn : numS ⟨#[49, 49]⟩ = 11 := by decide
  obtain ⟨n1, n2, n3⟩ := exL_num
  have hv : appV exL ⟨#[49, 49]⟩ = 104 := by unfold appV; rw [n1, n2, hn]; rfl
  have h := app_yes ⟨exL_ok, hk⟩ (by rw [n3]; decide) (by rw [hv]; exact fit_of_lt (by decide)) (by rw [hv, n3]; rfl)
  refine ⟨h.2.2.trans ?_, h.2.1, h.1⟩
  rw [hv, n3, show (104 : Int) / 8 = 13 by rfl, txt13]
theorem exW_app2 : appS exL ⟨#[49, 50]⟩ = ⟨#[]⟩ ∧ ¬ AppB exL ⟨#[49, 50]⟩ ∧ appE exL ⟨#[49, 50]⟩ = 0 := by
  have hk : okS ⟨#[49, 50]⟩ = true := dig2 ⟨by decide, by decide, by decide, by decide, by decide⟩
  have hn : numS ⟨#[49, 50]⟩ = 12 := by decide
  obtain ⟨n1, n2, n3⟩ := exL_num
  have hv : appV exL ⟨#[49, 50]⟩ = 113 := by unfold appV; rw [n1, n2, hn]; rfl
  have h := app_no ⟨exL_ok, hk⟩ (by rw [n3]; decide) (by rw [hv]; exact fit_of_lt (by decide)) (by rw [hv, n3]; decide)
  exact ⟨h.2.2, h.2.1, h.1⟩
end Go.Mth

set_option linter.unusedVariables false
set_option linter.unusedSimpArgs false
namespace Go.Proofs.YtbilndahjkimkaaDoor
open Go Go.Ab Go.Mth
theorem Xd_tC51 : callable cx.P 51 = true := by kernel_rfl
theorem Xd_tO24 : tyZero cx.P 24 = some [(Go.Value.int IntKind.i64 0), (Go.Value.slice none 0 0), (Go.Value.slice none 0 0)] := by kernel_rfl
theorem Xd_tZ24 : tySize cx.P 24 = some 3 := by kernel_rfl
theorem Xd_tA24 : tyAgg cx.P 24 = some 3 := by kernel_rfl
theorem Xd_tE22 : tyElem cx.P 22 = some (3, 1, 8) := by kernel_rfl
theorem Xd_tO3 : tyZero cx.P 3 = some [(Go.Value.int IntKind.i64 0)] := by kernel_rfl
theorem Xd_tC20 : callable cx.P 20 = true := by kernel_rfl
theorem Xd_tO41 : tyZero cx.P 41 = some [(Go.Value.string {data := #[]}), (Go.Value.string {data := #[]}), (Go.Value.string {data := #[]})] := by kernel_rfl
theorem Xd_tZ41 : tySize cx.P 41 = some 3 := by kernel_rfl
theorem Xd_tC21 : callable cx.P 21 = true := by kernel_rfl
theorem Xd_tC12 : callable cx.P 12 = true := by kernel_rfl
theorem Xd_tP41 : tyPlaces cx.P 41 = some (fun i => (#[(0, 1), (1, 1), (2, 1)] : Array (Nat × Nat))[i]?) := by kernel_rfl
theorem Xd_tC28 : callable cx.P 28 = true := by kernel_rfl
theorem Xd_tA41 : tyAgg cx.P 41 = some 3 := by kernel_rfl
theorem Xd_tC19 : callable cx.P 19 = true := by kernel_rfl
theorem c_l3Awake  : ECalls cx 16 [] (.lit (.bool true)) := by
  refine ecalls_of_awp Tryd.func16 (c := _) rfl (Nat.le_of_ble_eq_true rfl) ?_
  show awp cx 97 _ (postF cx Tryd.f16 _) ⟨[], []⟩
  refine awp_seq fun K0 hK0 => ?_
  refine awp_region rfl ?_
  refine o_assign (AV.lit (.bool false)) Gd.none rfl ?_
  refine aops_end ?_
  refine hK0 _ ?_
  refine awp_seq fun K1 hK1 => ?_
  refine awp_region rfl ?_
  refine o_call [] (mapV (kinM 3 1)) Gd.none Xd_tC51 rfl c_gCollatz ?_
  refine o_alloc 2 [(nm .i64 (0)), (AV.lit (.slice none 0 0)), (AV.lit (.slice none 0 0))] Gd.none Xd_tO24 rfl rfl rfl ?_
  refine o_store [(2, (AO.var 24 [(AV.lit (.int .i64 ((kinM 3 1).mod))), (AV.sl 1 (is .i64 ((kinM 3 1).mul))), (AV.sl 1 (is .i64 ((kinM 3 1).add)))]))] Gd.none Xd_tZ24 rfl rfl rfl rfl rfl rfl ?_
  refine aops_end ?_
  refine hK1 _ ?_
  refine awp_seq fun K2 hK2 => ?_
  refine awp_region rfl ?_
  refine o_loadA [(AV.lit (.int .i64 ((kinM 3 1).mod))), (AV.sl 1 (is .i64 ((kinM 3 1).mul))), (AV.sl 1 (is .i64 ((kinM 3 1).add)))] Gd.none Xd_tA24 rfl rfl rfl rfl rfl ?_
  refine o_buildSlice 3 (ns .i64 ([1, 1, 0])) [(0, [(nm .i64 (1))]), (1, [(nm .i64 (1))]), (2, [(nm .i64 (0))])] Gd.none Xd_tE22 rfl Xd_tO3 rfl rfl rfl rfl rfl rfl rfl ?_
  refine o_callG [(3, 1, (ns .i64 ([1, 1, 0])))] [(AV.agg [(AV.lit (.int .i64 ((kinM 3 1).mod))), (AV.sl 1 (is .i64 ((kinM 3 1).mul))), (AV.sl 1 (is .i64 ((kinM 3 1).add)))]), (AV.sl 1 (ns .i64 ([1, 1, 0])))] _ (AV.tup [(AV.agg [(AV.lit (.string (({data := #[57]} : ByteArray)))), (AV.lit (.string (({data := #[53]} : ByteArray)))), (AV.lit (.string (({data := #[56]} : ByteArray))))]), (nm .i64 (0))]) [(2, (AO.var 24 [(AV.lit (.int .i64 ((kinM 3 1).mod))), (AV.sl 1 (is .i64 ((kinM 3 1).mul))), (AV.sl 1 (is .i64 ((kinM 3 1).add)))]))] Gd.none Xd_tC20 rfl (And.intro ⟨_, rfl⟩ (trivial)) rfl rfl (LeL.cons (AV.le_refl _) (LeL.cons (AV.le_refl _) (LeL.nil))) (by have h := c_oLine (kinM 3 1) [1, 1, 0] (by decide); rw [exW_line.1, exW_line.2] at h; exact h) rfl ?_
  refine o_move (AV.tup [(AV.agg [(AV.lit (.string (({data := #[57]} : ByteArray)))), (AV.lit (.string (({data := #[53]} : ByteArray)))), (AV.lit (.string (({data := #[56]} : ByteArray))))]), (nm .i64 (0))]) Gd.none rfl ?_
  refine o_extract (AV.agg [(AV.lit (.string (({data := #[57]} : ByteArray)))), (AV.lit (.string (({data := #[53]} : ByteArray)))), (AV.lit (.string (({data := #[56]} : ByteArray))))]) Gd.none rfl rfl ?_
  refine o_extract (nm .i64 (0)) Gd.none rfl rfl ?_
  refine o_alloc 4 [(AV.lit (.string (({data := #[]} : ByteArray)))), (AV.lit (.string (({data := #[]} : ByteArray)))), (AV.lit (.string (({data := #[]} : ByteArray))))] Gd.none Xd_tO41 rfl rfl rfl ?_
  refine o_store [(4, (AO.var 41 [(AV.lit (.string (({data := #[57]} : ByteArray)))), (AV.lit (.string (({data := #[53]} : ByteArray)))), (AV.lit (.string (({data := #[56]} : ByteArray))))])), (2, (AO.var 24 [(AV.lit (.int .i64 ((kinM 3 1).mod))), (AV.sl 1 (is .i64 ((kinM 3 1).mul))), (AV.sl 1 (is .i64 ((kinM 3 1).add)))]))] Gd.none Xd_tZ41 rfl rfl rfl rfl rfl rfl ?_
  refine o_assign (nm .i64 (0)) Gd.none rfl ?_
  refine aops_end ?_
  refine hK2 _ ?_
  refine awp_seq fun K3 hK3 => ?_
  refine awp_region rfl ?_
  refine o_loadA [(AV.lit (.int .i64 ((kinM 3 1).mod))), (AV.sl 1 (is .i64 ((kinM 3 1).mul))), (AV.sl 1 (is .i64 ((kinM 3 1).add)))] Gd.none Xd_tA24 rfl rfl rfl rfl rfl ?_
  refine o_buildSlice 5 (ns .i64 ([1, 1, 0])) [(0, [(nm .i64 (1))]), (1, [(nm .i64 (1))]), (2, [(nm .i64 (0))])] Gd.none Xd_tE22 rfl Xd_tO3 rfl rfl rfl rfl rfl rfl rfl ?_
  refine o_callG [(5, 1, (ns .i64 ([1, 1, 0])))] [(AV.agg [(AV.lit (.int .i64 ((kinM 3 1).mod))), (AV.sl 1 (is .i64 ((kinM 3 1).mul))), (AV.sl 1 (is .i64 ((kinM 3 1).add)))]), (AV.sl 1 (ns .i64 ([1, 1, 0])))] _ (AV.tup [(AV.lit (.string (({data := #[51]} : ByteArray)))), (AV.lit (.string (({data := #[56]} : ByteArray)))), (nm .i64 (0))]) [(4, (AO.var 41 [(AV.lit (.string (({data := #[57]} : ByteArray)))), (AV.lit (.string (({data := #[53]} : ByteArray)))), (AV.lit (.string (({data := #[56]} : ByteArray))))])), (2, (AO.var 24 [(AV.lit (.int .i64 ((kinM 3 1).mod))), (AV.sl 1 (is .i64 ((kinM 3 1).mul))), (AV.sl 1 (is .i64 ((kinM 3 1).add)))]))] Gd.none Xd_tC21 rfl (And.intro ⟨_, rfl⟩ (trivial)) rfl rfl (LeL.cons (AV.le_refl _) (LeL.cons (AV.le_refl _) (LeL.nil))) (by have h := c_oRest (kinM 3 1) [1, 1, 0] (by decide); rw [exW_rest.1, exW_rest.2.1, exW_rest.2.2] at h; exact h) rfl ?_
  refine o_move (AV.tup [(AV.lit (.string (({data := #[51]} : ByteArray)))), (AV.lit (.string (({data := #[56]} : ByteArray)))), (nm .i64 (0))]) Gd.none rfl ?_
  refine o_extract (AV.lit (.string (({data := #[51]} : ByteArray)))) Gd.none rfl rfl ?_
  refine o_extract (AV.lit (.string (({data := #[56]} : ByteArray)))) Gd.none rfl rfl ?_
  refine o_extract (nm .i64 (0)) Gd.none rfl rfl ?_
  refine o_assign (AV.lit (.string (({data := #[51]} : ByteArray)))) Gd.none rfl ?_
  refine o_assign (AV.lit (.string (({data := #[56]} : ByteArray)))) Gd.none rfl ?_
  refine o_assign (nm .i64 (0)) Gd.none rfl ?_
  refine aops_end ?_
  refine hK3 _ ?_
  refine awp_seq fun K4 hK4 => ?_
  refine awp_region rfl ?_
  refine o_loadA [(AV.lit (.int .i64 ((kinM 3 1).mod))), (AV.sl 1 (is .i64 ((kinM 3 1).mul))), (AV.sl 1 (is .i64 ((kinM 3 1).add)))] Gd.none Xd_tA24 rfl rfl rfl rfl rfl ?_
  refine o_call [(AV.agg [(AV.lit (.int .i64 ((kinM 3 1).mod))), (AV.sl 1 (is .i64 ((kinM 3 1).mul))), (AV.sl 1 (is .i64 ((kinM 3 1).add)))]), (AV.lit (.string (({data := #[55]} : ByteArray)))), (nm .i64 (4))] (AV.tup [(AV.sl 1 (is .i64 ([1, 1, 1, 0]))), (nm .i64 (0))]) Gd.none Xd_tC12 rfl (by have h := c_oWord (kinM 3 1) ⟨#[55]⟩ 4 (by decide); rw [exW_word.1, exW_word.2] at h; exact h) ?_
  refine o_move (AV.tup [(AV.sl 1 (is .i64 ([1, 1, 1, 0]))), (nm .i64 (0))]) Gd.none rfl ?_
  refine o_extract (AV.sl 1 (is .i64 ([1, 1, 1, 0]))) Gd.none rfl rfl ?_
  refine o_extract (nm .i64 (0)) Gd.none rfl rfl ?_
  refine o_assign (AV.sl 1 (is .i64 ([1, 1, 1, 0]))) Gd.none rfl ?_
  refine o_assign (nm .i64 (0)) Gd.none rfl ?_
  refine aops_end ?_
  refine hK4 _ ?_
  refine awp_seq fun K5 hK5 => ?_
  refine awp_region rfl ?_
  refine o_build [(AV.lit (.string (({data := #[57]} : ByteArray)))), (AV.lit (.string (({data := #[53]} : ByteArray)))), (AV.lit (.string (({data := #[56]} : ByteArray))))] [(0, [(AV.lit (.string (({data := #[57]} : ByteArray))))]), (1, [(AV.lit (.string (({data := #[53]} : ByteArray))))]), (2, [(AV.lit (.string (({data := #[56]} : ByteArray))))])] Gd.none Xd_tP41 Xd_tO41 rfl rfl rfl ?_
  refine o_call [(AV.agg [(AV.lit (.string (({data := #[57]} : ByteArray)))), (AV.lit (.string (({data := #[53]} : ByteArray)))), (AV.lit (.string (({data := #[56]} : ByteArray))))]), (AV.lit (.string (({data := #[49, 49]} : ByteArray))))] (AV.tup [(AV.lit (.string (({data := #[49, 51]} : ByteArray)))), (AV.lit (.bool true)), (nm .i64 (0))]) Gd.none Xd_tC28 rfl (by have h := c_oApply exL ⟨#[49, 49]⟩ (by decide) (by decide) (by decide) (by decide); rw [exW_app.1, bp_yes exW_app.2.1, exW_app.2.2] at h; exact h) ?_
  refine o_move (AV.tup [(AV.lit (.string (({data := #[49, 51]} : ByteArray)))), (AV.lit (.bool true)), (nm .i64 (0))]) Gd.none rfl ?_
  refine o_extract (AV.lit (.string (({data := #[49, 51]} : ByteArray)))) Gd.none rfl rfl ?_
  refine o_extract (AV.lit (.bool true)) Gd.none rfl rfl ?_
  refine o_extract (nm .i64 (0)) Gd.none rfl rfl ?_
  refine o_assign (AV.lit (.string (({data := #[49, 51]} : ByteArray)))) Gd.none rfl ?_
  refine o_assign (AV.lit (.bool true)) Gd.none rfl ?_
  refine o_assign (nm .i64 (0)) Gd.none rfl ?_
  refine aops_end ?_
  refine hK5 _ ?_
  refine awp_seq fun K6 hK6 => ?_
  refine awp_region rfl ?_
  refine o_build [(AV.lit (.string (({data := #[57]} : ByteArray)))), (AV.lit (.string (({data := #[53]} : ByteArray)))), (AV.lit (.string (({data := #[56]} : ByteArray))))] [(0, [(AV.lit (.string (({data := #[57]} : ByteArray))))]), (1, [(AV.lit (.string (({data := #[53]} : ByteArray))))]), (2, [(AV.lit (.string (({data := #[56]} : ByteArray))))])] Gd.none Xd_tP41 Xd_tO41 rfl rfl rfl ?_
  refine o_call [(AV.agg [(AV.lit (.string (({data := #[57]} : ByteArray)))), (AV.lit (.string (({data := #[53]} : ByteArray)))), (AV.lit (.string (({data := #[56]} : ByteArray))))]), (AV.lit (.string (({data := #[49, 50]} : ByteArray))))] (AV.tup [(AV.lit (.string (({data := #[]} : ByteArray)))), (AV.lit (.bool false)), (nm .i64 (0))]) Gd.none Xd_tC28 rfl (by have h := c_oApply exL ⟨#[49, 50]⟩ (by decide) (by decide) (by decide) (by decide); rw [exW_app2.1, bp_no exW_app2.2.1, exW_app2.2.2] at h; exact h) ?_
  refine o_move (AV.tup [(AV.lit (.string (({data := #[]} : ByteArray)))), (AV.lit (.bool false)), (nm .i64 (0))]) Gd.none rfl ?_
  refine o_extract (AV.lit (.string (({data := #[]} : ByteArray)))) Gd.none rfl rfl ?_
  refine o_extract (AV.lit (.bool false)) Gd.none rfl rfl ?_
  refine o_extract (nm .i64 (0)) Gd.none rfl rfl ?_
  refine o_assign (AV.lit (.string (({data := #[]} : ByteArray)))) Gd.none rfl ?_
  refine o_assign (AV.lit (.bool false)) Gd.none rfl ?_
  refine o_assign (nm .i64 (0)) Gd.none rfl ?_
  refine aops_end ?_
  refine hK6 _ ?_
  refine awp_seq fun K7 hK7 => ?_
  refine awp_region rfl ?_
  refine o_move (nm .i64 (0)) Gd.none rfl ?_
  refine n_eql (0) (0) Gd.none rfl rfl ?_
  refine o_move (bp ((0) = (0))) Gd.none rfl ?_
  refine o_loadA [(AV.lit (.string (({data := #[57]} : ByteArray)))), (AV.lit (.string (({data := #[53]} : ByteArray)))), (AV.lit (.string (({data := #[56]} : ByteArray))))] (Gd.yes rfl rfl (decide_eq_true (by decide))) Xd_tA41 rfl rfl rfl rfl rfl ?_
  refine o_build [(AV.lit (.string (({data := #[57]} : ByteArray)))), (AV.lit (.string (({data := #[53]} : ByteArray)))), (AV.lit (.string (({data := #[56]} : ByteArray))))] [(0, [(AV.lit (.string (({data := #[57]} : ByteArray))))]), (1, [(AV.lit (.string (({data := #[53]} : ByteArray))))]), (2, [(AV.lit (.string (({data := #[56]} : ByteArray))))])] (Gd.yes rfl rfl (decide_eq_true (by decide))) Xd_tP41 Xd_tO41 rfl rfl rfl ?_
  refine o_eqlA [.string (({data := #[57]} : ByteArray)), .string (({data := #[53]} : ByteArray)), .string (({data := #[56]} : ByteArray))] [.string (({data := #[57]} : ByteArray)), .string (({data := #[53]} : ByteArray)), .string (({data := #[56]} : ByteArray))] ((({data := #[57]} : ByteArray)) = (({data := #[57]} : ByteArray)) ∧ (({data := #[53]} : ByteArray)) = (({data := #[53]} : ByteArray)) ∧ (({data := #[56]} : ByteArray)) = (({data := #[56]} : ByteArray))) (Gd.yes rfl rfl (decide_eq_true (by decide))) rfl rfl (eq_api_Line _ _ _ _ _ _) ?_
  refine o_pickT (b := decide ((0) = (0))) (bp ((({data := #[57]} : ByteArray)) = (({data := #[57]} : ByteArray)) ∧ (({data := #[53]} : ByteArray)) = (({data := #[53]} : ByteArray)) ∧ (({data := #[56]} : ByteArray)) = (({data := #[56]} : ByteArray)))) Gd.none rfl (decide_eq_true (by decide)) rfl ?_
  refine o_move (bp ((({data := #[57]} : ByteArray)) = (({data := #[57]} : ByteArray)) ∧ (({data := #[53]} : ByteArray)) = (({data := #[53]} : ByteArray)) ∧ (({data := #[56]} : ByteArray)) = (({data := #[56]} : ByteArray)))) Gd.none rfl ?_
  refine o_move (nm .i64 (0)) (Gd.yes rfl rfl (decide_eq_true ⟨rfl, rfl, rfl⟩)) rfl ?_
  refine n_eql (0) (0) (Gd.yes rfl rfl (decide_eq_true ⟨rfl, rfl, rfl⟩)) rfl rfl ?_
  refine o_pickT (b := decide ((({data := #[57]} : ByteArray)) = (({data := #[57]} : ByteArray)) ∧ (({data := #[53]} : ByteArray)) = (({data := #[53]} : ByteArray)) ∧ (({data := #[56]} : ByteArray)) = (({data := #[56]} : ByteArray)))) (bp ((0) = (0))) Gd.none rfl (decide_eq_true ⟨rfl, rfl, rfl⟩) rfl ?_
  refine o_move (bp ((0) = (0))) Gd.none rfl ?_
  refine o_move (AV.lit (.string (({data := #[51]} : ByteArray)))) (Gd.yes rfl rfl (decide_eq_true (by decide))) rfl ?_
  refine o_eqlS (a := (({data := #[51]} : ByteArray))) (c := (({data := #[51]} : ByteArray))) (Gd.yes rfl rfl (decide_eq_true (by decide))) rfl rfl ?_
  refine o_pickT (b := decide ((0) = (0))) (bp ((({data := #[51]} : ByteArray)).toList = (({data := #[51]} : ByteArray)).toList)) Gd.none rfl (decide_eq_true (by decide)) rfl ?_
  refine o_move (bp ((({data := #[51]} : ByteArray)).toList = (({data := #[51]} : ByteArray)).toList)) Gd.none rfl ?_
  refine o_move (AV.lit (.string (({data := #[56]} : ByteArray)))) (Gd.yes rfl rfl (decide_eq_true rfl)) rfl ?_
  refine o_eqlS (a := (({data := #[56]} : ByteArray))) (c := (({data := #[56]} : ByteArray))) (Gd.yes rfl rfl (decide_eq_true rfl)) rfl rfl ?_
  refine o_pickT (b := decide ((({data := #[51]} : ByteArray)).toList = (({data := #[51]} : ByteArray)).toList)) (bp ((({data := #[56]} : ByteArray)).toList = (({data := #[56]} : ByteArray)).toList)) Gd.none rfl (decide_eq_true rfl) rfl ?_
  refine o_move (bp ((({data := #[56]} : ByteArray)).toList = (({data := #[56]} : ByteArray)).toList)) Gd.none rfl ?_
  refine o_move (nm .i64 (0)) (Gd.yes rfl rfl (decide_eq_true rfl)) rfl ?_
  refine n_eql (0) (0) (Gd.yes rfl rfl (decide_eq_true rfl)) rfl rfl ?_
  refine o_pickT (b := decide ((({data := #[56]} : ByteArray)).toList = (({data := #[56]} : ByteArray)).toList)) (bp ((0) = (0))) Gd.none rfl (decide_eq_true rfl) rfl ?_
  refine o_move (bp ((0) = (0))) Gd.none rfl ?_
  refine o_move (AV.sl 1 (is .i64 ([1, 1, 1, 0]))) (Gd.yes rfl rfl (decide_eq_true (by decide))) rfl ?_
  refine o_buildSlice 6 (ns .i64 ([1, 1, 1, 0])) [(0, [(nm .i64 (1))]), (1, [(nm .i64 (1))]), (2, [(nm .i64 (1))]), (3, [(nm .i64 (0))])] (Gd.yes rfl rfl (decide_eq_true (by decide))) Xd_tE22 rfl Xd_tO3 rfl rfl rfl rfl rfl rfl rfl ?_
  refine o_callG [(6, 1, (ns .i64 ([1, 1, 1, 0])))] [(AV.sl 1 (is .i64 ([1, 1, 1, 0]))), (AV.sl 1 (ns .i64 ([1, 1, 1, 0])))] _ (bp ([1, 1, 1, 0] = [1, 1, 1, 0])) [(4, (AO.var 41 [(AV.lit (.string (({data := #[57]} : ByteArray)))), (AV.lit (.string (({data := #[53]} : ByteArray)))), (AV.lit (.string (({data := #[56]} : ByteArray))))])), (2, (AO.var 24 [(AV.lit (.int .i64 ((kinM 3 1).mod))), (AV.sl 1 (is .i64 ((kinM 3 1).mul))), (AV.sl 1 (is .i64 ((kinM 3 1).add)))]))] (Gd.yes rfl rfl (decide_eq_true (by decide))) Xd_tC19 rfl (And.intro ⟨_, rfl⟩ (trivial)) rfl rfl (LeL.cons (AV.le_refl _) (LeL.cons (AV.le_refl _) (LeL.nil))) (c_gAlike [1, 1, 1, 0] [1, 1, 1, 0]) rfl ?_
  refine o_pickT (b := decide ((0) = (0))) (bp ([1, 1, 1, 0] = [1, 1, 1, 0])) Gd.none rfl (decide_eq_true (by decide)) rfl ?_
  refine o_move (bp ([1, 1, 1, 0] = [1, 1, 1, 0])) Gd.none rfl ?_
  refine o_move (nm .i64 (0)) (Gd.yes rfl rfl (decide_eq_true rfl)) rfl ?_
  refine n_eql (0) (0) (Gd.yes rfl rfl (decide_eq_true rfl)) rfl rfl ?_
  refine o_pickT (b := decide ([1, 1, 1, 0] = [1, 1, 1, 0])) (bp ((0) = (0))) Gd.none rfl (decide_eq_true rfl) rfl ?_
  refine o_move (bp ((0) = (0))) Gd.none rfl ?_
  refine o_move (AV.lit (.string (({data := #[49, 51]} : ByteArray)))) (Gd.yes rfl rfl (decide_eq_true (by decide))) rfl ?_
  refine o_eqlS (a := (({data := #[49, 51]} : ByteArray))) (c := (({data := #[49, 51]} : ByteArray))) (Gd.yes rfl rfl (decide_eq_true (by decide))) rfl rfl ?_
  refine o_pickT (b := decide ((0) = (0))) (bp ((({data := #[49, 51]} : ByteArray)).toList = (({data := #[49, 51]} : ByteArray)).toList)) Gd.none rfl (decide_eq_true (by decide)) rfl ?_
  refine o_move (bp ((({data := #[49, 51]} : ByteArray)).toList = (({data := #[49, 51]} : ByteArray)).toList)) Gd.none rfl ?_
  refine o_move (AV.lit (.bool true)) (Gd.yes rfl rfl (decide_eq_true rfl)) rfl ?_
  refine o_pickT (b := decide ((({data := #[49, 51]} : ByteArray)).toList = (({data := #[49, 51]} : ByteArray)).toList)) (AV.lit (.bool true)) Gd.none rfl (decide_eq_true rfl) rfl ?_
  refine o_move (AV.lit (.bool true)) Gd.none rfl ?_
  refine o_move (nm .i64 (0)) (Gd.yes rfl rfl rfl) rfl ?_
  refine n_eql (0) (0) (Gd.yes rfl rfl rfl) rfl rfl ?_
  refine o_pickT (b := true) (bp ((0) = (0))) Gd.none rfl rfl rfl ?_
  refine o_move (bp ((0) = (0))) Gd.none rfl ?_
  refine o_move (AV.lit (.string (({data := #[]} : ByteArray)))) (Gd.yes rfl rfl (decide_eq_true (by decide))) rfl ?_
  refine o_eqlS (a := (({data := #[]} : ByteArray))) (c := (({data := #[]} : ByteArray))) (Gd.yes rfl rfl (decide_eq_true (by decide))) rfl rfl ?_
  refine o_pickT (b := decide ((0) = (0))) (bp ((({data := #[]} : ByteArray)).toList = (({data := #[]} : ByteArray)).toList)) Gd.none rfl (decide_eq_true (by decide)) rfl ?_
  refine o_move (bp ((({data := #[]} : ByteArray)).toList = (({data := #[]} : ByteArray)).toList)) Gd.none rfl ?_
  refine o_move (AV.lit (.bool false)) (Gd.yes rfl rfl (decide_eq_true rfl)) rfl ?_
  refine o_not (b := false) (Gd.yes rfl rfl (decide_eq_true rfl)) rfl ?_
  refine o_pickT (b := decide ((({data := #[]} : ByteArray)).toList = (({data := #[]} : ByteArray)).toList)) (AV.lit (.bool true)) Gd.none rfl (decide_eq_true rfl) rfl ?_
  refine o_assign (AV.lit (.bool true)) Gd.none rfl ?_
  refine aops_end ?_
  refine hK7 _ ?_
  refine awp_ret ?_
  refine post_ret ⟨[(AV.lit (.bool true))], And.intro (AV.le_refl _) (trivial), rfl, ?_⟩
  first | rfl | simp [bp]

end Go.Proofs.YtbilndahjkimkaaDoor

set_option linter.unusedVariables false
set_option linter.unusedSimpArgs false
namespace Go.Mth
open Go.Ab
theorem fit_of_pow' {z : Int} {k : Nat} (h : z.natAbs < 10 ^ k) (hk : k ≤ 2000) (h1 : 1 ≤ k) : Fit z := fit_of_pow h hk h1
theorem ten2 (k : Nat) : (100 : Nat) ^ k = 10 ^ (2 * k) := by rw [Nat.pow_mul]
theorem mod_pow_lt {m : MapM} (hm : OkM m) (k : Nat) : (m.mod ^ k).natAbs < 10 ^ (2 * k + 1) := by
  obtain ⟨o1, o2, _⟩ := hm
  rw [Int.natAbs_pow]
  have h1 : m.mod.natAbs ^ k ≤ 100 ^ k := Nat.pow_le_pow_left (by omega) k
  have h2 : (10 : Nat) ^ (2 * k) < 10 ^ (2 * k + 1) := Nat.pow_lt_pow_right (by decide) (by omega)
  rw [ten2] at h1
  omega
theorem mod_pow_fit {m : MapM} (hm : OkM m) {k : Nat} (hk : k ≤ 200) : Fit (m.mod ^ k) := fit_of_pow' (mod_pow_lt hm k) (by omega) (by omega)
theorem mod_pow_pos {m : MapM} (hm : OkM m) (k : Nat) : 0 < m.mod ^ k := Int.pow_pos (by have := hm.1; omega)
theorem rest_fit {m : MapM} (hm : OkM m) (hf : freeM m) {w : List Int} (hw : OkW m w) : 0 ≤ (restZ m w).1 ∧ (restZ m w).1 < m.mod ^ w.length ∧ Fit (restZ m w).1 := by
  obtain ⟨_, h2, h3, _⟩ := restZ_ok hm hf w hw.1
  exact ⟨h2, h3, fit_le (by omega) (mod_pow_fit hm hw.2)⟩
theorem word_or {m : MapM} {a : ByteArray} {K : Int} (h : okM m = true ∧ okS a = true) (h2 : 0 ≤ K ∧ K ≤ 200) : (wordE m a K = 0 ∧ wordL m a K = wordZ m (numS a) K.toNat ∧ FitK m (numS a) K.toNat) ∨ (wordE m a K = 3 ∧ wordL m a K = [] ∧ ¬ FitK m (numS a) K.toNat) := by
  by_cases hf : FitK m (numS a) K.toNat
  · exact .inl ⟨(wordE_0 h h2 hf).1, (wordE_0 h h2 hf).2, hf⟩
  · exact .inr ⟨(wordE_3 h h2 hf).1, (wordE_3 h h2 hf).2, hf⟩
theorem word_0 {m : MapM} {a : ByteArray} {K : Int} (h : okM m = true ∧ okS a = true) (h2 : 0 ≤ K ∧ K ≤ 200) (h0 : wordE m a K = 0) : wordL m a K = wordZ m (numS a) K.toNat ∧ FitK m (numS a) K.toNat := by
  rcases word_or h h2 with e | e
  · exact e.2
  · rw [e.1] at h0; cases h0
theorem word_3 {m : MapM} {a : ByteArray} {K : Int} (h : okM m = true ∧ okS a = true) (h2 : 0 ≤ K ∧ K ≤ 200) (h0 : ¬ wordE m a K = 0) : wordE m a K = 3 ∧ ¬ FitK m (numS a) K.toNat := by
  rcases word_or h h2 with e | e
  · exact absurd e.1 h0
  · exact ⟨e.1, e.2.2⟩
theorem len_subZ (a b : Int) : (digs (a - b).natAbs).length ≤ max (digs a.natAbs).length (digs b.natAbs).length + 1 := by
  have := len_addZ a (-b)
  rwa [Int.natAbs_neg, ← Int.sub_eq_add_neg] at this
theorem rest_y (x : Int) {D Z : Int} (h0 : 0 ≤ Z) (h1 : Z < D) : (x - x % D + Z) % D = Z := by
  have := Int.mul_ediv_add_emod x D
  rw [show x - x % D + Z = Z + D * (x / D) by omega, Int.add_mul_emod_self_left]
  exact Int.emod_eq_of_lt h0 h1
end Go.Mth

set_option linter.unusedVariables false
set_option linter.unusedSimpArgs false
namespace Go.Proofs.YtbilndahjkimkaaDoor
open Go Go.Ab Go.Mth
end Go.Proofs.YtbilndahjkimkaaDoor

set_option linter.unusedVariables false
set_option linter.unusedSimpArgs false
namespace Go.Proofs.YtbilndahjkimkaaDoor
open Go Go.Ab Go.Mth
end Go.Proofs.YtbilndahjkimkaaDoor

set_option linter.unusedVariables false
set_option linter.unusedSimpArgs false
namespace Go.Proofs.YtbilndahjkimkaaDoor
open Go Go.Ab Go.Mth
end Go.Proofs.YtbilndahjkimkaaDoor

set_option linter.unusedVariables false
set_option linter.unusedSimpArgs false
namespace Go.Proofs.YtbilndahjkimkaaDoor
open Go Go.Ab Go.Mth
end Go.Proofs.YtbilndahjkimkaaDoor

set_option linter.unusedVariables false
set_option linter.unusedSimpArgs false
namespace Go.Proofs.YtbilndahjkimkaaDoor
open Go Go.Ab Go.Mth
theorem Xg1_tA24 : tyAgg cx.P 24 = some 3 := by kernel_rfl
theorem Xg1_tC14 : callable cx.P 14 = true := by kernel_rfl
theorem Xg1_tC16 : callable cx.P 16 = true := by kernel_rfl
theorem Xg1_tC25 : callable cx.P 25 = true := by kernel_rfl
theorem Xg1_tC22 : callable cx.P 22 = true := by kernel_rfl
theorem Xg1_tC15 : callable cx.P 15 = true := by kernel_rfl
theorem Xg1_tC21 : callable cx.P 21 = true := by kernel_rfl
theorem Xg1_tC18 : callable cx.P 18 = true := by kernel_rfl
theorem Xg1_tC29 : callable cx.P 29 = true := by kernel_rfl
theorem Xg1_tO36 : tyZero cx.P 36 = some [(Go.Value.bool false), (Go.Value.slice none 0 0)] := by kernel_rfl
theorem Xg1_tZ36 : tySize cx.P 36 = some 2 := by kernel_rfl
theorem Xg1_tA36 : tyAgg cx.P 36 = some 2 := by kernel_rfl
theorem Xg1_tC33 : callable cx.P 33 = true := by kernel_rfl
theorem Xg1_tC32 : callable cx.P 32 = true := by kernel_rfl
theorem Xg1_tU22 : cx.P.underlying 22 = some (.slice 3) := by kernel_rfl
theorem Xg1_tC12 : callable cx.P 12 = true := by kernel_rfl
theorem Xg1_tC19 : callable cx.P 19 = true := by kernel_rfl
theorem Xg1_tB4 : cx.P.underlying 4 = some .bool := by kernel_rfl
theorem Xg1_tC35 : callable cx.P 35 = true := by kernel_rfl
theorem Xg1_tC34 : callable cx.P 34 = true := by kernel_rfl
theorem Xg1_tC31 : callable cx.P 31 = true := by kernel_rfl
theorem Xg1_tC27 : callable cx.P 27 = true := by kernel_rfl
theorem c_WordTerras (m : MapM) (w : List Int) (a : ByteArray) (hwl : w.length ≤ 17592186044416) (ha : a.size ≤ 9223372036854775807) : ECalls cx 6 [(mapV m), (AV.sl 1 (is .i64 (w))), (AV.lit (.string (a)))] (.lit (.bool true)) := by
  refine ecalls_of_awp Tryd.func6 (c := _) rfl (Nat.le_of_ble_eq_true rfl) ?_
  show awp cx 146 _ (postF cx Tryd.f6 _) ⟨[(0, (mapV m)), (1, (AV.sl 1 (is .i64 (w)))), (2, (AV.lit (.string (a))))], []⟩
  refine awp_seq fun K0 hK0 => ?_
  refine awp_region rfl ?_
  refine o_box 2 [(AV.lit (.int .i64 (m.mod))), (AV.sl 1 (is .i64 (m.mul))), (AV.sl 1 (is .i64 (m.add)))] Gd.none rfl rfl ?_
  refine o_assign (AV.lit (.bool false)) Gd.none rfl ?_
  refine aops_end ?_
  refine hK0 _ ?_
  refine awp_seq fun K1 hK1 => ?_
  refine awp_seq fun K2 hK2 => ?_
  refine awp_region rfl ?_
  refine o_loadA [(AV.lit (.int .i64 (m.mod))), (AV.sl 1 (is .i64 (m.mul))), (AV.sl 1 (is .i64 (m.add)))] Gd.none Xg1_tA24 rfl rfl rfl rfl rfl ?_
  refine o_call [(AV.agg [(AV.lit (.int .i64 (m.mod))), (AV.sl 1 (is .i64 (m.mul))), (AV.sl 1 (is .i64 (m.add)))])] (AV.lit (.bool (okM m))) Gd.none Xg1_tC14 rfl (c_gValid m) ?_
  refine o_not (b := okM m) Gd.none rfl ?_
  refine o_move (AV.lit (.bool (!(okM m)))) Gd.none rfl ?_
  refine o_split (b := !(okM m)) 23 rfl (fun h1 => ?_) (fun h1 => ?_)
  · have hm' : ¬ okM m = true := by simpa using h1
    refine o_skip (b := !(okM m)) rfl rfl h1 ?_
    refine o_skip (b := !(okM m)) rfl rfl h1 ?_
    refine o_skip (b := !(okM m)) rfl rfl h1 ?_
    refine o_pickT (b := !(okM m)) (AV.lit (.bool true)) Gd.none rfl h1 rfl ?_
    refine o_move (AV.lit (.bool true)) Gd.none rfl ?_
    refine o_skip (b := true) rfl rfl rfl ?_
    refine o_skip (b := true) rfl rfl rfl ?_
    refine o_skip (b := true) rfl rfl rfl ?_
    refine o_skip (b := true) rfl rfl rfl ?_
    refine o_pickT (b := true) (AV.lit (.bool true)) Gd.none rfl rfl rfl ?_
    refine o_move (AV.lit (.bool true)) Gd.none rfl ?_
    refine o_skip (b := true) rfl rfl rfl ?_
    refine o_skip (b := true) rfl rfl rfl ?_
    refine o_skip (b := true) rfl rfl rfl ?_
    refine o_pickT (b := true) (AV.lit (.bool true)) Gd.none rfl rfl rfl ?_
    refine aops_end ?_
    refine hK2 _ ?_
    refine awp_condB (b := true) rfl (fun _ => ?_) (fun hh => absurd (hh.symm.trans rfl) (by decide))
    refine awp_seq fun K3 hK3 => ?_
    refine awp_region rfl ?_
    refine o_call [] (AV.lit (.bool true)) Gd.none Xg1_tC16 rfl c_l3Awake ?_
    refine o_assign (AV.lit (.bool true)) Gd.none rfl ?_
    refine aops_end ?_
    refine hK3 _ ?_
    refine awp_ret ?_
    refine post_ret ⟨[(AV.lit (.bool true))], And.intro (AV.le_refl _) (trivial), rfl, ?_⟩
    first | rfl | simp [bp]
  · have hm' : okM m = true := by simpa using h1
    have hM := okM_iff.1 hm'
    refine o_loadA [(AV.lit (.int .i64 (m.mod))), (AV.sl 1 (is .i64 (m.mul))), (AV.sl 1 (is .i64 (m.add)))] (Gd.yes rfl rfl h1) Xg1_tA24 rfl rfl rfl rfl rfl ?_
    refine o_call [(AV.agg [(AV.lit (.int .i64 (m.mod))), (AV.sl 1 (is .i64 (m.mul))), (AV.sl 1 (is .i64 (m.add)))])] (bp (freeM m)) (Gd.yes rfl rfl h1) Xg1_tC25 rfl (c_gRegular m (by first | assumption | exact okM_iff.1 (by assumption))) ?_
    refine o_notP (q := freeM m) (Gd.yes rfl rfl h1) rfl ?_
    refine o_pickF (b := !(okM m)) (bp (¬ (freeM m))) Gd.none rfl h1 rfl ?_
    refine o_move (bp (¬ (freeM m))) Gd.none rfl ?_
    refine o_splitP (q := ¬ (freeM m)) 28 rfl (fun h2 => ?_) (fun h2 => ?_)
    · refine o_skip (b := decide (¬ (freeM m))) rfl rfl (decide_eq_true h2) ?_
      refine o_skip (b := decide (¬ (freeM m))) rfl rfl (decide_eq_true h2) ?_
      refine o_skip (b := decide (¬ (freeM m))) rfl rfl (decide_eq_true h2) ?_
      refine o_skip (b := decide (¬ (freeM m))) rfl rfl (decide_eq_true h2) ?_
      refine o_pickT (b := decide (¬ (freeM m))) (AV.lit (.bool true)) Gd.none rfl (decide_eq_true h2) rfl ?_
      refine o_move (AV.lit (.bool true)) Gd.none rfl ?_
      refine o_skip (b := true) rfl rfl rfl ?_
      refine o_skip (b := true) rfl rfl rfl ?_
      refine o_skip (b := true) rfl rfl rfl ?_
      refine o_pickT (b := true) (AV.lit (.bool true)) Gd.none rfl rfl rfl ?_
      refine aops_end ?_
      refine hK2 _ ?_
      refine awp_condB (b := true) rfl (fun _ => ?_) (fun hh => absurd (hh.symm.trans rfl) (by decide))
      refine awp_seq fun K4 hK4 => ?_
      refine awp_region rfl ?_
      refine o_call [] (AV.lit (.bool true)) Gd.none Xg1_tC16 rfl c_l3Awake ?_
      refine o_assign (AV.lit (.bool true)) Gd.none rfl ?_
      refine aops_end ?_
      refine hK4 _ ?_
      refine awp_ret ?_
      refine post_ret ⟨[(AV.lit (.bool true))], And.intro (AV.le_refl _) (trivial), rfl, ?_⟩
      first | rfl | simp [bp]
    · have hF : freeM m := Decidable.not_not.1 h2
      refine o_loadA [(AV.lit (.int .i64 (m.mod))), (AV.sl 1 (is .i64 (m.mul))), (AV.sl 1 (is .i64 (m.add)))] (Gd.yes rfl rfl (decide_eq_false h2)) Xg1_tA24 rfl rfl rfl rfl rfl ?_
      refine o_move (AV.sl 1 (is .i64 (w))) (Gd.yes rfl rfl (decide_eq_false h2)) rfl ?_
      refine o_call [(AV.agg [(AV.lit (.int .i64 (m.mod))), (AV.sl 1 (is .i64 (m.mul))), (AV.sl 1 (is .i64 (m.add)))]), (AV.sl 1 (is .i64 (w)))] (bp (OkW m (w))) (Gd.yes rfl rfl (decide_eq_false h2)) Xg1_tC22 rfl (c_vIs m (w) (by omega)) ?_
      refine o_notP (q := OkW m (w)) (Gd.yes rfl rfl (decide_eq_false h2)) rfl ?_
      refine o_pickF (b := decide (¬ (freeM m))) (bp (¬ (OkW m (w)))) Gd.none rfl (decide_eq_false h2) rfl ?_
      refine o_move (bp (¬ (OkW m (w)))) Gd.none rfl ?_
      refine o_splitP (q := ¬ (OkW m (w))) 34 rfl (fun h3 => ?_) (fun h3 => ?_)
      · refine o_skip (b := decide (¬ (OkW m (w)))) rfl rfl (decide_eq_true h3) ?_
        refine o_skip (b := decide (¬ (OkW m (w)))) rfl rfl (decide_eq_true h3) ?_
        refine o_skip (b := decide (¬ (OkW m (w)))) rfl rfl (decide_eq_true h3) ?_
        refine o_pickT (b := decide (¬ (OkW m (w)))) (AV.lit (.bool true)) Gd.none rfl (decide_eq_true h3) rfl ?_
        refine aops_end ?_
        refine hK2 _ ?_
        refine awp_condB (b := true) rfl (fun _ => ?_) (fun hh => absurd (hh.symm.trans rfl) (by decide))
        refine awp_seq fun K5 hK5 => ?_
        refine awp_region rfl ?_
        refine o_call [] (AV.lit (.bool true)) Gd.none Xg1_tC16 rfl c_l3Awake ?_
        refine o_assign (AV.lit (.bool true)) Gd.none rfl ?_
        refine aops_end ?_
        refine hK5 _ ?_
        refine awp_ret ?_
        refine post_ret ⟨[(AV.lit (.bool true))], And.intro (AV.le_refl _) (trivial), rfl, ?_⟩
        first | rfl | simp [bp]
      · have hW : OkW m w := Decidable.not_not.1 h3
        have hWl := hW.2
        refine o_move (AV.lit (.string (a))) (Gd.yes rfl rfl (decide_eq_false h3)) rfl ?_
        refine o_call [(AV.lit (.string (a)))] (AV.lit (.bool (okS (a)))) (Gd.yes rfl rfl (decide_eq_false h3)) Xg1_tC15 rfl (c_rValid (a) (by first | assumption | decide | omega)) ?_
        refine o_not (b := okS (a)) (Gd.yes rfl rfl (decide_eq_false h3)) rfl ?_
        refine o_pickF (b := decide (¬ (OkW m (w)))) (AV.lit (.bool (!(okS (a))))) Gd.none rfl (decide_eq_false h3) rfl ?_
        refine aops_end ?_
        refine hK2 _ ?_
        refine awp_condB (b := !(okS (a))) rfl (fun h4 => ?_) (fun h4 => ?_)
        · refine awp_seq fun K6 hK6 => ?_
          refine awp_region rfl ?_
          refine o_call [] (AV.lit (.bool true)) Gd.none Xg1_tC16 rfl c_l3Awake ?_
          refine o_assign (AV.lit (.bool true)) Gd.none rfl ?_
          refine aops_end ?_
          refine hK6 _ ?_
          refine awp_ret ?_
          refine post_ret ⟨[(AV.lit (.bool true))], And.intro (AV.le_refl _) (trivial), rfl, ?_⟩
          first | rfl | simp [bp]
        · have ha' : okS a = true := by simpa using h4
          have hS := okS_iff.1 ha'
          have hlz := len_numS hS
          have f := rest_0 hm' ⟨hW, hF⟩
          obtain ⟨r1, r2, r3⟩ := rest_fit hM hF hW
          have r4 := fit_len r3
          have r6 := mod_pow_fit hM hWl
          have r5 := fit_len r6
          have hpos := mod_pow_pos hM w.length
          have s1 := txt_sz r3
          have s2 := txt_sz r6
          have q1 := okS_iff.2 (okS_txt r3)
          have q2 := okS_iff.2 (okS_txt r6)
          have w1 := Int.emod_nonneg (numS a) (show m.mod ^ w.length ≠ 0 by omega)
          have w2 := Int.emod_lt_of_pos (numS a) hpos
          have w3 := fit_len (fit_le (x := numS a % (m.mod ^ w.length)) (y := m.mod ^ w.length) (by omega) r6)
          have y1 := len_subZ (numS a) (numS a % (m.mod ^ w.length))
          have y2 := len_addZ (numS a - numS a % (m.mod ^ w.length)) (restZ m w).1
          refine awp_skip ?_
          refine hK1 _ ?_
          refine awp_seq fun K7 hK7 => ?_
          refine awp_region rfl ?_
          refine o_loadA [(AV.lit (.int .i64 (m.mod))), (AV.sl 1 (is .i64 (m.mul))), (AV.sl 1 (is .i64 (m.add)))] Gd.none Xg1_tA24 rfl rfl rfl rfl rfl ?_
          refine o_move (AV.sl 1 (is .i64 (w))) Gd.none rfl ?_
          refine o_call [(AV.agg [(AV.lit (.int .i64 (m.mod))), (AV.sl 1 (is .i64 (m.mul))), (AV.sl 1 (is .i64 (m.add)))]), (AV.sl 1 (is .i64 (w)))] (AV.tup [(AV.lit (.string (restS m (w)))), (AV.lit (.string (restD m (w)))), (nm .i64 (restE m (w)))]) Gd.none Xg1_tC21 rfl (c_oRest m (w) (by omega)) ?_
          refine o_move (AV.tup [(AV.lit (.string (restS m (w)))), (AV.lit (.string (restD m (w)))), (nm .i64 (restE m (w)))]) Gd.none rfl ?_
          refine o_extract (AV.lit (.string (restS m (w)))) Gd.none rfl rfl ?_
          refine o_extract (AV.lit (.string (restD m (w)))) Gd.none rfl rfl ?_
          refine o_extract (nm .i64 (restE m (w))) Gd.none rfl rfl ?_
          refine o_assign (AV.lit (.string (restS m (w)))) Gd.none rfl ?_
          refine o_assign (AV.lit (.string (restD m (w)))) Gd.none rfl ?_
          refine o_assign (nm .i64 (restE m (w))) Gd.none rfl ?_
          refine aops_end ?_
          refine hK7 _ ?_
          refine awp_seq fun K8 hK8 => ?_
          refine awp_seq fun K9 hK9 => ?_
          refine awp_region rfl ?_
          refine o_move (nm .i64 (restE m (w))) Gd.none rfl ?_
          refine n_as (v' := (nm .i64 (0))) (by rw [f.1]) ?_
          refine n_neq (0) (0) Gd.none rfl rfl ?_
          refine o_move (bp ((0) ≠ (0))) Gd.none rfl ?_
          refine o_move (AV.lit (.string (restS m (w)))) (Gd.yes rfl rfl (decide_eq_false (by decide))) rfl ?_
          refine n_as (v' := (AV.lit (.string (txt (((restZ m (w)).1)))))) (by rw [f.2.1]) ?_
          refine o_call [(AV.lit (.string (txt (((restZ m (w)).1)))))] (AV.lit (.bool (okS (txt (((restZ m (w)).1)))))) (Gd.yes rfl rfl (decide_eq_false (by decide))) Xg1_tC15 rfl (c_rValid (txt (((restZ m (w)).1))) (by first | assumption | decide | omega)) ?_
          refine n_as (v' := (AV.lit (.bool true))) (by rw [q1]) ?_
          refine o_not (b := true) (Gd.yes rfl rfl (decide_eq_false (by decide))) rfl ?_
          refine o_pickF (b := decide ((0) ≠ (0))) (AV.lit (.bool false)) Gd.none rfl (decide_eq_false (by decide)) rfl ?_
          refine o_move (AV.lit (.bool false)) Gd.none rfl ?_
          refine o_move (AV.lit (.string (restD m (w)))) (Gd.yes rfl rfl rfl) rfl ?_
          refine n_as (v' := (AV.lit (.string (txt ((m.mod ^ (w).length)))))) (by rw [f.2.2]) ?_
          refine o_call [(AV.lit (.string (txt ((m.mod ^ (w).length)))))] (AV.lit (.bool (okS (txt ((m.mod ^ (w).length)))))) (Gd.yes rfl rfl rfl) Xg1_tC15 rfl (c_rValid (txt ((m.mod ^ (w).length))) (by first | assumption | decide | omega)) ?_
          refine n_as (v' := (AV.lit (.bool true))) (by rw [q2]) ?_
          refine o_not (b := true) (Gd.yes rfl rfl rfl) rfl ?_
          refine o_pickF (b := false) (AV.lit (.bool false)) Gd.none rfl rfl rfl ?_
          refine o_move (AV.lit (.bool false)) Gd.none rfl ?_
          refine o_move (AV.lit (.string (restD m (w)))) (Gd.yes rfl rfl rfl) rfl ?_
          refine n_as (v' := (AV.lit (.string (txt ((m.mod ^ (w).length)))))) (by rw [f.2.2]) ?_
          refine o_call [(AV.lit (.string (txt ((m.mod ^ (w).length)))))] (intR ((numS (txt ((m.mod ^ (w).length)))))) (Gd.yes rfl rfl rfl) Xg1_tC18 rfl (c_rParse (txt ((m.mod ^ (w).length))) (by first | assumption | exact okS_iff.1 (by assumption))) ?_
          refine n_as (v' := (intR ((m.mod ^ (w).length)))) (by simp only [numS_txt]) ?_
          refine o_call [(intR ((m.mod ^ (w).length)))] (AV.lit (.int .i64 (sgn ((m.mod ^ (w).length))))) (Gd.yes rfl rfl rfl) Xg1_tC29 rfl (c_rSign ((m.mod ^ (w).length))) ?_
          refine o_leq (a := (sgn ((m.mod ^ (w).length)))) (c := (((0 : Nat) : Int))) (Gd.yes rfl rfl rfl) rfl rfl ?_
          refine n_as (v' := (AV.lit (.bool false))) (by exact bp_no (fun e => absurd (sgn_le.1 e) (by omega))) ?_
          refine o_pickF (b := false) (AV.lit (.bool false)) Gd.none rfl rfl rfl ?_
          refine aops_end ?_
          refine hK9 _ ?_
          refine awp_condB (b := false) rfl (fun hh => absurd (hh.symm.trans rfl) (by decide)) (fun _ => ?_)
          refine awp_skip ?_
          refine hK8 _ ?_
          refine awp_seq fun K10 hK10 => ?_
          refine awp_region rfl ?_
          refine o_move (AV.lit (.string (restS m (w)))) Gd.none rfl ?_
          refine n_as (v' := (AV.lit (.string (txt (((restZ m (w)).1)))))) (by rw [f.2.1]) ?_
          refine o_call [(AV.lit (.string (txt (((restZ m (w)).1)))))] (intR ((numS (txt (((restZ m (w)).1)))))) Gd.none Xg1_tC18 rfl (c_rParse (txt (((restZ m (w)).1))) (by first | assumption | exact okS_iff.1 (by assumption))) ?_
          refine n_as (v' := (intR (((restZ m (w)).1)))) (by simp only [numS_txt]) ?_
          refine o_move (AV.lit (.string (restD m (w)))) Gd.none rfl ?_
          refine n_as (v' := (AV.lit (.string (txt ((m.mod ^ (w).length)))))) (by rw [f.2.2]) ?_
          refine o_call [(AV.lit (.string (txt ((m.mod ^ (w).length)))))] (intR ((numS (txt ((m.mod ^ (w).length)))))) Gd.none Xg1_tC18 rfl (c_rParse (txt ((m.mod ^ (w).length))) (by first | assumption | exact okS_iff.1 (by assumption))) ?_
          refine n_as (v' := (intR ((m.mod ^ (w).length)))) (by simp only [numS_txt]) ?_
          refine o_move (AV.lit (.string (a))) Gd.none rfl ?_
          refine o_call [(AV.lit (.string (a)))] (intR ((numS (a)))) Gd.none Xg1_tC18 rfl (c_rParse (a) (by first | assumption | exact okS_iff.1 (by assumption))) ?_
          refine o_alloc 3 [(AV.lit (.bool false)), (AV.lit (.slice none 0 0))] Gd.none Xg1_tO36 rfl rfl rfl ?_
          refine o_alloc 4 [(AV.lit (.bool false)), (AV.lit (.slice none 0 0))] Gd.none Xg1_tO36 rfl rfl rfl ?_
          refine o_alloc 5 [(AV.lit (.bool false)), (AV.lit (.slice none 0 0))] Gd.none Xg1_tO36 rfl rfl rfl ?_
          refine o_store [(5, (AO.var 36 [(AV.lit (.bool false)), (AV.lit (.slice none 0 0))])), (4, (AO.var 36 [(AV.lit (.bool false)), (AV.lit (.slice none 0 0))])), (3, (AO.var 36 [(bp (((restZ m (w)).1) < 0)), (AV.sl 1 (ns .i64 (digs (((restZ m (w)).1)).natAbs)))])), (2, (AO.var 24 [(AV.lit (.int .i64 (m.mod))), (AV.sl 1 (is .i64 (m.mul))), (AV.sl 1 (is .i64 (m.add)))]))] Gd.none Xg1_tZ36 rfl rfl rfl rfl rfl rfl ?_
          refine o_store [(5, (AO.var 36 [(AV.lit (.bool false)), (AV.lit (.slice none 0 0))])), (4, (AO.var 36 [(bp ((m.mod ^ (w).length) < 0)), (AV.sl 1 (ns .i64 (digs ((m.mod ^ (w).length)).natAbs)))])), (3, (AO.var 36 [(bp (((restZ m (w)).1) < 0)), (AV.sl 1 (ns .i64 (digs (((restZ m (w)).1)).natAbs)))])), (2, (AO.var 24 [(AV.lit (.int .i64 (m.mod))), (AV.sl 1 (is .i64 (m.mul))), (AV.sl 1 (is .i64 (m.add)))]))] Gd.none Xg1_tZ36 rfl rfl rfl rfl rfl rfl ?_
          refine o_store [(5, (AO.var 36 [(bp ((numS (a)) < 0)), (AV.sl 1 (ns .i64 (digs ((numS (a))).natAbs)))])), (4, (AO.var 36 [(bp ((m.mod ^ (w).length) < 0)), (AV.sl 1 (ns .i64 (digs ((m.mod ^ (w).length)).natAbs)))])), (3, (AO.var 36 [(bp (((restZ m (w)).1) < 0)), (AV.sl 1 (ns .i64 (digs (((restZ m (w)).1)).natAbs)))])), (2, (AO.var 24 [(AV.lit (.int .i64 (m.mod))), (AV.sl 1 (is .i64 (m.mul))), (AV.sl 1 (is .i64 (m.add)))]))] Gd.none Xg1_tZ36 rfl rfl rfl rfl rfl rfl ?_
          refine aops_end ?_
          refine hK10 _ ?_
          refine awp_seq fun K11 hK11 => ?_
          refine awp_seq fun K12 hK12 => ?_
          refine awp_region rfl ?_
          refine o_loadA [(bp (((restZ m (w)).1) < 0)), (AV.sl 1 (ns .i64 (digs (((restZ m (w)).1)).natAbs)))] Gd.none Xg1_tA36 rfl rfl rfl rfl rfl ?_
          refine o_call [(AV.agg [(bp (((restZ m (w)).1) < 0)), (AV.sl 1 (ns .i64 (digs (((restZ m (w)).1)).natAbs)))])] (AV.lit (.int .i64 (sgn (((restZ m (w)).1))))) Gd.none Xg1_tC29 rfl (c_rSign (((restZ m (w)).1))) ?_
          refine o_lss (a := (sgn (((restZ m (w)).1)))) (c := (((0 : Nat) : Int))) Gd.none rfl rfl ?_
          refine n_as (v' := (AV.lit (.bool false))) (by exact bp_no (fun e => absurd (sgn_neg.1 e) (by omega))) ?_
          refine o_move (AV.lit (.bool false)) Gd.none rfl ?_
          refine o_loadA [(bp (((restZ m (w)).1) < 0)), (AV.sl 1 (ns .i64 (digs (((restZ m (w)).1)).natAbs)))] (Gd.yes rfl rfl rfl) Xg1_tA36 rfl rfl rfl rfl rfl ?_
          refine o_loadA [(bp ((m.mod ^ (w).length) < 0)), (AV.sl 1 (ns .i64 (digs ((m.mod ^ (w).length)).natAbs)))] (Gd.yes rfl rfl rfl) Xg1_tA36 rfl rfl rfl rfl rfl ?_
          refine o_call [(AV.agg [(bp (((restZ m (w)).1) < 0)), (AV.sl 1 (ns .i64 (digs (((restZ m (w)).1)).natAbs)))]), (AV.agg [(bp ((m.mod ^ (w).length) < 0)), (AV.sl 1 (ns .i64 (digs ((m.mod ^ (w).length)).natAbs)))])] (AV.lit (.int .i64 (cmpZ (((restZ m (w)).1)) ((m.mod ^ (w).length))))) (Gd.yes rfl rfl rfl) Xg1_tC33 rfl (c_rCmp (((restZ m (w)).1)) ((m.mod ^ (w).length))) ?_
          refine o_geq (a := (cmpZ (((restZ m (w)).1)) ((m.mod ^ (w).length)))) (c := (((0 : Nat) : Int))) (Gd.yes rfl rfl rfl) rfl rfl ?_
          refine n_as (v' := (AV.lit (.bool false))) (by exact bp_no (fun e => by have := cmpZ_lt.2 r2; omega)) ?_
          refine o_pickF (b := false) (AV.lit (.bool false)) Gd.none rfl rfl rfl ?_
          refine aops_end ?_
          refine hK12 _ ?_
          refine awp_condB (b := false) rfl (fun hh => absurd (hh.symm.trans rfl) (by decide)) (fun _ => ?_)
          refine awp_skip ?_
          refine hK11 _ ?_
          refine awp_seq fun K13 hK13 => ?_
          refine awp_region rfl ?_
          refine o_loadA [(bp ((numS (a)) < 0)), (AV.sl 1 (ns .i64 (digs ((numS (a))).natAbs)))] Gd.none Xg1_tA36 rfl rfl rfl rfl rfl ?_
          refine o_loadA [(bp ((m.mod ^ (w).length) < 0)), (AV.sl 1 (ns .i64 (digs ((m.mod ^ (w).length)).natAbs)))] Gd.none Xg1_tA36 rfl rfl rfl rfl rfl ?_
          refine o_call [(AV.agg [(bp ((numS (a)) < 0)), (AV.sl 1 (ns .i64 (digs ((numS (a))).natAbs)))]), (AV.agg [(bp ((m.mod ^ (w).length) < 0)), (AV.sl 1 (ns .i64 (digs ((m.mod ^ (w).length)).natAbs)))])] (AV.tup [(intR (((numS (a)) / (m.mod ^ (w).length)))), (intR (((numS (a)) % (m.mod ^ (w).length))))]) Gd.none Xg1_tC32 rfl (c_rDiv ((numS (a))) ((m.mod ^ (w).length)) (by omega) (by omega) (by omega)) ?_
          refine o_move (AV.tup [(intR (((numS (a)) / (m.mod ^ (w).length)))), (intR (((numS (a)) % (m.mod ^ (w).length))))]) Gd.none rfl ?_
          refine o_extract (intR (((numS (a)) / (m.mod ^ (w).length)))) Gd.none rfl rfl ?_
          refine o_extract (intR (((numS (a)) % (m.mod ^ (w).length)))) Gd.none rfl rfl ?_
          refine o_alloc 6 [(AV.lit (.bool false)), (AV.lit (.slice none 0 0))] Gd.none Xg1_tO36 rfl rfl rfl ?_
          refine o_alloc 7 [(AV.lit (.bool false)), (AV.lit (.slice none 0 0))] Gd.none Xg1_tO36 rfl rfl rfl ?_
          refine o_store [(7, (AO.var 36 [(AV.lit (.bool false)), (AV.lit (.slice none 0 0))])), (6, (AO.var 36 [(bp (((numS (a)) / (m.mod ^ (w).length)) < 0)), (AV.sl 1 (ns .i64 (digs (((numS (a)) / (m.mod ^ (w).length))).natAbs)))])), (5, (AO.var 36 [(bp ((numS (a)) < 0)), (AV.sl 1 (ns .i64 (digs ((numS (a))).natAbs)))])), (4, (AO.var 36 [(bp ((m.mod ^ (w).length) < 0)), (AV.sl 1 (ns .i64 (digs ((m.mod ^ (w).length)).natAbs)))])), (3, (AO.var 36 [(bp (((restZ m (w)).1) < 0)), (AV.sl 1 (ns .i64 (digs (((restZ m (w)).1)).natAbs)))])), (2, (AO.var 24 [(AV.lit (.int .i64 (m.mod))), (AV.sl 1 (is .i64 (m.mul))), (AV.sl 1 (is .i64 (m.add)))]))] Gd.none Xg1_tZ36 rfl rfl rfl rfl rfl rfl ?_
          refine o_store [(7, (AO.var 36 [(bp (((numS (a)) % (m.mod ^ (w).length)) < 0)), (AV.sl 1 (ns .i64 (digs (((numS (a)) % (m.mod ^ (w).length))).natAbs)))])), (6, (AO.var 36 [(bp (((numS (a)) / (m.mod ^ (w).length)) < 0)), (AV.sl 1 (ns .i64 (digs (((numS (a)) / (m.mod ^ (w).length))).natAbs)))])), (5, (AO.var 36 [(bp ((numS (a)) < 0)), (AV.sl 1 (ns .i64 (digs ((numS (a))).natAbs)))])), (4, (AO.var 36 [(bp ((m.mod ^ (w).length) < 0)), (AV.sl 1 (ns .i64 (digs ((m.mod ^ (w).length)).natAbs)))])), (3, (AO.var 36 [(bp (((restZ m (w)).1) < 0)), (AV.sl 1 (ns .i64 (digs (((restZ m (w)).1)).natAbs)))])), (2, (AO.var 24 [(AV.lit (.int .i64 (m.mod))), (AV.sl 1 (is .i64 (m.mul))), (AV.sl 1 (is .i64 (m.add)))]))] Gd.none Xg1_tZ36 rfl rfl rfl rfl rfl rfl ?_
          refine aops_end ?_
          refine hK13 _ ?_
          refine awp_seq fun K14 hK14 => ?_
          refine awp_region rfl ?_
          refine o_loadA [(AV.lit (.int .i64 (m.mod))), (AV.sl 1 (is .i64 (m.mul))), (AV.sl 1 (is .i64 (m.add)))] Gd.none Xg1_tA24 rfl rfl rfl rfl rfl ?_
          refine o_move (AV.lit (.string (a))) Gd.none rfl ?_
          refine o_move (AV.sl 1 (is .i64 (w))) Gd.none rfl ?_
          refine i_len (w) Gd.none Xg1_tU22 rfl ?_
          refine o_call [(AV.agg [(AV.lit (.int .i64 (m.mod))), (AV.sl 1 (is .i64 (m.mul))), (AV.sl 1 (is .i64 (m.add)))]), (AV.lit (.string (a))), (nm .i64 ((w).length))] (AV.tup [(AV.sl 1 (is .i64 (wordL m (a) ((((w).length : Nat) : Int))))), (nm .i64 (wordE m (a) ((((w).length : Nat) : Int))))]) Gd.none Xg1_tC12 rfl (c_oWord m (a) ((((w).length : Nat) : Int)) (by first | assumption | decide | omega)) ?_
          refine o_move (AV.tup [(AV.sl 1 (is .i64 (wordL m (a) ((((w).length : Nat) : Int))))), (nm .i64 (wordE m (a) ((((w).length : Nat) : Int))))]) Gd.none rfl ?_
          refine o_extract (AV.sl 1 (is .i64 (wordL m (a) ((((w).length : Nat) : Int))))) Gd.none rfl rfl ?_
          refine o_extract (nm .i64 (wordE m (a) ((((w).length : Nat) : Int)))) Gd.none rfl rfl ?_
          refine o_assign (AV.sl 1 (is .i64 (wordL m (a) ((((w).length : Nat) : Int))))) Gd.none rfl ?_
          refine o_assign (nm .i64 (wordE m (a) ((((w).length : Nat) : Int)))) Gd.none rfl ?_
          refine aops_end ?_
          refine hK14 _ ?_
          refine awp_seq fun K15 hK15 => ?_
          refine awp_seq fun K16 hK16 => ?_
          refine awp_regionD rfl ?_
          refine o_move (nm .i64 (wordE m (a) ((((w).length : Nat) : Int)))) Gd.none rfl ?_
          refine n_eql (wordE m (a) ((((w).length : Nat) : Int))) (0) Gd.none rfl rfl ?_
          refine o_move (bp ((wordE m (a) ((((w).length : Nat) : Int))) = (0))) Gd.none rfl ?_
          refine o_splitP (q := (wordE m (a) ((((w).length : Nat) : Int))) = (0)) 96 rfl (fun h5 => ?_) (fun h5 => ?_)
          · have hk := word_0 ⟨hm', ha'⟩ (by have := hW.2; omega) h5
            rw [Int.toNat_natCast] at hk
            refine o_move (AV.sl 1 (is .i64 (wordL m (a) ((((w).length : Nat) : Int))))) (Gd.yes rfl rfl (decide_eq_true h5)) rfl ?_
            refine o_move (AV.sl 1 (is .i64 (w))) (Gd.yes rfl rfl (decide_eq_true h5)) rfl ?_
            refine o_call [(AV.sl 1 (is .i64 (wordL m (a) ((((w).length : Nat) : Int))))), (AV.sl 1 (is .i64 (w)))] (bp (wordL m (a) ((((w).length : Nat) : Int)) = w)) (Gd.yes rfl rfl (decide_eq_true h5)) Xg1_tC19 rfl (c_gAlike (wordL m (a) ((((w).length : Nat) : Int))) (w)) ?_
            refine o_loadA [(bp (((numS (a)) % (m.mod ^ (w).length)) < 0)), (AV.sl 1 (ns .i64 (digs (((numS (a)) % (m.mod ^ (w).length))).natAbs)))] (Gd.yes rfl rfl (decide_eq_true h5)) Xg1_tA36 rfl rfl rfl rfl rfl ?_
            refine o_loadA [(bp (((restZ m (w)).1) < 0)), (AV.sl 1 (ns .i64 (digs (((restZ m (w)).1)).natAbs)))] (Gd.yes rfl rfl (decide_eq_true h5)) Xg1_tA36 rfl rfl rfl rfl rfl ?_
            refine o_call [(AV.agg [(bp (((numS (a)) % (m.mod ^ (w).length)) < 0)), (AV.sl 1 (ns .i64 (digs (((numS (a)) % (m.mod ^ (w).length))).natAbs)))]), (AV.agg [(bp (((restZ m (w)).1) < 0)), (AV.sl 1 (ns .i64 (digs (((restZ m (w)).1)).natAbs)))])] (AV.lit (.int .i64 (cmpZ (((numS (a)) % (m.mod ^ (w).length))) (((restZ m (w)).1))))) (Gd.yes rfl rfl (decide_eq_true h5)) Xg1_tC33 rfl (c_rCmp (((numS (a)) % (m.mod ^ (w).length))) (((restZ m (w)).1))) ?_
            refine o_eql (a := (cmpZ (((numS (a)) % (m.mod ^ (w).length))) (((restZ m (w)).1)))) (c := (((0 : Nat) : Int))) (Gd.yes rfl rfl (decide_eq_true h5)) rfl rfl ?_
            refine o_neqB (a := (decide (wordL m (a) ((((w).length : Nat) : Int)) = w))) (c := (decide ((cmpZ (((numS (a)) % (m.mod ^ (w).length))) (((restZ m (w)).1))) = (((0 : Nat) : Int))))) (Gd.yes rfl rfl (decide_eq_true h5)) rfl rfl Xg1_tB4 ?_
            refine n_as (v' := (AV.lit (.bool false))) (by exact bp_no (fun e => e (decide_eq_decide.2 (by rw [hk.1]; exact (terras hM hF hW.1 (numS a)).trans cmpZ_0.symm)))) ?_
            refine o_pickT (b := decide ((wordE m (a) ((((w).length : Nat) : Int))) = (0))) (AV.lit (.bool false)) Gd.none rfl (decide_eq_true h5) rfl ?_
            refine o_move (AV.lit (.bool false)) Gd.none rfl ?_
            refine o_move (nm .i64 (wordE m (a) ((((w).length : Nat) : Int)))) (Gd.yes rfl rfl rfl) rfl ?_
            refine n_neq (wordE m (a) ((((w).length : Nat) : Int))) (0) (Gd.yes rfl rfl rfl) rfl rfl ?_
            refine o_move (bp ((wordE m (a) ((((w).length : Nat) : Int))) ≠ (0))) (Gd.yes rfl rfl rfl) rfl ?_
            refine o_skip (b := decide ((wordE m (a) ((((w).length : Nat) : Int))) ≠ (0))) rfl rfl (decide_eq_false (fun hh => hh h5)) ?_
            refine o_skip (b := decide ((wordE m (a) ((((w).length : Nat) : Int))) ≠ (0))) rfl rfl (decide_eq_false (fun hh => hh h5)) ?_
            refine o_pickF (b := decide ((wordE m (a) ((((w).length : Nat) : Int))) ≠ (0))) (AV.lit (.bool false)) (Gd.yes rfl rfl rfl) rfl (decide_eq_false (fun hh => hh h5)) rfl ?_
            refine o_pickF (b := false) (AV.lit (.bool false)) Gd.none rfl rfl rfl ?_
            refine aops_end ⟨by kernel_rfl, ?_⟩
            refine hK16 _ ?_
            refine awp_condB (b := false) rfl (fun hh => absurd (hh.symm.trans rfl) (by decide)) (fun _ => ?_)
            refine awp_skip ?_
            refine hK15 _ ?_
            refine awp_seq fun K17 hK17 => ?_
            refine awp_regionD rfl ?_
            refine o_loadA [(bp ((numS (a)) < 0)), (AV.sl 1 (ns .i64 (digs ((numS (a))).natAbs)))] Gd.none Xg1_tA36 rfl rfl rfl rfl rfl ?_
            refine o_loadA [(bp (((numS (a)) % (m.mod ^ (w).length)) < 0)), (AV.sl 1 (ns .i64 (digs (((numS (a)) % (m.mod ^ (w).length))).natAbs)))] Gd.none Xg1_tA36 rfl rfl rfl rfl rfl ?_
            refine o_call [(AV.agg [(bp ((numS (a)) < 0)), (AV.sl 1 (ns .i64 (digs ((numS (a))).natAbs)))]), (AV.agg [(bp (((numS (a)) % (m.mod ^ (w).length)) < 0)), (AV.sl 1 (ns .i64 (digs (((numS (a)) % (m.mod ^ (w).length))).natAbs)))])] (intR (((numS (a)) - ((numS (a)) % (m.mod ^ (w).length))))) Gd.none Xg1_tC35 rfl (c_rSub ((numS (a))) (((numS (a)) % (m.mod ^ (w).length))) (by first | assumption | omega | (simp only [Int.natAbs_neg]; omega)) (by first | assumption | omega | (simp only [Int.natAbs_neg]; omega))) ?_
            refine o_loadA [(bp (((restZ m (w)).1) < 0)), (AV.sl 1 (ns .i64 (digs (((restZ m (w)).1)).natAbs)))] Gd.none Xg1_tA36 rfl rfl rfl rfl rfl ?_
            refine o_call [(intR (((numS (a)) - ((numS (a)) % (m.mod ^ (w).length))))), (AV.agg [(bp (((restZ m (w)).1) < 0)), (AV.sl 1 (ns .i64 (digs (((restZ m (w)).1)).natAbs)))])] (intR ((((numS (a)) - ((numS (a)) % (m.mod ^ (w).length))) + ((restZ m (w)).1)))) Gd.none Xg1_tC34 rfl (c_rAdd (((numS (a)) - ((numS (a)) % (m.mod ^ (w).length)))) (((restZ m (w)).1)) (by first | assumption | omega | (simp only [Int.natAbs_neg]; omega)) (by first | assumption | omega | (simp only [Int.natAbs_neg]; omega))) ?_
            refine o_alloc 8 [(AV.lit (.bool false)), (AV.lit (.slice none 0 0))] Gd.none Xg1_tO36 rfl rfl rfl ?_
            refine o_store [(8, (AO.var 36 [(bp ((((numS (a)) - ((numS (a)) % (m.mod ^ (w).length))) + ((restZ m (w)).1)) < 0)), (AV.sl 1 (ns .i64 (digs ((((numS (a)) - ((numS (a)) % (m.mod ^ (w).length))) + ((restZ m (w)).1))).natAbs)))])), (7, (AO.var 36 [(bp (((numS (a)) % (m.mod ^ (w).length)) < 0)), (AV.sl 1 (ns .i64 (digs (((numS (a)) % (m.mod ^ (w).length))).natAbs)))])), (6, (AO.var 36 [(bp (((numS (a)) / (m.mod ^ (w).length)) < 0)), (AV.sl 1 (ns .i64 (digs (((numS (a)) / (m.mod ^ (w).length))).natAbs)))])), (5, (AO.var 36 [(bp ((numS (a)) < 0)), (AV.sl 1 (ns .i64 (digs ((numS (a))).natAbs)))])), (4, (AO.var 36 [(bp ((m.mod ^ (w).length) < 0)), (AV.sl 1 (ns .i64 (digs ((m.mod ^ (w).length)).natAbs)))])), (3, (AO.var 36 [(bp (((restZ m (w)).1) < 0)), (AV.sl 1 (ns .i64 (digs (((restZ m (w)).1)).natAbs)))])), (2, (AO.var 24 [(AV.lit (.int .i64 (m.mod))), (AV.sl 1 (is .i64 (m.mul))), (AV.sl 1 (is .i64 (m.add)))]))] Gd.none Xg1_tZ36 rfl rfl rfl rfl rfl rfl ?_
            refine aops_end ⟨by kernel_rfl, ?_⟩
            refine hK17 _ ?_
            refine awp_seq fun K18 hK18 => ?_
            refine awp_seq fun K19 hK19 => ?_
            refine awp_region rfl ?_
            refine o_loadA [(bp ((((numS (a)) - ((numS (a)) % (m.mod ^ (w).length))) + ((restZ m (w)).1)) < 0)), (AV.sl 1 (ns .i64 (digs ((((numS (a)) - ((numS (a)) % (m.mod ^ (w).length))) + ((restZ m (w)).1))).natAbs)))] Gd.none Xg1_tA36 rfl rfl rfl rfl rfl ?_
            refine o_call [(AV.agg [(bp ((((numS (a)) - ((numS (a)) % (m.mod ^ (w).length))) + ((restZ m (w)).1)) < 0)), (AV.sl 1 (ns .i64 (digs ((((numS (a)) - ((numS (a)) % (m.mod ^ (w).length))) + ((restZ m (w)).1))).natAbs)))])] (bp (Fit ((((numS (a)) - ((numS (a)) % (m.mod ^ (w).length))) + ((restZ m (w)).1))))) Gd.none Xg1_tC31 rfl (c_rFits ((((numS (a)) - ((numS (a)) % (m.mod ^ (w).length))) + ((restZ m (w)).1))) (by first | assumption | omega | (simp only [Int.natAbs_neg]; omega))) ?_
            refine o_notP (q := Fit ((((numS (a)) - ((numS (a)) % (m.mod ^ (w).length))) + ((restZ m (w)).1)))) Gd.none rfl ?_
            refine aops_end ?_
            refine hK19 _ ?_
            refine awp_condQ (q := ¬ (Fit ((((numS (a)) - ((numS (a)) % (m.mod ^ (w).length))) + ((restZ m (w)).1))))) rfl (fun h6 => ?_) (fun h6 => ?_)
            · refine awp_seq fun K20 hK20 => ?_
              refine awp_region rfl ?_
              refine o_call [] (AV.lit (.bool true)) Gd.none Xg1_tC16 rfl c_l3Awake ?_
              refine o_assign (AV.lit (.bool true)) Gd.none rfl ?_
              refine aops_end ?_
              refine hK20 _ ?_
              refine awp_ret ?_
              refine post_ret ⟨[(AV.lit (.bool true))], And.intro (AV.le_refl _) (trivial), rfl, ?_⟩
              first | rfl | simp [bp]
            · have hFy := Decidable.not_not.1 h6
              have hty := txt_sz hFy
              have hoy := okS_iff.2 (okS_txt hFy)
              refine awp_skip ?_
              refine hK18 _ ?_
              refine awp_seq fun K21 hK21 => ?_
              refine awp_regionD rfl ?_
              refine o_loadA [(AV.lit (.int .i64 (m.mod))), (AV.sl 1 (is .i64 (m.mul))), (AV.sl 1 (is .i64 (m.add)))] Gd.none Xg1_tA24 rfl rfl rfl rfl rfl ?_
              refine o_loadA [(bp ((((numS (a)) - ((numS (a)) % (m.mod ^ (w).length))) + ((restZ m (w)).1)) < 0)), (AV.sl 1 (ns .i64 (digs ((((numS (a)) - ((numS (a)) % (m.mod ^ (w).length))) + ((restZ m (w)).1))).natAbs)))] Gd.none Xg1_tA36 rfl rfl rfl rfl rfl ?_
              refine o_call [(AV.agg [(bp ((((numS (a)) - ((numS (a)) % (m.mod ^ (w).length))) + ((restZ m (w)).1)) < 0)), (AV.sl 1 (ns .i64 (digs ((((numS (a)) - ((numS (a)) % (m.mod ^ (w).length))) + ((restZ m (w)).1))).natAbs)))])] (AV.lit (.string (txt ((((numS (a)) - ((numS (a)) % (m.mod ^ (w).length))) + ((restZ m (w)).1)))))) Gd.none Xg1_tC27 rfl (c_rText ((((numS (a)) - ((numS (a)) % (m.mod ^ (w).length))) + ((restZ m (w)).1))) (by first | assumption | omega | (simp only [Int.natAbs_neg]; omega))) ?_
              refine o_move (AV.sl 1 (is .i64 (w))) Gd.none rfl ?_
              refine i_len (w) Gd.none Xg1_tU22 rfl ?_
              refine o_call [(AV.agg [(AV.lit (.int .i64 (m.mod))), (AV.sl 1 (is .i64 (m.mul))), (AV.sl 1 (is .i64 (m.add)))]), (AV.lit (.string (txt ((((numS (a)) - ((numS (a)) % (m.mod ^ (w).length))) + ((restZ m (w)).1)))))), (nm .i64 ((w).length))] (AV.tup [(AV.sl 1 (is .i64 (wordL m (txt ((((numS (a)) - ((numS (a)) % (m.mod ^ (w).length))) + ((restZ m (w)).1)))) ((((w).length : Nat) : Int))))), (nm .i64 (wordE m (txt ((((numS (a)) - ((numS (a)) % (m.mod ^ (w).length))) + ((restZ m (w)).1)))) ((((w).length : Nat) : Int))))]) Gd.none Xg1_tC12 rfl (c_oWord m (txt ((((numS (a)) - ((numS (a)) % (m.mod ^ (w).length))) + ((restZ m (w)).1)))) ((((w).length : Nat) : Int)) (by first | assumption | decide | omega)) ?_
              refine o_move (AV.tup [(AV.sl 1 (is .i64 (wordL m (txt ((((numS (a)) - ((numS (a)) % (m.mod ^ (w).length))) + ((restZ m (w)).1)))) ((((w).length : Nat) : Int))))), (nm .i64 (wordE m (txt ((((numS (a)) - ((numS (a)) % (m.mod ^ (w).length))) + ((restZ m (w)).1)))) ((((w).length : Nat) : Int))))]) Gd.none rfl ?_
              refine o_extract (AV.sl 1 (is .i64 (wordL m (txt ((((numS (a)) - ((numS (a)) % (m.mod ^ (w).length))) + ((restZ m (w)).1)))) ((((w).length : Nat) : Int))))) Gd.none rfl rfl ?_
              refine o_extract (nm .i64 (wordE m (txt ((((numS (a)) - ((numS (a)) % (m.mod ^ (w).length))) + ((restZ m (w)).1)))) ((((w).length : Nat) : Int)))) Gd.none rfl rfl ?_
              refine o_assign (AV.sl 1 (is .i64 (wordL m (txt ((((numS (a)) - ((numS (a)) % (m.mod ^ (w).length))) + ((restZ m (w)).1)))) ((((w).length : Nat) : Int))))) Gd.none rfl ?_
              refine o_assign (nm .i64 (wordE m (txt ((((numS (a)) - ((numS (a)) % (m.mod ^ (w).length))) + ((restZ m (w)).1)))) ((((w).length : Nat) : Int)))) Gd.none rfl ?_
              refine aops_end ⟨by kernel_rfl, ?_⟩
              refine hK21 _ ?_
              refine awp_seq fun K22 hK22 => ?_
              refine awp_region rfl ?_
              refine o_move (nm .i64 (wordE m (txt ((((numS (a)) - ((numS (a)) % (m.mod ^ (w).length))) + ((restZ m (w)).1)))) ((((w).length : Nat) : Int)))) Gd.none rfl ?_
              refine n_eql (wordE m (txt ((((numS (a)) - ((numS (a)) % (m.mod ^ (w).length))) + ((restZ m (w)).1)))) ((((w).length : Nat) : Int))) (0) Gd.none rfl rfl ?_
              refine o_move (bp ((wordE m (txt ((((numS (a)) - ((numS (a)) % (m.mod ^ (w).length))) + ((restZ m (w)).1)))) ((((w).length : Nat) : Int))) = (0))) Gd.none rfl ?_
              refine o_splitP (q := (wordE m (txt ((((numS (a)) - ((numS (a)) % (m.mod ^ (w).length))) + ((restZ m (w)).1)))) ((((w).length : Nat) : Int))) = (0)) 134 rfl (fun h7 => ?_) (fun h7 => ?_)
              · have hk2 := word_0 ⟨hm', hoy⟩ (by omega) h7
                rw [Int.toNat_natCast] at hk2
                refine o_move (AV.sl 1 (is .i64 (wordL m (txt ((((numS (a)) - ((numS (a)) % (m.mod ^ (w).length))) + ((restZ m (w)).1)))) ((((w).length : Nat) : Int))))) (Gd.yes rfl rfl (decide_eq_true h7)) rfl ?_
                refine o_move (AV.sl 1 (is .i64 (w))) (Gd.yes rfl rfl (decide_eq_true h7)) rfl ?_
                refine o_call [(AV.sl 1 (is .i64 (wordL m (txt ((((numS (a)) - ((numS (a)) % (m.mod ^ (w).length))) + ((restZ m (w)).1)))) ((((w).length : Nat) : Int))))), (AV.sl 1 (is .i64 (w)))] (bp (wordL m (txt ((((numS (a)) - ((numS (a)) % (m.mod ^ (w).length))) + ((restZ m (w)).1)))) ((((w).length : Nat) : Int)) = w)) (Gd.yes rfl rfl (decide_eq_true h7)) Xg1_tC19 rfl (c_gAlike (wordL m (txt ((((numS (a)) - ((numS (a)) % (m.mod ^ (w).length))) + ((restZ m (w)).1)))) ((((w).length : Nat) : Int))) (w)) ?_
                refine n_as (v' := (AV.lit (.bool true))) (by exact bp_yes (by rw [hk2.1, numS_txt]; exact (terras hM hF hW.1 _).2 (rest_y (numS a) r1 r2))) ?_
                refine o_pickT (b := decide ((wordE m (txt ((((numS (a)) - ((numS (a)) % (m.mod ^ (w).length))) + ((restZ m (w)).1)))) ((((w).length : Nat) : Int))) = (0))) (AV.lit (.bool true)) Gd.none rfl (decide_eq_true h7) rfl ?_
                refine o_move (AV.lit (.bool true)) Gd.none rfl ?_
                refine o_skip (b := true) rfl rfl rfl ?_
                refine o_skip (b := true) rfl rfl rfl ?_
                refine o_pickT (b := true) (AV.lit (.bool true)) Gd.none rfl rfl rfl ?_
                refine o_move (AV.lit (.bool true)) Gd.none rfl ?_
                refine o_call [] (AV.lit (.bool true)) (Gd.yes rfl rfl rfl) Xg1_tC16 rfl c_l3Awake ?_
                refine o_pickT (b := true) (AV.lit (.bool true)) Gd.none rfl rfl rfl ?_
                refine o_assign (AV.lit (.bool true)) Gd.none rfl ?_
                refine aops_end ?_
                refine hK22 _ ?_
                refine awp_ret ?_
                refine post_ret ⟨[(AV.lit (.bool true))], And.intro (AV.le_refl _) (trivial), rfl, ?_⟩
                first | rfl | simp [bp]
              · refine o_skip (b := decide ((wordE m (txt ((((numS (a)) - ((numS (a)) % (m.mod ^ (w).length))) + ((restZ m (w)).1)))) ((((w).length : Nat) : Int))) = (0))) rfl rfl (decide_eq_false h7) ?_
                refine o_skip (b := decide ((wordE m (txt ((((numS (a)) - ((numS (a)) % (m.mod ^ (w).length))) + ((restZ m (w)).1)))) ((((w).length : Nat) : Int))) = (0))) rfl rfl (decide_eq_false h7) ?_
                refine o_skip (b := decide ((wordE m (txt ((((numS (a)) - ((numS (a)) % (m.mod ^ (w).length))) + ((restZ m (w)).1)))) ((((w).length : Nat) : Int))) = (0))) rfl rfl (decide_eq_false h7) ?_
                refine o_pickF (b := decide ((wordE m (txt ((((numS (a)) - ((numS (a)) % (m.mod ^ (w).length))) + ((restZ m (w)).1)))) ((((w).length : Nat) : Int))) = (0))) (AV.lit (.bool false)) Gd.none rfl (decide_eq_false h7) rfl ?_
                refine o_move (AV.lit (.bool false)) Gd.none rfl ?_
                refine o_move (nm .i64 (wordE m (txt ((((numS (a)) - ((numS (a)) % (m.mod ^ (w).length))) + ((restZ m (w)).1)))) ((((w).length : Nat) : Int)))) (Gd.yes rfl rfl rfl) rfl ?_
                refine n_eql (wordE m (txt ((((numS (a)) - ((numS (a)) % (m.mod ^ (w).length))) + ((restZ m (w)).1)))) ((((w).length : Nat) : Int))) (3) (Gd.yes rfl rfl rfl) rfl rfl ?_
                refine n_as (v' := (AV.lit (.bool true))) (by exact bp_yes (word_3 ⟨hm', hoy⟩ (by omega) (by assumption)).1) ?_
                refine o_pickF (b := false) (AV.lit (.bool true)) Gd.none rfl rfl rfl ?_
                refine o_move (AV.lit (.bool true)) Gd.none rfl ?_
                refine o_call [] (AV.lit (.bool true)) (Gd.yes rfl rfl rfl) Xg1_tC16 rfl c_l3Awake ?_
                refine o_pickT (b := true) (AV.lit (.bool true)) Gd.none rfl rfl rfl ?_
                refine o_assign (AV.lit (.bool true)) Gd.none rfl ?_
                refine aops_end ?_
                refine hK22 _ ?_
                refine awp_ret ?_
                refine post_ret ⟨[(AV.lit (.bool true))], And.intro (AV.le_refl _) (trivial), rfl, ?_⟩
                first | rfl | simp [bp]
          · refine o_skip (b := decide ((wordE m (a) ((((w).length : Nat) : Int))) = (0))) rfl rfl (decide_eq_false h5) ?_
            refine o_skip (b := decide ((wordE m (a) ((((w).length : Nat) : Int))) = (0))) rfl rfl (decide_eq_false h5) ?_
            refine o_skip (b := decide ((wordE m (a) ((((w).length : Nat) : Int))) = (0))) rfl rfl (decide_eq_false h5) ?_
            refine o_skip (b := decide ((wordE m (a) ((((w).length : Nat) : Int))) = (0))) rfl rfl (decide_eq_false h5) ?_
            refine o_skip (b := decide ((wordE m (a) ((((w).length : Nat) : Int))) = (0))) rfl rfl (decide_eq_false h5) ?_
            refine o_skip (b := decide ((wordE m (a) ((((w).length : Nat) : Int))) = (0))) rfl rfl (decide_eq_false h5) ?_
            refine o_skip (b := decide ((wordE m (a) ((((w).length : Nat) : Int))) = (0))) rfl rfl (decide_eq_false h5) ?_
            refine o_skip (b := decide ((wordE m (a) ((((w).length : Nat) : Int))) = (0))) rfl rfl (decide_eq_false h5) ?_
            refine o_pickF (b := decide ((wordE m (a) ((((w).length : Nat) : Int))) = (0))) (AV.lit (.bool false)) Gd.none rfl (decide_eq_false h5) rfl ?_
            refine o_move (AV.lit (.bool false)) Gd.none rfl ?_
            refine o_move (nm .i64 (wordE m (a) ((((w).length : Nat) : Int)))) (Gd.yes rfl rfl rfl) rfl ?_
            refine n_neq (wordE m (a) ((((w).length : Nat) : Int))) (0) (Gd.yes rfl rfl rfl) rfl rfl ?_
            refine o_move (bp ((wordE m (a) ((((w).length : Nat) : Int))) ≠ (0))) (Gd.yes rfl rfl rfl) rfl ?_
            refine o_move (nm .i64 (wordE m (a) ((((w).length : Nat) : Int)))) (Gd.yes rfl rfl (decide_eq_true h5)) rfl ?_
            refine n_neq (wordE m (a) ((((w).length : Nat) : Int))) (3) (Gd.yes rfl rfl (decide_eq_true h5)) rfl rfl ?_
            refine n_as (v' := (AV.lit (.bool false))) (by exact bp_no (fun x => x (word_3 ⟨hm', ha'⟩ (by have := hW.2; omega) h5).1)) ?_
            refine o_pickT (b := decide ((wordE m (a) ((((w).length : Nat) : Int))) ≠ (0))) (AV.lit (.bool false)) (Gd.yes rfl rfl rfl) rfl (decide_eq_true h5) rfl ?_
            refine o_pickF (b := false) (AV.lit (.bool false)) Gd.none rfl rfl rfl ?_
            refine aops_end ⟨by kernel_rfl, ?_⟩
            refine hK16 _ ?_
            refine awp_condB (b := false) rfl (fun hh => absurd (hh.symm.trans rfl) (by decide)) (fun _ => ?_)
            refine awp_skip ?_
            refine hK15 _ ?_
            refine awp_seq fun K23 hK23 => ?_
            refine awp_regionD rfl ?_
            refine o_loadA [(bp ((numS (a)) < 0)), (AV.sl 1 (ns .i64 (digs ((numS (a))).natAbs)))] Gd.none Xg1_tA36 rfl rfl rfl rfl rfl ?_
            refine o_loadA [(bp (((numS (a)) % (m.mod ^ (w).length)) < 0)), (AV.sl 1 (ns .i64 (digs (((numS (a)) % (m.mod ^ (w).length))).natAbs)))] Gd.none Xg1_tA36 rfl rfl rfl rfl rfl ?_
            refine o_call [(AV.agg [(bp ((numS (a)) < 0)), (AV.sl 1 (ns .i64 (digs ((numS (a))).natAbs)))]), (AV.agg [(bp (((numS (a)) % (m.mod ^ (w).length)) < 0)), (AV.sl 1 (ns .i64 (digs (((numS (a)) % (m.mod ^ (w).length))).natAbs)))])] (intR (((numS (a)) - ((numS (a)) % (m.mod ^ (w).length))))) Gd.none Xg1_tC35 rfl (c_rSub ((numS (a))) (((numS (a)) % (m.mod ^ (w).length))) (by first | assumption | omega | (simp only [Int.natAbs_neg]; omega)) (by first | assumption | omega | (simp only [Int.natAbs_neg]; omega))) ?_
            refine o_loadA [(bp (((restZ m (w)).1) < 0)), (AV.sl 1 (ns .i64 (digs (((restZ m (w)).1)).natAbs)))] Gd.none Xg1_tA36 rfl rfl rfl rfl rfl ?_
            refine o_call [(intR (((numS (a)) - ((numS (a)) % (m.mod ^ (w).length))))), (AV.agg [(bp (((restZ m (w)).1) < 0)), (AV.sl 1 (ns .i64 (digs (((restZ m (w)).1)).natAbs)))])] (intR ((((numS (a)) - ((numS (a)) % (m.mod ^ (w).length))) + ((restZ m (w)).1)))) Gd.none Xg1_tC34 rfl (c_rAdd (((numS (a)) - ((numS (a)) % (m.mod ^ (w).length)))) (((restZ m (w)).1)) (by first | assumption | omega | (simp only [Int.natAbs_neg]; omega)) (by first | assumption | omega | (simp only [Int.natAbs_neg]; omega))) ?_
            refine o_alloc 8 [(AV.lit (.bool false)), (AV.lit (.slice none 0 0))] Gd.none Xg1_tO36 rfl rfl rfl ?_
            refine o_store [(8, (AO.var 36 [(bp ((((numS (a)) - ((numS (a)) % (m.mod ^ (w).length))) + ((restZ m (w)).1)) < 0)), (AV.sl 1 (ns .i64 (digs ((((numS (a)) - ((numS (a)) % (m.mod ^ (w).length))) + ((restZ m (w)).1))).natAbs)))])), (7, (AO.var 36 [(bp (((numS (a)) % (m.mod ^ (w).length)) < 0)), (AV.sl 1 (ns .i64 (digs (((numS (a)) % (m.mod ^ (w).length))).natAbs)))])), (6, (AO.var 36 [(bp (((numS (a)) / (m.mod ^ (w).length)) < 0)), (AV.sl 1 (ns .i64 (digs (((numS (a)) / (m.mod ^ (w).length))).natAbs)))])), (5, (AO.var 36 [(bp ((numS (a)) < 0)), (AV.sl 1 (ns .i64 (digs ((numS (a))).natAbs)))])), (4, (AO.var 36 [(bp ((m.mod ^ (w).length) < 0)), (AV.sl 1 (ns .i64 (digs ((m.mod ^ (w).length)).natAbs)))])), (3, (AO.var 36 [(bp (((restZ m (w)).1) < 0)), (AV.sl 1 (ns .i64 (digs (((restZ m (w)).1)).natAbs)))])), (2, (AO.var 24 [(AV.lit (.int .i64 (m.mod))), (AV.sl 1 (is .i64 (m.mul))), (AV.sl 1 (is .i64 (m.add)))]))] Gd.none Xg1_tZ36 rfl rfl rfl rfl rfl rfl ?_
            refine aops_end ⟨by kernel_rfl, ?_⟩
            refine hK23 _ ?_
            refine awp_seq fun K24 hK24 => ?_
            refine awp_seq fun K25 hK25 => ?_
            refine awp_region rfl ?_
            refine o_loadA [(bp ((((numS (a)) - ((numS (a)) % (m.mod ^ (w).length))) + ((restZ m (w)).1)) < 0)), (AV.sl 1 (ns .i64 (digs ((((numS (a)) - ((numS (a)) % (m.mod ^ (w).length))) + ((restZ m (w)).1))).natAbs)))] Gd.none Xg1_tA36 rfl rfl rfl rfl rfl ?_
            refine o_call [(AV.agg [(bp ((((numS (a)) - ((numS (a)) % (m.mod ^ (w).length))) + ((restZ m (w)).1)) < 0)), (AV.sl 1 (ns .i64 (digs ((((numS (a)) - ((numS (a)) % (m.mod ^ (w).length))) + ((restZ m (w)).1))).natAbs)))])] (bp (Fit ((((numS (a)) - ((numS (a)) % (m.mod ^ (w).length))) + ((restZ m (w)).1))))) Gd.none Xg1_tC31 rfl (c_rFits ((((numS (a)) - ((numS (a)) % (m.mod ^ (w).length))) + ((restZ m (w)).1))) (by first | assumption | omega | (simp only [Int.natAbs_neg]; omega))) ?_
            refine o_notP (q := Fit ((((numS (a)) - ((numS (a)) % (m.mod ^ (w).length))) + ((restZ m (w)).1)))) Gd.none rfl ?_
            refine aops_end ?_
            refine hK25 _ ?_
            refine awp_condQ (q := ¬ (Fit ((((numS (a)) - ((numS (a)) % (m.mod ^ (w).length))) + ((restZ m (w)).1))))) rfl (fun h8 => ?_) (fun h8 => ?_)
            · refine awp_seq fun K26 hK26 => ?_
              refine awp_region rfl ?_
              refine o_call [] (AV.lit (.bool true)) Gd.none Xg1_tC16 rfl c_l3Awake ?_
              refine o_assign (AV.lit (.bool true)) Gd.none rfl ?_
              refine aops_end ?_
              refine hK26 _ ?_
              refine awp_ret ?_
              refine post_ret ⟨[(AV.lit (.bool true))], And.intro (AV.le_refl _) (trivial), rfl, ?_⟩
              first | rfl | simp [bp]
            · have hFy := Decidable.not_not.1 h8
              have hty := txt_sz hFy
              have hoy := okS_iff.2 (okS_txt hFy)
              refine awp_skip ?_
              refine hK24 _ ?_
              refine awp_seq fun K27 hK27 => ?_
              refine awp_regionD rfl ?_
              refine o_loadA [(AV.lit (.int .i64 (m.mod))), (AV.sl 1 (is .i64 (m.mul))), (AV.sl 1 (is .i64 (m.add)))] Gd.none Xg1_tA24 rfl rfl rfl rfl rfl ?_
              refine o_loadA [(bp ((((numS (a)) - ((numS (a)) % (m.mod ^ (w).length))) + ((restZ m (w)).1)) < 0)), (AV.sl 1 (ns .i64 (digs ((((numS (a)) - ((numS (a)) % (m.mod ^ (w).length))) + ((restZ m (w)).1))).natAbs)))] Gd.none Xg1_tA36 rfl rfl rfl rfl rfl ?_
              refine o_call [(AV.agg [(bp ((((numS (a)) - ((numS (a)) % (m.mod ^ (w).length))) + ((restZ m (w)).1)) < 0)), (AV.sl 1 (ns .i64 (digs ((((numS (a)) - ((numS (a)) % (m.mod ^ (w).length))) + ((restZ m (w)).1))).natAbs)))])] (AV.lit (.string (txt ((((numS (a)) - ((numS (a)) % (m.mod ^ (w).length))) + ((restZ m (w)).1)))))) Gd.none Xg1_tC27 rfl (c_rText ((((numS (a)) - ((numS (a)) % (m.mod ^ (w).length))) + ((restZ m (w)).1))) (by first | assumption | omega | (simp only [Int.natAbs_neg]; omega))) ?_
              refine o_move (AV.sl 1 (is .i64 (w))) Gd.none rfl ?_
              refine i_len (w) Gd.none Xg1_tU22 rfl ?_
              refine o_call [(AV.agg [(AV.lit (.int .i64 (m.mod))), (AV.sl 1 (is .i64 (m.mul))), (AV.sl 1 (is .i64 (m.add)))]), (AV.lit (.string (txt ((((numS (a)) - ((numS (a)) % (m.mod ^ (w).length))) + ((restZ m (w)).1)))))), (nm .i64 ((w).length))] (AV.tup [(AV.sl 1 (is .i64 (wordL m (txt ((((numS (a)) - ((numS (a)) % (m.mod ^ (w).length))) + ((restZ m (w)).1)))) ((((w).length : Nat) : Int))))), (nm .i64 (wordE m (txt ((((numS (a)) - ((numS (a)) % (m.mod ^ (w).length))) + ((restZ m (w)).1)))) ((((w).length : Nat) : Int))))]) Gd.none Xg1_tC12 rfl (c_oWord m (txt ((((numS (a)) - ((numS (a)) % (m.mod ^ (w).length))) + ((restZ m (w)).1)))) ((((w).length : Nat) : Int)) (by first | assumption | decide | omega)) ?_
              refine o_move (AV.tup [(AV.sl 1 (is .i64 (wordL m (txt ((((numS (a)) - ((numS (a)) % (m.mod ^ (w).length))) + ((restZ m (w)).1)))) ((((w).length : Nat) : Int))))), (nm .i64 (wordE m (txt ((((numS (a)) - ((numS (a)) % (m.mod ^ (w).length))) + ((restZ m (w)).1)))) ((((w).length : Nat) : Int))))]) Gd.none rfl ?_
              refine o_extract (AV.sl 1 (is .i64 (wordL m (txt ((((numS (a)) - ((numS (a)) % (m.mod ^ (w).length))) + ((restZ m (w)).1)))) ((((w).length : Nat) : Int))))) Gd.none rfl rfl ?_
              refine o_extract (nm .i64 (wordE m (txt ((((numS (a)) - ((numS (a)) % (m.mod ^ (w).length))) + ((restZ m (w)).1)))) ((((w).length : Nat) : Int)))) Gd.none rfl rfl ?_
              refine o_assign (AV.sl 1 (is .i64 (wordL m (txt ((((numS (a)) - ((numS (a)) % (m.mod ^ (w).length))) + ((restZ m (w)).1)))) ((((w).length : Nat) : Int))))) Gd.none rfl ?_
              refine o_assign (nm .i64 (wordE m (txt ((((numS (a)) - ((numS (a)) % (m.mod ^ (w).length))) + ((restZ m (w)).1)))) ((((w).length : Nat) : Int)))) Gd.none rfl ?_
              refine aops_end ⟨by kernel_rfl, ?_⟩
              refine hK27 _ ?_
              refine awp_seq fun K28 hK28 => ?_
              refine awp_region rfl ?_
              refine o_move (nm .i64 (wordE m (txt ((((numS (a)) - ((numS (a)) % (m.mod ^ (w).length))) + ((restZ m (w)).1)))) ((((w).length : Nat) : Int)))) Gd.none rfl ?_
              refine n_eql (wordE m (txt ((((numS (a)) - ((numS (a)) % (m.mod ^ (w).length))) + ((restZ m (w)).1)))) ((((w).length : Nat) : Int))) (0) Gd.none rfl rfl ?_
              refine o_move (bp ((wordE m (txt ((((numS (a)) - ((numS (a)) % (m.mod ^ (w).length))) + ((restZ m (w)).1)))) ((((w).length : Nat) : Int))) = (0))) Gd.none rfl ?_
              refine o_splitP (q := (wordE m (txt ((((numS (a)) - ((numS (a)) % (m.mod ^ (w).length))) + ((restZ m (w)).1)))) ((((w).length : Nat) : Int))) = (0)) 134 rfl (fun h9 => ?_) (fun h9 => ?_)
              · have hk2 := word_0 ⟨hm', hoy⟩ (by omega) h9
                rw [Int.toNat_natCast] at hk2
                refine o_move (AV.sl 1 (is .i64 (wordL m (txt ((((numS (a)) - ((numS (a)) % (m.mod ^ (w).length))) + ((restZ m (w)).1)))) ((((w).length : Nat) : Int))))) (Gd.yes rfl rfl (decide_eq_true h9)) rfl ?_
                refine o_move (AV.sl 1 (is .i64 (w))) (Gd.yes rfl rfl (decide_eq_true h9)) rfl ?_
                refine o_call [(AV.sl 1 (is .i64 (wordL m (txt ((((numS (a)) - ((numS (a)) % (m.mod ^ (w).length))) + ((restZ m (w)).1)))) ((((w).length : Nat) : Int))))), (AV.sl 1 (is .i64 (w)))] (bp (wordL m (txt ((((numS (a)) - ((numS (a)) % (m.mod ^ (w).length))) + ((restZ m (w)).1)))) ((((w).length : Nat) : Int)) = w)) (Gd.yes rfl rfl (decide_eq_true h9)) Xg1_tC19 rfl (c_gAlike (wordL m (txt ((((numS (a)) - ((numS (a)) % (m.mod ^ (w).length))) + ((restZ m (w)).1)))) ((((w).length : Nat) : Int))) (w)) ?_
                refine n_as (v' := (AV.lit (.bool true))) (by exact bp_yes (by rw [hk2.1, numS_txt]; exact (terras hM hF hW.1 _).2 (rest_y (numS a) r1 r2))) ?_
                refine o_pickT (b := decide ((wordE m (txt ((((numS (a)) - ((numS (a)) % (m.mod ^ (w).length))) + ((restZ m (w)).1)))) ((((w).length : Nat) : Int))) = (0))) (AV.lit (.bool true)) Gd.none rfl (decide_eq_true h9) rfl ?_
                refine o_move (AV.lit (.bool true)) Gd.none rfl ?_
                refine o_skip (b := true) rfl rfl rfl ?_
                refine o_skip (b := true) rfl rfl rfl ?_
                refine o_pickT (b := true) (AV.lit (.bool true)) Gd.none rfl rfl rfl ?_
                refine o_move (AV.lit (.bool true)) Gd.none rfl ?_
                refine o_call [] (AV.lit (.bool true)) (Gd.yes rfl rfl rfl) Xg1_tC16 rfl c_l3Awake ?_
                refine o_pickT (b := true) (AV.lit (.bool true)) Gd.none rfl rfl rfl ?_
                refine o_assign (AV.lit (.bool true)) Gd.none rfl ?_
                refine aops_end ?_
                refine hK28 _ ?_
                refine awp_ret ?_
                refine post_ret ⟨[(AV.lit (.bool true))], And.intro (AV.le_refl _) (trivial), rfl, ?_⟩
                first | rfl | simp [bp]
              · refine o_skip (b := decide ((wordE m (txt ((((numS (a)) - ((numS (a)) % (m.mod ^ (w).length))) + ((restZ m (w)).1)))) ((((w).length : Nat) : Int))) = (0))) rfl rfl (decide_eq_false h9) ?_
                refine o_skip (b := decide ((wordE m (txt ((((numS (a)) - ((numS (a)) % (m.mod ^ (w).length))) + ((restZ m (w)).1)))) ((((w).length : Nat) : Int))) = (0))) rfl rfl (decide_eq_false h9) ?_
                refine o_skip (b := decide ((wordE m (txt ((((numS (a)) - ((numS (a)) % (m.mod ^ (w).length))) + ((restZ m (w)).1)))) ((((w).length : Nat) : Int))) = (0))) rfl rfl (decide_eq_false h9) ?_
                refine o_pickF (b := decide ((wordE m (txt ((((numS (a)) - ((numS (a)) % (m.mod ^ (w).length))) + ((restZ m (w)).1)))) ((((w).length : Nat) : Int))) = (0))) (AV.lit (.bool false)) Gd.none rfl (decide_eq_false h9) rfl ?_
                refine o_move (AV.lit (.bool false)) Gd.none rfl ?_
                refine o_move (nm .i64 (wordE m (txt ((((numS (a)) - ((numS (a)) % (m.mod ^ (w).length))) + ((restZ m (w)).1)))) ((((w).length : Nat) : Int)))) (Gd.yes rfl rfl rfl) rfl ?_
                refine n_eql (wordE m (txt ((((numS (a)) - ((numS (a)) % (m.mod ^ (w).length))) + ((restZ m (w)).1)))) ((((w).length : Nat) : Int))) (3) (Gd.yes rfl rfl rfl) rfl rfl ?_
                refine n_as (v' := (AV.lit (.bool true))) (by exact bp_yes (word_3 ⟨hm', hoy⟩ (by omega) (by assumption)).1) ?_
                refine o_pickF (b := false) (AV.lit (.bool true)) Gd.none rfl rfl rfl ?_
                refine o_move (AV.lit (.bool true)) Gd.none rfl ?_
                refine o_call [] (AV.lit (.bool true)) (Gd.yes rfl rfl rfl) Xg1_tC16 rfl c_l3Awake ?_
                refine o_pickT (b := true) (AV.lit (.bool true)) Gd.none rfl rfl rfl ?_
                refine o_assign (AV.lit (.bool true)) Gd.none rfl ?_
                refine aops_end ?_
                refine hK28 _ ?_
                refine awp_ret ?_
                refine post_ret ⟨[(AV.lit (.bool true))], And.intro (AV.le_refl _) (trivial), rfl, ?_⟩
                first | rfl | simp [bp]

end Go.Proofs.YtbilndahjkimkaaDoor

set_option linter.unusedVariables false
namespace Go.Proofs.YtbilndahjkimkaaDoor.wordTerras
open Go Go.Ab Go.Mth Go.ChangeShapes Go.WideShapes Go.ChangeAt Go.RowKit
theorem reads (os : Os) {H : Type} (enc : TypeId × Value → H) : ∃ places, DataW.whole enc Tryd.prog ((World.laidAll Tryd.prog os laid5).forCall (fun _ _ => 0) ⟨#[], #[.agg #[.int .i64 0, .slice none 0 0, .slice none 0 0], .slice none 0 0, .string ByteArray.empty], []⟩).memory Tryd.f6.params.toList Rows.wordTerrasSpec.vars false (#[.agg #[.int .i64 0, .slice none 0 0, .slice none 0 0], .slice none 0 0, .string ByteArray.empty] : Array Value).toList 8 = some ([.agg [.lit (.int .i64 0), .nil, .nil], .nil, .lit (.string [])], [], places) := ⟨[], by kernel_rfl⟩
theorem met (os : Os) : laidMetH Tryd.prog laid5 ((World.laidAll Tryd.prog os laid5).forCall (fun _ _ => 0) ⟨#[], #[.agg #[.int .i64 0, .slice none 0 0, .slice none 0 0], .slice none 0 0, .string ByteArray.empty], []⟩).memory := (MakeChecks.laidMetH_plain _ _ _ (by kernel_rfl)).mpr (laidMet_laidAll _ (by kernel_rfl) (by kernel_rfl))
theorem specs {H : Type} (ds : List (DataW H)) (h : ds.length = 3) : (Rows.wordTerrasSpec.fn H ds).results = [.lit (.bool true)] ∧ (Rows.wordTerrasSpec.fn H ds).args = ds ∧ (Rows.wordTerrasSpec.fn H ds).vars = [] := by
  rcases ds with _ | ⟨d0, _ | ⟨d1, _ | ⟨d2, _ | ⟨e, t⟩⟩⟩⟩ <;> simp at h <;> exact ⟨rfl, rfl, rfl⟩
set_option maxRecDepth 100000 in
theorem opened {H : Type} (enc : TypeId × Value → H) (W : World) (base : Nat) (args : Array Value) (ds : List (DataW H)) (ps : List MemPlace) (hval : ∀ (j : Nat) t v, (#[24, 22, 9] : Array TypeId)[j]? = some t → args[j]? = some v → Value.okWide Tryd.prog W .any base t v)
    (hA : DataW.TrodAll enc Tryd.prog W 0 (fun _ => true) true [24, 22, 9] args.toList ds ps) (hsz : (DataW.weightsEach Tryd.prog [24, 22, 9] ds).all (· ≤ reachBytes) = true) : ∃ xs, RepL (memOf W) xs noLoc args.toList ∧ ECalls cx 6 xs (.lit (.bool true)) := by
  obtain ⟨v0, vs0, d0, ds0, p0, q0, hargs, rfl, rfl, h0, r0⟩ := trodAll_cons hA
  obtain ⟨v1, vs1, d1, ds1, p1, q1, rfl, rfl, rfl, h1, r1⟩ := trodAll_cons r0
  obtain ⟨v2, vs2, d2, ds2, p2, q2, rfl, rfl, rfl, h2, r2⟩ := trodAll_cons r1
  obtain ⟨rfl, rfl, rfl⟩ := trodAll_nil r2
  obtain rfl : args = #[v0, v1, v2] := by cases args; simp_all
  obtain ⟨m0, e0, b0, c0⟩ := rep_map (hval 0 24 v0 rfl rfl) h0 (fun n hn => by simpa using List.all_eq_true.1 hsz n (DataW.weights_mem_each (j := 0) rfl rfl n hn))
  obtain ⟨l1, e1, b1⟩ := rep_list (hval 1 22 v1 rfl rfl) h1 (fun n hn => by simpa using List.all_eq_true.1 hsz n (DataW.weights_mem_each (j := 1) rfl rfl n hn))
  obtain ⟨a2, e2, b2⟩ := rep_str (hval 2 9 v2 rfl rfl) h2
  exact ⟨[mapV m0, .sl 1 (is .i64 l1), .lit (.string a2)], RepL.cons e0 (RepL.cons e1 (RepL.cons e2 (by simp only [RepL]))), c_WordTerras m0 l1 a2 b1 b2⟩
set_option maxRecDepth 100000 in
theorem lifted (os : Os) (started : os.Started) (H : Type) (enc : TypeId × Value → H) (F : Stop.Interp) :
    ReturnsInHanded {} Tryd.checked os 6 .any ((OpenSpec.ofChange Rows.wordTerrasSpec).preRow enc Tryd.prog Tryd.f6 Rows.wordTerrasRow.domain false Rows.wordTerrasRow.laid) (((OpenSpec.ofChange Rows.wordTerrasSpec).at F).post enc Tryd.prog Tryd.f6 false true false false) := by
  obtain ⟨places, hx⟩ := reads os enc
  refine lifted_of (C := Tryd.checked) started cx rfl ownT (by kernel_rfl) Tryd.func6 (witness_laid #[.agg #[.int .i64 0, .slice none 0 0, .slice none 0 0], .slice none 0 0, .string ByteArray.empty] (by kernel_rfl) (by kernel_rfl) (by kernel_rfl) (OpenSpec.preRow_of_cond 8 hx (by kernel_rfl) (fun k hk => by cases hk) (by kernel_rfl) (met os))) laidOutT (by kernel_rfl) (tb := 4) (by kernel_rfl) u4T rfl (fun ds h => specs ds (h.trans (by kernel_rfl))) (fun W h => tabG_of h) ?_
  intro W base args ds ps hval hA hsz
  exact opened enc W base args ds ps hval hA hsz
theorem said : Rows.WordTerrasSaid :=
  OpenClaim.holds_of_cond 6 Tryd.f6 rfl rfl rfl rfl rfl rfl rfl ⟨rfl, rfl, rfl, rfl, rfl⟩ rfl rfl rfl rfl rfl (by kernel_rfl) Tryd.func6 (by kernel_rfl)
    (of_decide_eq_true (by kernel_rfl)) (by unfold Func.isWrapper; first | (rw [if_pos (by decide +kernel)]; kernel_rfl) | (rw [if_neg (by decide +kernel)]; exact ⟨rfl, rfl⟩))
    (fun os started H enc _ F => by rw [OpenClaim.pre_eq_preRow]; exact lifted os started H enc F)
theorem plain (f : FuncId) (fn : Func) (hf : Tryd.pinned.checked.prog.funcNamed "katabasis/katabasislaw03.WordTerras" = some f) (hfn : Tryd.pinned.checked.prog.funcs[f]? = some fn) :
    true = Tryd.pinned.checked.prog.looks [] ∧ ∀ (j : Nat) t, fn.params[j]? = some t → Tryd.pinned.checked.prog.wantsStandIn t = false := by
  obtain rfl : f = 6 := Option.some.inj ((show Tryd.prog.funcNamed "katabasis/katabasislaw03.WordTerras" = some 6 by kernel_rfl).symm.trans hf) |>.symm
  obtain rfl : fn = Tryd.f6 := (Option.some.inj (Tryd.func6.symm.trans hfn)).symm
  refine ⟨by kernel_rfl, fun j t ht => ?_⟩
  rw [Tryd.params6] at ht
  have : t = 24 ∨ t = 22 ∨ t = 9 := by have h := Array.mem_of_getElem? ht; simp at h; first | exact h | (rcases h with h | h | h | h <;> simp [h]) | (rcases h with h | h | h <;> simp [h]) | (rcases h with h | h <;> simp [h])
  rcases this with rfl | rfl | rfl
  · exact (show Tryd.prog.wantsStandIn 24 = false by kernel_rfl)
  · exact (show Tryd.prog.wantsStandIn 22 = false by kernel_rfl)
  · exact (show Tryd.prog.wantsStandIn 9 = false by kernel_rfl)
end Go.Proofs.YtbilndahjkimkaaDoor.wordTerras
namespace Go.Proofs.YtbilndahjkimkaaDoor
open Go
theorem wordTerras_holds : Rows.WordTerrasCardSaid :=
  Claim7.holds_tied_plain_at .later [] _ _ _ _ wordTerras.said (fun _ h => by cases h) (by kernel_rfl) (fun _ h => by cases h) wordTerras_row_tie rfl ⟨rfl, rfl⟩ (by kernel_rfl) rfl wordTerras.plain (by kernel_rfl)
#print axioms wordTerras_holds
end Go.Proofs.YtbilndahjkimkaaDoor

