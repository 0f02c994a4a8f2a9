/- What the proof of a row of this seat leans on (part 3 of 5): a library of abstract values, walks of functions, and plain laws. -/
import Derived.Test.YtaeknciienkijaaPkTopLongb
namespace Go.Ab
open Go Go.Mth
abbrev Iv (z : Int) : AV := .lit (.int .i64 z)
abbrev Sv (a : ByteArray) : AV := .lit (.string a)
abbrev Nv (n : Nat) : AV := nm .i64 n
abbrev Lv (l : List Int) : AV := .sl 1 (is .i64 l)
abbrev Tv : AV := .lit (.bool true)
abbrev Fv : AV := .lit (.bool false)
abbrev Zv : AV := .lit (.slice none 0 0)
theorem gn {ops : Array Oper} {s : List (Nat × AV)} : Gd ops s none := .none
abbrev Ev : ByteArray := { data := #[] }
abbrev Bv (z : Int) : AV := bp (z < 0)
abbrev Dv (z : Int) : AV := .sl 1 (ns .u32 (digs z.natAbs))
abbrev Rv (z : Int) : AV := .sl 1 (ns .i64 (digs z.natAbs))
end Go.Ab
set_option linter.unusedVariables false
set_option linter.unusedSimpArgs false
namespace Go.Proofs.Ytaeknciienkijaa
open Go Go.Ab Go.Mth
theorem f0_ : cx.P.underlying 61 = some (.slice 73) := by kernel_rfl
theorem f1_ : tyElem cx.P 61 = some (73, 1, 8) := by kernel_rfl
theorem f2_ : tySc cx.P 73 = true := by kernel_rfl
theorem f3_ : tyZero cx.P 73 = some [Go.Value.int IntKind.u64 0] := by kernel_rfl
theorem f4_ : callable cx.P 57 = true := by kernel_rfl
theorem f5_ : callable cx.P 64 = true := by kernel_rfl
theorem f6_ : (Try.f63.name == "runtime.NumGoroutine") = false := by kernel_rfl
theorem f7_ : Extern.findNext Try.f63 = none := by kernel_rfl
theorem f8_ : Extern.find Try.f63 = some add64Entry := by kernel_rfl
theorem f9_ : tySize cx.P 73 = some 1 := by kernel_rfl
theorem c_xAt (a : List Nat) (i : Nat) : ECalls cx 64 [.sl 1 (ns .u64 a), Nv i] (nm .u64 (a.getD i 0)) := by
 refine ecalls_of_awp Try.func64 (c := _) rfl (Nat.le_of_ble_eq_true rfl) ?_
 show awp cx 13 _ (postF cx Try.f64 _) ⟨[(0, .sl 1 (ns .u64 a)), (1, Nv i)], []⟩
 refine awp_seq fun K0 hK0 => awp_region rfl (o_as (nm .u64 0) rfl (aops_end (hK0 _ (awp_seq fun K1 hK1 => awp_seq fun K2 hK2 => awp_region rfl (o_mv (Nv i) rfl (o_mv (.sl 1 (ns .u64 a)) rfl ?_))))))
 refine n_len a gn f0_ rfl ?_
 refine n_lss i (a.length) gn rfl rfl ?_
 refine aops_end (hK2 _ ?_)
 refine awp_condQ (q := i < (a.length)) rfl (fun h1 => ?_) (fun h1 => ?_)
 ·refine awp_seq fun K3 hK3 => awp_region rfl (o_mv (.sl 1 (ns .u64 a)) rfl (o_mv (Nv i) rfl ?_))
  refine n_index a i gn f1_ rfl rfl (by omega) ?_
  refine n_loadI a i gn f2_ rfl (by omega) ?_
  refine o_as (nm .u64 (a.getD i 0)) rfl (aops_end (hK3 _ ?_))
  refine awp_ret ?_
  refine post_ret ⟨[nm .u64 (a.getD i 0)], ⟨AV.le_refl _, trivial⟩, rfl, ?_⟩
  first | rfl | exact congrArg (nm _) (Mw.getD_ge (by omega))
 ·refine awp_skip (hK1 _ (awp_seq fun K4 hK4 => awp_region rfl (o_as (nm .u64 0) rfl (aops_end (hK4 _ ?_)))))
  refine awp_ret ?_
  refine post_ret ⟨[nm .u64 0], ⟨AV.le_refl _, trivial⟩, rfl, ?_⟩
  first | rfl | exact congrArg (nm _) (Mw.getD_ge (by omega))

theorem c_xTrim (xs : List Nat) (hx : Mw.Dig xs) : ECalls cx 57 [.sl 1 (ns .u64 xs)] (.sl 1 (ns .u64 (Mw.digs (Mw.val xs)))) := by
 refine ecalls_of_awp Try.func57 (c := _) rfl (Nat.le_of_ble_eq_true rfl) ?_
 show awp cx 21 _ (postF cx Try.f57 _) ⟨[(0, .sl 1 (ns .u64 xs))], []⟩
 refine awp_bound (i := 0) rfl fun hb => ?_
 replace hb := n_bnd hb
 refine awp_seq fun K0 hK0 => awp_region rfl (o_as Zv rfl (aops_end (hK0 _ (awp_seq fun K1 hK1 => ?_))))
 refine awp_block ?_
 refine awp_loopR (fun κ σ => ∃ (ys : List Nat), (ys.length ≤ xs.length) ∧ (Mw.Dig ys) ∧ (Mw.val ys = Mw.val xs) ∧ ys.length = κ ∧ σ = ⟨[(0, .sl 1 (ns .u64 ys))], []⟩) ⟨_, _, ⟨xs, Nat.le_refl _, hx, rfl, rfl, rfl⟩, ?wk0⟩ ?rd0
 case wk0 =>
  exact Wk.sub ⟨(by first | rfl | simp), trivial⟩ trivial
 rintro κ _ ⟨ys, hn, hd, hv, rfl, rfl⟩
 have htk : ((ys.drop 0).take (ys.length - 1 - 0)).length = ys.length - 1 := by rw [List.length_take, List.length_drop]; omega
 refine awp_seq fun K2 hK2 => awp_seq fun K3 hK3 => awp_region rfl (o_mv (.sl 1 (ns .u64 ys)) rfl ?_)
 refine n_len ys gn f0_ rfl ?_
 refine n_gtr (ys.length) 0 gn rfl rfl ?_
 refine o_mv (bp (0 < (ys.length))) rfl ?_
 refine o_splitP (q := 0 < (ys.length)) 6 rfl (fun h1 => ?_) (fun h1 => ?_)
 ·refine o_move (.sl 1 (ns .u64 ys)) (Gd.yes rfl rfl (decide_eq_true h1)) rfl (o_move (.sl 1 (ns .u64 ys)) (Gd.yes rfl rfl (decide_eq_true h1)) rfl ?_)
  refine n_len ys (Gd.yes rfl rfl (decide_eq_true h1)) f0_ rfl ?_
  refine n_sub (ys.length) 1 (Gd.yes rfl rfl (decide_eq_true h1)) rfl rfl (by omega) (by simp only [topOf]; omega) ?_
  refine n_index ys ((ys.length) - 1) (Gd.yes rfl rfl (decide_eq_true h1)) f1_ rfl rfl (by omega) ?_
  refine n_loadI ys ((ys.length) - 1) (Gd.yes rfl rfl (decide_eq_true h1)) f2_ rfl (by omega) ?_
  refine n_eql (ys.getD ((ys.length) - 1) 0) 0 (Gd.yes rfl rfl (decide_eq_true h1)) rfl rfl ?_
  refine o_pickT (bp ((ys.getD ((ys.length) - 1) 0) = 0)) gn rfl (decide_eq_true h1) rfl ?_
  refine aops_end (hK3 _ ?_)
  refine awp_condQ (q := (ys.getD ((ys.length) - 1) 0) = 0) rfl (fun h2 => ?_) (fun h2 => ?_)
  ·refine awp_skip (hK2 _ ?_)
   refine awp_block ?_
   refine awp_region rfl (o_mv (.sl 1 (ns .u64 ys)) rfl (o_mv (.sl 1 (ns .u64 ys)) rfl ?_))
   refine n_len ys gn f0_ rfl ?_
   refine n_sub (ys.length) 1 gn rfl rfl (by omega) (by simp only [topOf]; omega) ?_
   refine n_slice ys 0 ((ys.length) - 1) gn f1_ rfl rfl (hi_nm rfl) trivial (by omega) (by omega) ?_
   refine o_as (.sl 1 (ns .u64 ((ys.drop 0).take ((ys.length) - 1 - 0)))) rfl (aops_end ?_)
   refine ⟨_, _, ?lt, ⟨(ys.drop 0).take ((ys.length) - 1 - 0), (by simp only [List.length_take, List.length_drop]; omega), (show Mw.Dig (ys.drop 0) from hd).take _, ((Mw.cut_val (by omega) (by assumption)).trans hv), rfl, rfl⟩, ?wk⟩
   case lt => omega
   case wk => exact Wk.sub ⟨(by first | rfl | simp), trivial⟩ trivial
  ·refine awp_exit ?_
   refine hK1 _ (awp_seq fun K4 hK4 => awp_region rfl (o_mv (.sl 1 (ns .u64 ys)) rfl (o_as (.sl 1 (ns .u64 ys)) rfl (aops_end (hK4 _ ?_)))))
   refine awp_ret ?_
   refine post_ret ⟨[.sl 1 (ns .u64 ys)], ⟨AV.le_refl _, trivial⟩, rfl, ?_⟩
   have hce := Mw.cut_end hd (by first | (left; omega) | (right; assumption))
   rw [hv] at hce
   exact ns_congr hce
 ·refine o_skip rfl rfl (decide_eq_false h1) (o_skip rfl rfl (decide_eq_false h1) (o_skip rfl rfl (decide_eq_false h1) (o_skip rfl rfl (decide_eq_false h1) (o_skip rfl rfl (decide_eq_false h1) (o_skip rfl rfl (decide_eq_false h1) (o_skip rfl rfl (decide_eq_false h1) ?_))))))
  refine o_pickF Fv gn rfl (decide_eq_false h1) rfl ?_
  refine aops_end (hK3 _ ?_)
  refine awp_condB (b := false) rfl (fun hh => absurd (hh.symm.trans rfl) (by decide)) (fun _ => ?_)
  refine awp_exit ?_
  refine hK1 _ (awp_seq fun K5 hK5 => awp_region rfl (o_mv (.sl 1 (ns .u64 ys)) rfl (o_as (.sl 1 (ns .u64 ys)) rfl (aops_end (hK5 _ ?_)))))
  refine awp_ret ?_
  refine post_ret ⟨[.sl 1 (ns .u64 ys)], ⟨AV.le_refl _, trivial⟩, rfl, ?_⟩
  have hce := Mw.cut_end hd (by first | (left; omega) | (right; assumption))
  rw [hv] at hce
  exact ns_congr hce

theorem c_xOf (n : Nat) (hn : n < 18446744073709551616) : ECalls cx 35 [nm .u64 n] (.sl 1 (ns .u64 (Mw.digs n))) := by
 refine ecalls_of_awp Try.func35 (c := _) rfl (Nat.le_of_ble_eq_true rfl) ?_
 show awp cx 6 _ (postF cx Try.f35 _) ⟨[(0, nm .u64 n)], []⟩
 have hd1 : Mw.Dig [n] := Mw.Dig.nil.cons hn
 refine awp_seq fun K0 hK0 => awp_region rfl (o_as Zv rfl (aops_end (hK0 _ (awp_seq fun K1 hK1 => awp_region rfl (o_mv (nm .u64 n) rfl ?_)))))
 refine o_buildSlice 2 (ns .u64 ([n])) [(0, [nm .u64 n])] gn f1_ rfl f3_ rfl rfl rfl rfl rfl rfl rfl ?_
 refine o_callG [(2, 1, ns .u64 ([n]))] [.sl 1 (ns .u64 ([n]))] _ (.sl 1 (ns .u64 (Mw.digs (Mw.val ([n]))))) [] gn f4_ rfl ⟨⟨_, rfl⟩, trivial⟩ rfl rfl (LeL.cons (AV.le_refl _) LeL.nil) (c_xTrim ([n]) (by assumption)) rfl ?_
 refine o_as (.sl 1 (ns .u64 (Mw.digs (Mw.val ([n]))))) rfl (aops_end (hK1 _ ?_))
 refine awp_ret ?_
 refine post_ret ⟨[.sl 1 (ns .u64 (Mw.digs (Mw.val ([n]))))], ⟨AV.le_refl _, trivial⟩, rfl, ?_⟩
 exact ns_congr (by rw [show Mw.val [n] = n by simp [Mw.val]])

theorem c_xPlus (m n : Nat) (hm : (Mw.digs m).length ≤ 1000000) (hn : (Mw.digs n).length ≤ 1000000) : ECalls cx 50 [.sl 1 (ns .u64 (Mw.digs m)), .sl 1 (ns .u64 (Mw.digs n))] (.sl 1 (ns .u64 (Mw.digs (m + n)))) := by
 refine ecalls_of_awp Try.func50 (c := _) rfl (Nat.le_of_ble_eq_true rfl) ?_
 show awp cx 37 _ (postF cx Try.f50 _) ⟨[(0, .sl 1 (ns .u64 (Mw.digs m))), (1, .sl 1 (ns .u64 (Mw.digs n)))], []⟩
 refine awp_seq fun K0 hK0 => awp_region rfl (o_as Zv rfl (aops_end (hK0 _ (awp_seq fun K1 hK1 => awp_region rfl (o_mv (.sl 1 (ns .u64 (Mw.digs m))) rfl ?_)))))
 refine n_len (Mw.digs m) gn f0_ rfl ?_
 refine o_mv (.sl 1 (ns .u64 (Mw.digs n))) rfl ?_
 refine n_len (Mw.digs n) gn f0_ rfl ?_
 refine n_max ((Mw.digs m).length) ((Mw.digs n).length) gn rfl rfl (fun a c w => run_max a c w) ?_
 refine n_add (max ((Mw.digs m).length) ((Mw.digs n).length)) 1 gn rfl rfl (by simp only [topOf]; omega) ?_
 refine n_make 2 ((max ((Mw.digs m).length) ((Mw.digs n).length)) + 1) gn f1_ f3_ rfl rfl (by omega) rfl rfl ?_
 refine o_as (.row 2) rfl (aops_end (hK1 _ (awp_seq fun K2 hK2 => awp_region rfl (o_as (nm .u64 0) rfl (aops_end (hK2 _ (awp_seq fun K3 hK3 => awp_seq fun K4 hK4 => awp_region rfl (o_mv (.row 2) rfl ?_))))))))
 refine n_lenRow (List.replicate ((max ((Mw.digs m).length) ((Mw.digs n).length)) + 1) 0) gn f0_ rfl rfl ?_
 refine n_as (v' := (Nv (max ((Mw.digs m).length) ((Mw.digs n).length) + 1))) (congrArg (nm _) (by exact List.length_replicate)) ?_
 refine o_mv (Nv 0) rfl (aops_end (hK4 _ ?_))
 refine awp_block ?_
 refine awp_loopR (fun κ σ => ∃ (i : Nat), ∃ (o : List Nat), ∃ (c : Nat), (o.length = max (Mw.digs m).length (Mw.digs n).length + 1) ∧ (i ≤ (max ((Mw.digs m).length) ((Mw.digs n).length) + 1)) ∧ (Mw.Dig o) ∧ (c ≤ 1) ∧ (Mw.val (o.take i) + 18446744073709551616 ^ i * c = Mw.val ((Mw.digs m).take i) + Mw.val ((Mw.digs n).take i)) ∧ ((max ((Mw.digs m).length) ((Mw.digs n).length) + 1) - i) = κ ∧ σ = ⟨[(0, .sl 1 (ns .u64 (Mw.digs m))), (1, .sl 1 (ns .u64 (Mw.digs n))), (5, .row 50), (6, nm .u64 c), (16, Nv (max ((Mw.digs m).length) ((Mw.digs n).length) + 1)), (17, Nv i)], [(50, .row 73 1 (ns .u64 o))]⟩) ⟨_, _, ⟨0, List.replicate (max ((Mw.digs m).length) ((Mw.digs n).length) + 1) 0, 0, (by rw [List.length_replicate]), Nat.zero_le _, Mw.Dig.repl _, (by omega), (by simp [Mw.val]), rfl, rfl⟩, ?wk0⟩ ?rd0
 case wk0 =>
  exact Wk.trans (Wk.sub (σ' := ⟨[(0, .sl 1 (ns .u64 (Mw.digs m))), (1, .sl 1 (ns .u64 (Mw.digs n))), (5, .row 2), (6, nm .u64 0), (16, Nv (max ((Mw.digs m).length) ((Mw.digs n).length) + 1)), (17, Nv 0)], [(2, .row 73 1 (ns .u64 (List.replicate ((max ((Mw.digs m).length) ((Mw.digs n).length)) + 1) 0)))]⟩) ⟨rfl, rfl, rfl, rfl, rfl, rfl, trivial⟩ ⟨rfl, trivial⟩) (Wk.trans (Wk.ren (id := 2) (id' := 50) rfl) (Wk.sub ⟨rfl, rfl, (by first | rfl | simp), (by first | rfl | exact nm_int (by omega)), rfl, (by first | rfl | exact nm_int (by omega)), trivial⟩ ⟨(by first | rfl | exact row_ns (by simp)), trivial⟩))
 rintro κ _ ⟨i, o, c, hl, hi, hd, hc, hv, rfl, rfl⟩
 have hA := Mw.Dig.getD (Mw.digs_dig m) i
 have hB := Mw.Dig.getD (Mw.digs_dig n) i
 refine awp_seq fun K5 hK5 => awp_region rfl ?_
 refine n_lss i (max ((Mw.digs m).length) ((Mw.digs n).length) + 1) gn rfl rfl ?_
 refine aops_end (hK5 _ (awp_seq fun K6 hK6 => ?_))
 refine awp_condQ (q := i < (max ((Mw.digs m).length) ((Mw.digs n).length) + 1)) rfl (fun h1 => ?_) (fun h1 => ?_)
 ·refine awp_skip (hK6 _ (awp_seq fun K7 hK7 => ?_))
  refine awp_block ?_
  refine awp_seq fun K8 hK8 => awp_region rfl (o_mv (Nv i) rfl (o_as (Nv i) rfl (aops_end (hK8 _ (awp_region rfl (o_mv (.row 50) rfl (o_mv (Nv i) rfl (o_mv (.sl 1 (ns .u64 (Mw.digs m))) rfl (o_mv (Nv i) rfl ?_)))))))))
  refine o_ct (c_xAt (Mw.digs m) i) gn f5_ rfl ?_
  refine o_mv (.sl 1 (ns .u64 (Mw.digs n))) rfl (o_mv (Nv i) rfl ?_)
  refine o_ct (c_xAt (Mw.digs n) i) gn f5_ rfl ?_
  refine o_mv (nm .u64 c) rfl ?_
  refine o_add64 ((Mw.digs m).getD i 0) ((Mw.digs n).getD i 0) c Try.func63 f6_ rfl f7_ f8_ (by omega) gn rfl rfl rfl ?_
  refine o_mv (W64 ((((Mw.digs m).getD i 0) + ((Mw.digs n).getD i 0) + c) % 18446744073709551616) ((((Mw.digs m).getD i 0) + ((Mw.digs n).getD i 0) + c) / 18446744073709551616)) rfl ?_
  refine o_ext0 ((((Mw.digs m).getD i 0) + ((Mw.digs n).getD i 0) + c) % 18446744073709551616) ((((Mw.digs m).getD i 0) + ((Mw.digs n).getD i 0) + c) / 18446744073709551616) gn rfl ?_
  refine o_ext1 ((((Mw.digs m).getD i 0) + ((Mw.digs n).getD i 0) + c) % 18446744073709551616) ((((Mw.digs m).getD i 0) + ((Mw.digs n).getD i 0) + c) / 18446744073709551616) gn rfl ?_
  refine n_indexRow o i gn f1_ rfl rfl rfl (by omega) ?_
  refine n_storeRow o i ((((Mw.digs m).getD i 0) + ((Mw.digs n).getD i 0) + c) % 18446744073709551616) [(50, .row 73 1 (ns .u64 (o.set i ((((Mw.digs m).getD i 0) + ((Mw.digs n).getD i 0) + c) % 18446744073709551616))))] gn f9_ rfl rfl rfl (by omega) rfl ?_
  refine o_as (nm .u64 ((((Mw.digs m).getD i 0) + ((Mw.digs n).getD i 0) + c) / 18446744073709551616)) rfl (aops_end (hK7 _ (awp_region rfl ?_)))
  refine n_add i 1 gn rfl rfl (by simp only [topOf]; omega) ?_
  refine o_mv (Nv (i + 1)) rfl (aops_end ?_)
  refine ⟨_, _, ?lt, ⟨i + 1, o.set i ((((Mw.digs m).getD i 0) + ((Mw.digs n).getD i 0) + c) % 18446744073709551616), (((Mw.digs m).getD i 0) + ((Mw.digs n).getD i 0) + c) / 18446744073709551616, (by rw [List.length_set]; exact hl), (by omega), (hd.set (Nat.mod_lt _ (by decide))), (by omega), (Mw.add_set (by omega) hv rfl), rfl, rfl⟩, ?wk⟩
  case lt => omega
  case wk => exact Wk.sub ⟨rfl, rfl, rfl, (by first | rfl | exact nm_int (by omega)), rfl, (by first | rfl | exact nm_int (by omega)), trivial⟩ ⟨(by first | rfl | exact row_ns (by simp)), trivial⟩
 ·refine awp_exit ?_
  refine hK3 _ (awp_seq fun K9 hK9 => awp_region rfl (o_mv (.row 50) rfl ?_))
  refine o_callG [(50, 1, ns .u64 o)] [.sl 1 (ns .u64 o)] _ (.sl 1 (ns .u64 (Mw.digs (Mw.val o)))) [] gn f4_ rfl ⟨⟨_, rfl⟩, trivial⟩ rfl rfl (LeL.cons (AV.le_refl _) LeL.nil) (c_xTrim o (by assumption)) rfl ?_
  refine o_as (.sl 1 (ns .u64 (Mw.digs (Mw.val o)))) rfl (aops_end (hK9 _ ?_))
  refine awp_ret ?_
  refine post_ret ⟨[.sl 1 (ns .u64 (Mw.digs (Mw.val o)))], ⟨AV.le_refl _, trivial⟩, rfl, ?_⟩
  have hil : i = o.length := by omega
  subst hil
  exact ns_congr (by rw [Mw.add_done hl hv])

theorem c_xCmp (m n : Nat) (hm : (Mw.digs m).length ≤ 1000000) (hn : (Mw.digs n).length ≤ 1000000) : ECalls cx 56 [.sl 1 (ns .u64 (Mw.digs m)), .sl 1 (ns .u64 (Mw.digs n))] (.lit (.int .i64 (cmpN m n))) := by
 refine ecalls_of_awp Try.func56 (c := _) rfl (Nat.le_of_ble_eq_true rfl) ?_
 show awp cx 32 _ (postF cx Try.f56 _) ⟨[(0, .sl 1 (ns .u64 (Mw.digs m))), (1, .sl 1 (ns .u64 (Mw.digs n)))], []⟩
 refine awp_seq fun K0 hK0 => awp_region rfl (o_as (Nv 0) rfl (aops_end (hK0 _ (awp_seq fun K1 hK1 => awp_seq fun K2 hK2 => awp_region rfl (o_mv (.sl 1 (ns .u64 (Mw.digs m))) rfl ?_)))))
 refine n_len (Mw.digs m) gn f0_ rfl ?_
 refine o_mv (.sl 1 (ns .u64 (Mw.digs n))) rfl ?_
 refine n_len (Mw.digs n) gn f0_ rfl ?_
 refine n_max ((Mw.digs m).length) ((Mw.digs n).length) gn rfl rfl (fun a c w => run_max a c w) ?_
 refine o_sub (a := ((max ((Mw.digs m).length) ((Mw.digs n).length) : Nat) : Int)) (c := ((1 : Nat) : Int)) gn rfl rfl (by exact wrap64 (by omega) (by omega)) ?_
 refine o_as (Iv (((max ((Mw.digs m).length) ((Mw.digs n).length) : Nat) : Int) - ((1 : Nat) : Int))) rfl (aops_end (hK2 _ ?_))
 refine awp_block ?_
 refine awp_loopR (fun κ σ => ∃ (j : Nat), (j ≤ max (Mw.digs m).length (Mw.digs n).length) ∧ (Mw.val ((Mw.digs m).drop j) = Mw.val ((Mw.digs n).drop j)) ∧ j = κ ∧ σ = ⟨[(0, .sl 1 (ns .u64 (Mw.digs m))), (1, .sl 1 (ns .u64 (Mw.digs n))), (5, (Iv (((j : Nat) : Int) - 1)))], []⟩) ⟨_, _, ⟨max (Mw.digs m).length (Mw.digs n).length, Nat.le_refl _, (by rw [Mw.val_drop_all (by omega), Mw.val_drop_all (by omega)]), rfl, rfl⟩, ?wk0⟩ ?rd0
 case wk0 =>
  exact Wk.sub ⟨rfl, rfl, (by first | rfl | exact int_eq (by omega) | exact int_nm (by omega)), trivial⟩ trivial
 rintro κ _ ⟨j, hj, hd, rfl, rfl⟩
 refine awp_seq fun K3 hK3 => awp_seq fun K4 hK4 => awp_region rfl (o_mv (Iv (((j : Nat) : Int) - 1)) rfl ?_)
 refine o_geq (a := (((j : Nat) : Int) - 1)) (c := ((0 : Nat) : Int)) gn rfl rfl ?_
 refine aops_end (hK4 _ ?_)
 refine awp_condQ (q := ((0 : Nat) : Int) ≤ (((j : Nat) : Int) - 1)) rfl (fun h1 => ?_) (fun h1 => ?_)
 ·refine awp_skip (hK3 _ (awp_seq fun K5 hK5 => ?_))
  refine awp_block ?_
  refine awp_block ?_
  refine awp_seq fun K6 hK6 => awp_region rfl (o_mv (.sl 1 (ns .u64 (Mw.digs m))) rfl (o_mv (Iv (((j : Nat) : Int) - 1)) rfl ?_))
  refine n_as (v' := (Nv (j - 1))) (nm_int (by omega)) ?_
  refine o_ct (c_xAt (Mw.digs m) (j - 1)) gn f5_ rfl ?_
  refine o_mv (.sl 1 (ns .u64 (Mw.digs n))) rfl (o_mv (Iv (((j : Nat) : Int) - 1)) rfl ?_)
  refine n_as (v' := (Nv (j - 1))) (nm_int (by omega)) ?_
  refine o_ct (c_xAt (Mw.digs n) (j - 1)) gn f5_ rfl ?_
  refine n_lss ((Mw.digs m).getD (j - 1) 0) ((Mw.digs n).getD (j - 1) 0) gn rfl rfl ?_
  refine o_as (bp (((Mw.digs m).getD (j - 1) 0) < ((Mw.digs n).getD (j - 1) 0))) rfl (aops_end (hK6 _ ?_))
  refine awp_condQ (q := ((Mw.digs m).getD (j - 1) 0) < ((Mw.digs n).getD (j - 1) 0)) rfl (fun h2 => ?_) (fun h2 => ?_)
  ·refine awp_seq fun K7 hK7 => awp_region rfl (o_as (Iv (-1)) rfl (aops_end (hK7 _ ?_)))
   refine awp_ret ?_
   refine post_ret ⟨[Iv (-1)], ⟨AV.le_refl _, trivial⟩, rfl, ?_⟩
   first | exact congrArg (fun z => AV.lit (.int .i64 z)) (Mw.cmp_1 (j := j - 1) (by rw [show j - 1 + 1 = j by omega]; exact hd) (by assumption)) | exact congrArg (fun z => AV.lit (.int .i64 z)) (Mw.cmp_2 (j := j - 1) (by rw [show j - 1 + 1 = j by omega]; exact hd) (by assumption)) | (have hj0 : j = 0 := (by omega); subst hj0; exact congrArg (fun z => AV.lit (.int .i64 z)) (Mw.cmp_0 hd))
  ·refine awp_seq fun K8 hK8 => awp_region rfl (o_mv (.sl 1 (ns .u64 (Mw.digs m))) rfl (o_mv (Iv (((j : Nat) : Int) - 1)) rfl ?_))
   refine n_as (v' := (Nv (j - 1))) (nm_int (by omega)) ?_
   refine o_ct (c_xAt (Mw.digs m) (j - 1)) gn f5_ rfl ?_
   refine o_mv (.sl 1 (ns .u64 (Mw.digs n))) rfl (o_mv (Iv (((j : Nat) : Int) - 1)) rfl ?_)
   refine n_as (v' := (Nv (j - 1))) (nm_int (by omega)) ?_
   refine o_ct (c_xAt (Mw.digs n) (j - 1)) gn f5_ rfl ?_
   refine n_gtr ((Mw.digs m).getD (j - 1) 0) ((Mw.digs n).getD (j - 1) 0) gn rfl rfl ?_
   refine o_as (bp (((Mw.digs n).getD (j - 1) 0) < ((Mw.digs m).getD (j - 1) 0))) rfl (aops_end (hK8 _ ?_))
   refine awp_condQ (q := ((Mw.digs n).getD (j - 1) 0) < ((Mw.digs m).getD (j - 1) 0)) rfl (fun h3 => ?_) (fun h3 => ?_)
   ·refine awp_seq fun K9 hK9 => awp_region rfl (o_as (Nv 1) rfl (aops_end (hK9 _ ?_)))
    refine awp_ret ?_
    refine post_ret ⟨[Nv 1], ⟨AV.le_refl _, trivial⟩, rfl, ?_⟩
    first | exact congrArg (fun z => AV.lit (.int .i64 z)) (Mw.cmp_1 (j := j - 1) (by rw [show j - 1 + 1 = j by omega]; exact hd) (by assumption)) | exact congrArg (fun z => AV.lit (.int .i64 z)) (Mw.cmp_2 (j := j - 1) (by rw [show j - 1 + 1 = j by omega]; exact hd) (by assumption)) | (have hj0 : j = 0 := (by omega); subst hj0; exact congrArg (fun z => AV.lit (.int .i64 z)) (Mw.cmp_0 hd))
   ·refine awp_skip (hK5 _ (awp_region rfl (o_mv (Iv (((j : Nat) : Int) - 1)) rfl ?_)))
    refine o_sub (a := (((j : Nat) : Int) - 1)) (c := ((1 : Nat) : Int)) gn rfl rfl (by exact wrap64 (by omega) (by omega)) ?_
    refine o_as (Iv ((((j : Nat) : Int) - 1) - ((1 : Nat) : Int))) rfl (aops_end ?_)
    refine ⟨_, _, ?lt, ⟨j - 1, (by omega), (Mw.drop_at (j := j - 1) (by rw [show j - 1 + 1 = j by omega]; exact hd) (by omega)), rfl, rfl⟩, ?wk⟩
    case lt => omega
    case wk => exact Wk.sub ⟨rfl, rfl, (by first | rfl | exact int_eq (by omega) | exact int_nm (by omega)), trivial⟩ trivial
 ·refine awp_exit ?_
  refine hK1 _ (awp_seq fun K10 hK10 => awp_region rfl (o_as (Nv 0) rfl (aops_end (hK10 _ ?_))))
  refine awp_ret ?_
  refine post_ret ⟨[Nv 0], ⟨AV.le_refl _, trivial⟩, rfl, ?_⟩
  first | exact congrArg (fun z => AV.lit (.int .i64 z)) (Mw.cmp_1 (j := j - 1) (by rw [show j - 1 + 1 = j by omega]; exact hd) (by assumption)) | exact congrArg (fun z => AV.lit (.int .i64 z)) (Mw.cmp_2 (j := j - 1) (by rw [show j - 1 + 1 = j by omega]; exact hd) (by assumption)) | (have hj0 : j = 0 := (by omega); subst hj0; exact congrArg (fun z => AV.lit (.int .i64 z)) (Mw.cmp_0 hd))

end Go.Proofs.Ytaeknciienkijaa

namespace Go.Proofs.Ytaeknciienkijaa
open Go Go.Ab Go.Mth
theorem ecalls_same {f : FuncId} {xs : List AV} {r : Value} {vs : List Value} (hv : ∀ (H : Ab.Heap) (L : Ab.Loc) (us : List Value), RepL H xs L us → us = vs) (h : ∀ w, Calls Try.prog f vs.toArray w fun e w' => e = .returned r ∧ w' = w) {res : AV} (hr : ∀ H : Ab.Heap, RepV H res noLoc r) : ECalls cx f xs res := by
 intro H L vals w hG hH hrl
 obtain rfl := hv H L vals hrl
 refine (h w).mono ?_
 rintro e w' ⟨rfl, rfl⟩
 exact ⟨H, _, rfl, hr H, Ext.refl _ _, hH, Bel.refl _ _⟩
theorem c_mul64 (x y : Nat) (hx : x < 18446744073709551616) (hy : y < 18446744073709551616) : ECalls cx 62 [nm .u64 x, nm .u64 y] (.tup [nm .u64 (x * y / 18446744073709551616), nm .u64 (x * y % 18446744073709551616)]) :=
 ecalls_same (vs := [.int .u64 x, .int .u64 y]) (fun H L us h => by simp only [RepL, RepV, nm] at h; obtain ⟨v, r, rfl, rfl, v2, r2, rfl, rfl, rfl⟩ := h; rfl) (fun w => Try.bits_Mul64 x y hx hy w)
  (fun H => by simp only [RepV, RepL, nm]; exact ⟨_, rfl, _, _, rfl, rfl, _, _, rfl, rfl, rfl⟩)
theorem c_len64 (x : Nat) (hx : x < 18446744073709551616) : ECalls cx 66 [nm .u64 x] (nm .i64 (Lib.bitLen x)) :=
 ecalls_same (vs := [.int .u64 x]) (fun H L us h => by simp only [RepL, RepV, nm] at h; obtain ⟨v, r, rfl, rfl, rfl⟩ := h; rfl) (fun w => Try.bits_Len64 x w (by omega) (by omega))
  (fun H => by simp only [RepV, nm, Int.toNat_natCast])
theorem c_lz10 : ECalls cx 67 [nm .u64 10] (nm .i64 60) :=
 ecalls_same (vs := [.int .u64 10]) (fun H L us h => by simp only [RepL, RepV, nm] at h; obtain ⟨v, r, rfl, rfl, rfl⟩ := h; rfl) (fun w => Try.bits_LeadingZeros64 10 w (by decide) (by decide))
  (fun H => by simp only [RepV, nm]; rfl)
theorem c_lz2 : ECalls cx 67 [nm .u64 2] (nm .i64 62) :=
 ecalls_same (vs := [.int .u64 2]) (fun H L us h => by simp only [RepL, RepV, nm] at h; obtain ⟨v, r, rfl, rfl, rfl⟩ := h; rfl) (fun w => Try.bits_LeadingZeros64 2 w (by decide) (by decide))
  (fun H => by simp only [RepV, nm]; rfl)
end Go.Proofs.Ytaeknciienkijaa

namespace Go.Proofs.Ytaeknciienkijaa
open Go Go.Ab Go.Mth
theorem f10_ : callable cx.P 62 = true := by kernel_rfl
theorem f11_ : callable cx.P 66 = true := by kernel_rfl
theorem c_xTimes (m n : Nat) (hm : (Mw.digs m).length ≤ 1000000) (hn : (Mw.digs n).length ≤ 1000000) : ECalls cx 49 [.sl 1 (ns .u64 (Mw.digs m)), .sl 1 (ns .u64 (Mw.digs n))] (.sl 1 (ns .u64 (Mw.digs (m * n)))) := by
 refine ecalls_of_awp Try.func49 (c := _) rfl (Nat.le_of_ble_eq_true rfl) ?_
 show awp cx 79 _ (postF cx Try.f49 _) ⟨[(0, .sl 1 (ns .u64 (Mw.digs m))), (1, .sl 1 (ns .u64 (Mw.digs n)))], []⟩
 refine awp_seq fun K0 hK0 => awp_region rfl (o_as Zv rfl (aops_end (hK0 _ (awp_seq fun K1 hK1 => awp_region rfl (o_mv (.sl 1 (ns .u64 (Mw.digs m))) rfl ?_)))))
 refine n_len (Mw.digs m) gn f0_ rfl ?_
 refine o_mv (.sl 1 (ns .u64 (Mw.digs n))) rfl ?_
 refine n_len (Mw.digs n) gn f0_ rfl ?_
 refine n_add ((Mw.digs m).length) ((Mw.digs n).length) gn rfl rfl (by simp only [topOf]; omega) ?_
 refine n_make 2 (((Mw.digs m).length) + ((Mw.digs n).length)) gn f1_ f3_ rfl rfl (by omega) rfl rfl ?_
 refine o_as (.row 2) rfl (aops_end (hK1 _ (awp_seq fun K2 hK2 => awp_seq fun K3 hK3 => awp_region rfl (o_mv (.sl 1 (ns .u64 (Mw.digs m))) rfl ?_))))
 refine n_len (Mw.digs m) gn f0_ rfl ?_
 refine n_as (v' := (Nv ((Mw.digs m).length))) (congrArg (nm _) (by rfl)) ?_
 refine o_mv (Nv 0) rfl (aops_end (hK3 _ ?_))
 refine awp_block ?_
 refine awp_loopR (fun κ σ => ∃ (i : Nat), ∃ (o : List Nat), (i ≤ (Mw.digs m).length) ∧ (o.length = (Mw.digs m).length + (Mw.digs n).length) ∧ (Mw.Dig o) ∧ (Mw.val (o.take (i + (Mw.digs n).length)) = Mw.val ((Mw.digs m).take i) * n) ∧ ((Mw.digs m).length - i) = κ ∧ σ = ⟨[(0, .sl 1 (ns .u64 (Mw.digs m))), (1, .sl 1 (ns .u64 (Mw.digs n))), (5, .row 50), (20, .sl 1 (ns .u64 (Mw.digs m))), (21, Nv ((Mw.digs m).length)), (22, Nv i)], [(50, .row 73 1 (ns .u64 o))]⟩) ⟨_, _, ⟨0, List.replicate (((Mw.digs m).length) + ((Mw.digs n).length)) 0, Nat.zero_le _, List.length_replicate, Mw.Dig.repl _, (by rw [List.take_replicate, Mw.val_repl]; simp [Mw.val]), rfl, rfl⟩, ?wk0⟩ ?rd0
 case wk0 =>
  exact Wk.trans (Wk.sub (σ' := ⟨[(0, .sl 1 (ns .u64 (Mw.digs m))), (1, .sl 1 (ns .u64 (Mw.digs n))), (5, .row 2), (20, .sl 1 (ns .u64 (Mw.digs m))), (21, Nv ((Mw.digs m).length)), (22, Nv 0)], [(2, .row 73 1 (ns .u64 (List.replicate (((Mw.digs m).length) + ((Mw.digs n).length)) 0)))]⟩) ⟨rfl, rfl, rfl, rfl, rfl, rfl, trivial⟩ ⟨rfl, trivial⟩) (Wk.trans (Wk.ren (id := 2) (id' := 50) rfl) (Wk.sub ⟨rfl, rfl, (by first | rfl | simp), rfl, rfl, (by first | rfl | exact nm_int (by omega)), trivial⟩ ⟨(by first | rfl | exact row_ns (by simp)), trivial⟩))
 rintro κ _ ⟨i, o, hi, hl, hd, hv, rfl, rfl⟩
 refine awp_seq fun K4 hK4 => awp_region rfl ?_
 refine n_lss i ((Mw.digs m).length) gn rfl rfl ?_
 refine aops_end (hK4 _ (awp_seq fun K5 hK5 => ?_))
 refine awp_condQ (q := i < ((Mw.digs m).length)) rfl (fun h1 => ?_) (fun h1 => ?_)
 ·refine awp_skip (hK5 _ (awp_seq fun K6 hK6 => ?_))
  refine awp_block ?_
  refine awp_seq fun K7 hK7 => awp_region rfl (o_mv (Nv i) rfl ?_)
  refine n_index (Mw.digs m) i gn f1_ rfl rfl (by omega) ?_
  refine n_loadI (Mw.digs m) i gn f2_ rfl (by omega) ?_
  refine o_as (Nv i) rfl (o_as (nm .u64 ((Mw.digs m).getD i 0)) rfl (aops_end (hK7 _ (awp_seq fun K8 hK8 => awp_region rfl (o_as (nm .u64 0) rfl (aops_end (hK8 _ (awp_seq fun K9 hK9 => awp_seq fun K10 hK10 => awp_region rfl ?_))))))))
  refine o_mv (.sl 1 (ns .u64 (Mw.digs n))) rfl ?_
  refine n_len (Mw.digs n) gn f0_ rfl ?_
  refine o_mv (Nv 0) rfl (aops_end (hK10 _ ?_))
  refine awp_block ?_
  refine awp_loopR (fun κ σ => ∃ (k : Nat), ∃ (o2 : List Nat), ∃ (c : Nat), (k ≤ (Mw.digs n).length) ∧ (o2.length = (Mw.digs m).length + (Mw.digs n).length) ∧ (Mw.Dig o2) ∧ (c < 18446744073709551616) ∧ (Mw.val (o2.take (i + (Mw.digs n).length)) + 18446744073709551616 ^ (i + k) * c = Mw.val ((Mw.digs m).take i) * n + 18446744073709551616 ^ i * ((Mw.digs m).getD i 0 * Mw.val ((Mw.digs n).take k))) ∧ (((Mw.digs n).length) - k) = κ ∧ σ = ⟨[(0, .sl 1 (ns .u64 (Mw.digs m))), (1, .sl 1 (ns .u64 (Mw.digs n))), (5, .row 50), (6, Nv i), (7, nm .u64 ((Mw.digs m).getD i 0)), (8, nm .u64 c), (20, .sl 1 (ns .u64 (Mw.digs m))), (21, Nv ((Mw.digs m).length)), (22, Nv i), (27, .sl 1 (ns .u64 (Mw.digs n))), (28, Nv ((Mw.digs n).length)), (29, Nv k)], [(50, .row 73 1 (ns .u64 o2))]⟩) ⟨_, _, ⟨0, o, 0, Nat.zero_le _, hl, hd, (by decide), (by rw [hv]; simp [Mw.val]), rfl, rfl⟩, ?wk1⟩ ?rd1
  case wk1 =>
   exact Wk.sub ⟨rfl, rfl, rfl, rfl, rfl, (by first | rfl | exact nm_int (by omega)), rfl, rfl, rfl, rfl, (by first | rfl | exact nm_int (by omega)), (by first | rfl | exact nm_int (by omega)), trivial⟩ ⟨(by first | rfl | exact row_ns (by simp)), trivial⟩
  rintro κ _ ⟨k, o2, c, hk, hl2, hd2, hc2, hv2, rfl, rfl⟩
  have hA := Mw.Dig.getD (Mw.digs_dig m) i
  have hB := Mw.Dig.getD (Mw.digs_dig n) k
  have hO := Mw.Dig.getD hd2 (i + k)
  have hP := Mw.Dig.mulb (Mw.digs_dig m) (Mw.digs_dig n) i k
  refine awp_seq fun K11 hK11 => awp_region rfl ?_
  refine n_lss k ((Mw.digs n).length) gn rfl rfl ?_
  refine aops_end (hK11 _ (awp_seq fun K12 hK12 => ?_))
  refine awp_condQ (q := k < ((Mw.digs n).length)) rfl (fun h2 => ?_) (fun h2 => ?_)
  ·refine awp_skip (hK12 _ (awp_seq fun K13 hK13 => ?_))
   refine awp_block ?_
   refine awp_seq fun K14 hK14 => awp_region rfl (o_mv (Nv k) rfl ?_)
   refine n_index (Mw.digs n) k gn f1_ rfl rfl (by omega) ?_
   refine n_loadI (Mw.digs n) k gn f2_ rfl (by omega) ?_
   refine o_as (Nv k) rfl (o_as (nm .u64 ((Mw.digs n).getD k 0)) rfl (aops_end (hK14 _ (awp_seq fun K15 hK15 => awp_region rfl (o_mv (nm .u64 ((Mw.digs m).getD i 0)) rfl (o_mv (nm .u64 ((Mw.digs n).getD k 0)) rfl ?_))))))
   refine o_ct (c_mul64 ((Mw.digs m).getD i 0) ((Mw.digs n).getD k 0) (by omega) (by omega)) gn f10_ rfl ?_
   refine o_mv (.tup [nm .u64 (((Mw.digs m).getD i 0) * ((Mw.digs n).getD k 0) / 18446744073709551616), nm .u64 (((Mw.digs m).getD i 0) * ((Mw.digs n).getD k 0) % 18446744073709551616)]) rfl (o_extract (nm .u64 (((Mw.digs m).getD i 0) * ((Mw.digs n).getD k 0) / 18446744073709551616)) gn rfl rfl (o_extract (nm .u64 (((Mw.digs m).getD i 0) * ((Mw.digs n).getD k 0) % 18446744073709551616)) gn rfl rfl (o_as (nm .u64 (((Mw.digs m).getD i 0) * ((Mw.digs n).getD k 0) / 18446744073709551616)) rfl (o_as (nm .u64 (((Mw.digs m).getD i 0) * ((Mw.digs n).getD k 0) % 18446744073709551616)) rfl (aops_end (hK15 _ (awp_seq fun K16 hK16 => awp_region rfl (o_mv (nm .u64 (((Mw.digs m).getD i 0) * ((Mw.digs n).getD k 0) % 18446744073709551616)) rfl (o_mv (nm .u64 c) rfl ?_)))))))))
   refine o_add64 (((Mw.digs m).getD i 0) * ((Mw.digs n).getD k 0) % 18446744073709551616) c 0 Try.func63 f6_ rfl f7_ f8_ (by omega) gn rfl rfl rfl ?_
   refine o_mv (W64 (((((Mw.digs m).getD i 0) * ((Mw.digs n).getD k 0) % 18446744073709551616) + c + 0) % 18446744073709551616) (((((Mw.digs m).getD i 0) * ((Mw.digs n).getD k 0) % 18446744073709551616) + c + 0) / 18446744073709551616)) rfl ?_
   refine o_ext0 (((((Mw.digs m).getD i 0) * ((Mw.digs n).getD k 0) % 18446744073709551616) + c + 0) % 18446744073709551616) (((((Mw.digs m).getD i 0) * ((Mw.digs n).getD k 0) % 18446744073709551616) + c + 0) / 18446744073709551616) gn rfl ?_
   refine o_ext1 (((((Mw.digs m).getD i 0) * ((Mw.digs n).getD k 0) % 18446744073709551616) + c + 0) % 18446744073709551616) (((((Mw.digs m).getD i 0) * ((Mw.digs n).getD k 0) % 18446744073709551616) + c + 0) / 18446744073709551616) gn rfl ?_
   refine o_as (nm .u64 (((((Mw.digs m).getD i 0) * ((Mw.digs n).getD k 0) % 18446744073709551616) + c + 0) % 18446744073709551616)) rfl (o_as (nm .u64 (((((Mw.digs m).getD i 0) * ((Mw.digs n).getD k 0) % 18446744073709551616) + c + 0) / 18446744073709551616)) rfl (aops_end (hK16 _ (awp_seq fun K17 hK17 => awp_region rfl (o_mv (nm .u64 (((Mw.digs m).getD i 0) * ((Mw.digs n).getD k 0) / 18446744073709551616)) rfl (o_mv (nm .u64 (((((Mw.digs m).getD i 0) * ((Mw.digs n).getD k 0) % 18446744073709551616) + c + 0) / 18446744073709551616)) rfl ?_))))))
   refine n_add (((Mw.digs m).getD i 0) * ((Mw.digs n).getD k 0) / 18446744073709551616) (((((Mw.digs m).getD i 0) * ((Mw.digs n).getD k 0) % 18446744073709551616) + c + 0) / 18446744073709551616) gn rfl rfl (by simp only [topOf]; omega) ?_
   refine o_as (nm .u64 ((((Mw.digs m).getD i 0) * ((Mw.digs n).getD k 0) / 18446744073709551616) + (((((Mw.digs m).getD i 0) * ((Mw.digs n).getD k 0) % 18446744073709551616) + c + 0) / 18446744073709551616))) rfl (aops_end (hK17 _ (awp_seq fun K18 hK18 => awp_region rfl (o_mv (.row 50) rfl (o_mv (Nv i) rfl (o_mv (Nv k) rfl ?_))))))
   refine n_add i k gn rfl rfl (by simp only [topOf]; omega) ?_
   refine o_mv (.row 50) rfl (o_mv (Nv i) rfl (o_mv (Nv k) rfl ?_))
   refine n_add i k gn rfl rfl (by simp only [topOf]; omega) ?_
   refine n_indexRow o2 (i + k) gn f1_ rfl rfl rfl (by omega) ?_
   refine n_loadRow o2 (i + k) gn f2_ rfl rfl (by omega) ?_
   refine o_mv (nm .u64 (((((Mw.digs m).getD i 0) * ((Mw.digs n).getD k 0) % 18446744073709551616) + c + 0) % 18446744073709551616)) rfl ?_
   refine o_add64 (o2.getD (i + k) 0) (((((Mw.digs m).getD i 0) * ((Mw.digs n).getD k 0) % 18446744073709551616) + c + 0) % 18446744073709551616) 0 Try.func63 f6_ rfl f7_ f8_ (by omega) gn rfl rfl rfl ?_
   refine o_mv (W64 (((o2.getD (i + k) 0) + (((((Mw.digs m).getD i 0) * ((Mw.digs n).getD k 0) % 18446744073709551616) + c + 0) % 18446744073709551616) + 0) % 18446744073709551616) (((o2.getD (i + k) 0) + (((((Mw.digs m).getD i 0) * ((Mw.digs n).getD k 0) % 18446744073709551616) + c + 0) % 18446744073709551616) + 0) / 18446744073709551616)) rfl ?_
   refine o_ext0 (((o2.getD (i + k) 0) + (((((Mw.digs m).getD i 0) * ((Mw.digs n).getD k 0) % 18446744073709551616) + c + 0) % 18446744073709551616) + 0) % 18446744073709551616) (((o2.getD (i + k) 0) + (((((Mw.digs m).getD i 0) * ((Mw.digs n).getD k 0) % 18446744073709551616) + c + 0) % 18446744073709551616) + 0) / 18446744073709551616) gn rfl ?_
   refine n_as (v' := (nm .u64 ((o2.getD (i + k) 0 + (Mw.digs m).getD i 0 * (Mw.digs n).getD k 0 + c) % 18446744073709551616))) (by exact congrArg (nm _) (Mw.mul_word _ _ _).1) ?_
   refine o_ext1 (((o2.getD (i + k) 0) + (((((Mw.digs m).getD i 0) * ((Mw.digs n).getD k 0) % 18446744073709551616) + c + 0) % 18446744073709551616) + 0) % 18446744073709551616) (((o2.getD (i + k) 0) + (((((Mw.digs m).getD i 0) * ((Mw.digs n).getD k 0) % 18446744073709551616) + c + 0) % 18446744073709551616) + 0) / 18446744073709551616) gn rfl ?_
   refine n_indexRow o2 (i + k) gn f1_ rfl rfl rfl (by omega) ?_
   refine n_storeRow o2 (i + k) ((o2.getD (i + k) 0 + (Mw.digs m).getD i 0 * (Mw.digs n).getD k 0 + c) % 18446744073709551616) [(50, .row 73 1 (ns .u64 (o2.set (i + k) ((o2.getD (i + k) 0 + (Mw.digs m).getD i 0 * (Mw.digs n).getD k 0 + c) % 18446744073709551616))))] gn f9_ rfl rfl rfl (by omega) rfl ?_
   refine o_as (nm .u64 (((o2.getD (i + k) 0) + (((((Mw.digs m).getD i 0) * ((Mw.digs n).getD k 0) % 18446744073709551616) + c + 0) % 18446744073709551616) + 0) / 18446744073709551616)) rfl (aops_end (hK18 _ (awp_region rfl (o_mv (nm .u64 ((((Mw.digs m).getD i 0) * ((Mw.digs n).getD k 0) / 18446744073709551616) + (((((Mw.digs m).getD i 0) * ((Mw.digs n).getD k 0) % 18446744073709551616) + c + 0) / 18446744073709551616))) rfl (o_mv (nm .u64 (((o2.getD (i + k) 0) + (((((Mw.digs m).getD i 0) * ((Mw.digs n).getD k 0) % 18446744073709551616) + c + 0) % 18446744073709551616) + 0) / 18446744073709551616)) rfl ?_)))))
   refine n_add ((((Mw.digs m).getD i 0) * ((Mw.digs n).getD k 0) / 18446744073709551616) + (((((Mw.digs m).getD i 0) * ((Mw.digs n).getD k 0) % 18446744073709551616) + c + 0) / 18446744073709551616)) (((o2.getD (i + k) 0) + (((((Mw.digs m).getD i 0) * ((Mw.digs n).getD k 0) % 18446744073709551616) + c + 0) % 18446744073709551616) + 0) / 18446744073709551616) gn rfl rfl (by simp only [topOf]; omega) ?_
   refine n_as (v' := (nm .u64 ((o2.getD (i + k) 0 + (Mw.digs m).getD i 0 * (Mw.digs n).getD k 0 + c) / 18446744073709551616))) (by exact congrArg (nm _) (Mw.mul_word _ _ _).2) ?_
   refine o_as (nm .u64 ((o2.getD (i + k) 0 + (Mw.digs m).getD i 0 * (Mw.digs n).getD k 0 + c) / 18446744073709551616)) rfl (aops_end (hK13 _ (awp_region rfl ?_)))
   refine n_add k 1 gn rfl rfl (by simp only [topOf]; omega) ?_
   refine o_mv (Nv (k + 1)) rfl (aops_end ?_)
   refine ⟨_, _, ?lt, ⟨k + 1, o2.set (i + k) ((o2.getD (i + k) 0 + (Mw.digs m).getD i 0 * (Mw.digs n).getD k 0 + c) % 18446744073709551616), (o2.getD (i + k) 0 + (Mw.digs m).getD i 0 * (Mw.digs n).getD k 0 + c) / 18446744073709551616, (by omega), (by rw [List.length_set]; exact hl2), (hd2.set (Nat.mod_lt _ (by decide))), (by omega), (Mw.mul_set (by omega) (by omega) hv2 rfl), rfl, rfl⟩, ?wk⟩
   case lt => omega
   case wk => exact Wk.sub ⟨rfl, rfl, rfl, rfl, rfl, (by first | rfl | exact nm_int (by omega)), rfl, rfl, rfl, rfl, rfl, (by first | rfl | exact nm_int (by omega)), trivial⟩ ⟨(by first | rfl | exact row_ns (by simp)), trivial⟩
  ·refine awp_exit ?_
   refine hK9 _ (awp_region rfl (o_mv (.row 50) rfl (o_mv (Nv i) rfl (o_mv (.sl 1 (ns .u64 (Mw.digs n))) rfl ?_))))
   refine n_len (Mw.digs n) gn f0_ rfl ?_
   refine n_add i ((Mw.digs n).length) gn rfl rfl (by simp only [topOf]; omega) ?_
   refine o_mv (nm .u64 c) rfl ?_
   refine n_indexRow o2 (i + ((Mw.digs n).length)) gn f1_ rfl rfl rfl (by omega) ?_
   refine n_storeRow o2 (i + ((Mw.digs n).length)) c [(50, .row 73 1 (ns .u64 (o2.set (i + ((Mw.digs n).length)) c)))] gn f9_ rfl rfl rfl (by omega) rfl ?_
   refine aops_end (hK6 _ (awp_region rfl ?_))
   refine n_add i 1 gn rfl rfl (by simp only [topOf]; omega) ?_
   refine o_mv (Nv (i + 1)) rfl (aops_end ?_)
   refine ⟨_, _, ?lt, ⟨i + 1, o2.set (i + ((Mw.digs n).length)) c, (by omega), (by rw [List.length_set]; exact hl2), hd2.set hc2, (Mw.mul_row (by omega) (by have hkk : k = (Mw.digs n).length := (by omega); subst hkk; exact hv2)), rfl, rfl⟩, ?wk⟩
   case lt => omega
   case wk => exact Wk.sub ⟨rfl, rfl, rfl, rfl, rfl, (by first | rfl | exact nm_int (by omega)), trivial⟩ ⟨(by first | rfl | exact row_ns (by simp)), trivial⟩
 ·refine awp_exit ?_
  refine hK2 _ (awp_seq fun K19 hK19 => awp_region rfl (o_mv (.row 50) rfl ?_))
  refine o_callG [(50, 1, ns .u64 o)] [.sl 1 (ns .u64 o)] _ (.sl 1 (ns .u64 (Mw.digs (Mw.val o)))) [] gn f4_ rfl ⟨⟨_, rfl⟩, trivial⟩ rfl rfl (LeL.cons (AV.le_refl _) LeL.nil) (c_xTrim o (by assumption)) rfl ?_
  refine o_as (.sl 1 (ns .u64 (Mw.digs (Mw.val o)))) rfl (aops_end (hK19 _ ?_))
  refine awp_ret ?_
  refine post_ret ⟨[.sl 1 (ns .u64 (Mw.digs (Mw.val o)))], ⟨AV.le_refl _, trivial⟩, rfl, ?_⟩
  have hil : i = (Mw.digs m).length := by omega
  subst hil
  exact ns_congr (by rw [Mw.mul_done hl hv])

theorem c_xBits (m : Nat) (hm : (Mw.digs m).length ≤ 1000000) : ECalls cx 55 [.sl 1 (ns .u64 (Mw.digs m))] (Nv (Mw.bits m)) := by
 refine ecalls_of_awp Try.func55 (c := _) rfl (Nat.le_of_ble_eq_true rfl) ?_
 show awp cx 18 _ (postF cx Try.f55 _) ⟨[(0, .sl 1 (ns .u64 (Mw.digs m)))], []⟩
 refine awp_seq fun K0 hK0 => awp_region rfl (o_as (Nv 0) rfl (aops_end (hK0 _ (awp_seq fun K1 hK1 => awp_seq fun K2 hK2 => awp_region rfl (o_mv (.sl 1 (ns .u64 (Mw.digs m))) rfl ?_)))))
 refine n_len (Mw.digs m) gn f0_ rfl ?_
 refine n_eql ((Mw.digs m).length) 0 gn rfl rfl ?_
 refine aops_end (hK2 _ ?_)
 refine awp_condQ (q := ((Mw.digs m).length) = 0) rfl (fun h1 => ?_) (fun h1 => ?_)
 ·refine awp_seq fun K3 hK3 => awp_region rfl (o_as (Nv 0) rfl (aops_end (hK3 _ ?_)))
  refine awp_ret ?_
  refine post_ret ⟨[Nv 0], ⟨AV.le_refl _, trivial⟩, rfl, ?_⟩
  exact congrArg (nm _) (by rw [Mw.digs_len_zero.1 h1]; rfl)
 ·have hT := Mw.Dig.getD (Mw.digs_dig m) ((Mw.digs m).length - 1)
  have hb6 : Mw.bits ((Mw.digs m).getD ((Mw.digs m).length - 1) 0) ≤ 64 := Mw.bits_le.2 hT
  refine awp_skip (hK1 _ (awp_seq fun K4 hK4 => awp_region rfl (o_mv (.sl 1 (ns .u64 (Mw.digs m))) rfl ?_)))
  refine n_len (Mw.digs m) gn f0_ rfl ?_
  refine n_sub ((Mw.digs m).length) 1 gn rfl rfl (by omega) (by simp only [topOf]; omega) ?_
  refine n_mul 64 (((Mw.digs m).length) - 1) gn rfl rfl (by simp only [topOf]; omega) ?_
  refine o_mv (.sl 1 (ns .u64 (Mw.digs m))) rfl (o_mv (.sl 1 (ns .u64 (Mw.digs m))) rfl ?_)
  refine n_len (Mw.digs m) gn f0_ rfl ?_
  refine n_sub ((Mw.digs m).length) 1 gn rfl rfl (by omega) (by simp only [topOf]; omega) ?_
  refine n_index (Mw.digs m) (((Mw.digs m).length) - 1) gn f1_ rfl rfl (by omega) ?_
  refine n_loadI (Mw.digs m) (((Mw.digs m).length) - 1) gn f2_ rfl (by omega) ?_
  refine o_ct (c_len64 ((Mw.digs m).getD (((Mw.digs m).length) - 1) 0) (by omega)) gn f11_ rfl ?_
  refine n_as (v' := (Nv (Mw.bits ((Mw.digs m).getD ((Mw.digs m).length - 1) 0)))) (by exact congrArg (nm _) (Mw.bitLen_is hT)) ?_
  refine n_add (64 * (((Mw.digs m).length) - 1)) (Mw.bits ((Mw.digs m).getD ((Mw.digs m).length - 1) 0)) gn rfl rfl (by simp only [topOf]; omega) ?_
  refine o_as (Nv ((64 * (((Mw.digs m).length) - 1)) + (Mw.bits ((Mw.digs m).getD ((Mw.digs m).length - 1) 0)))) rfl (aops_end (hK4 _ ?_))
  refine awp_ret ?_
  refine post_ret ⟨[Nv ((64 * (((Mw.digs m).length) - 1)) + (Mw.bits ((Mw.digs m).getD ((Mw.digs m).length - 1) 0)))], ⟨AV.le_refl _, trivial⟩, rfl, ?_⟩
  exact congrArg (nm _) (Mw.bits_top (by omega)).symm

end Go.Proofs.Ytaeknciienkijaa

namespace Go.Proofs.Ytaeknciienkijaa
open Go Go.Ab Go.Mth
theorem f12_ : (Try.f71.name == "runtime.NumGoroutine") = false := by kernel_rfl
theorem f13_ : Extern.findNext Try.f71 = none := by kernel_rfl
theorem f14_ : Extern.find Try.f71 = some subEntry := by kernel_rfl
theorem c_xMinus (m n : Nat) (hnm : n ≤ m) (hm : (Mw.digs m).length ≤ 1000000) (hn : (Mw.digs n).length ≤ 1000000) : ECalls cx 70 [.sl 1 (ns .u64 (Mw.digs m)), .sl 1 (ns .u64 (Mw.digs n))] (.sl 1 (ns .u64 (Mw.digs (m - n)))) := by
 refine ecalls_of_awp Try.func70 (c := _) rfl (Nat.le_of_ble_eq_true rfl) ?_
 show awp cx 34 _ (postF cx Try.f70 _) ⟨[(0, .sl 1 (ns .u64 (Mw.digs m))), (1, .sl 1 (ns .u64 (Mw.digs n)))], []⟩
 refine awp_seq fun K0 hK0 => awp_region rfl (o_as Zv rfl (aops_end (hK0 _ (awp_seq fun K1 hK1 => awp_region rfl (o_mv (.sl 1 (ns .u64 (Mw.digs m))) rfl ?_)))))
 refine n_len (Mw.digs m) gn f0_ rfl ?_
 refine n_make 2 ((Mw.digs m).length) gn f1_ f3_ rfl rfl (by omega) rfl rfl ?_
 refine o_as (.row 2) rfl (aops_end (hK1 _ (awp_seq fun K2 hK2 => awp_region rfl (o_as (nm .u64 0) rfl (aops_end (hK2 _ (awp_seq fun K3 hK3 => awp_seq fun K4 hK4 => awp_region rfl (o_mv (.row 2) rfl ?_))))))))
 refine n_lenRow (List.replicate ((Mw.digs m).length) 0) gn f0_ rfl rfl ?_
 refine n_as (v' := (Nv ((Mw.digs m).length))) (congrArg (nm _) (by exact List.length_replicate)) ?_
 refine o_mv (Nv 0) rfl (aops_end (hK4 _ ?_))
 refine awp_block ?_
 refine awp_loopR (fun κ σ => ∃ (i : Nat), ∃ (o : List Nat), ∃ (c : Nat), (o.length = (Mw.digs m).length) ∧ (i ≤ ((Mw.digs m).length)) ∧ (Mw.Dig o) ∧ (c ≤ 1) ∧ (Mw.val (o.take i) + Mw.val ((Mw.digs n).take i) = Mw.val ((Mw.digs m).take i) + 18446744073709551616 ^ i * c) ∧ (((Mw.digs m).length) - i) = κ ∧ σ = ⟨[(0, .sl 1 (ns .u64 (Mw.digs m))), (1, .sl 1 (ns .u64 (Mw.digs n))), (5, .row 50), (6, nm .u64 c), (12, Nv ((Mw.digs m).length)), (13, Nv i)], [(50, .row 73 1 (ns .u64 o))]⟩) ⟨_, _, ⟨0, List.replicate ((Mw.digs m).length) 0, 0, List.length_replicate, Nat.zero_le _, Mw.Dig.repl _, (by omega), (by simp [Mw.val]), rfl, rfl⟩, ?wk0⟩ ?rd0
 case wk0 =>
  exact Wk.trans (Wk.sub (σ' := ⟨[(0, .sl 1 (ns .u64 (Mw.digs m))), (1, .sl 1 (ns .u64 (Mw.digs n))), (5, .row 2), (6, nm .u64 0), (12, Nv ((Mw.digs m).length)), (13, Nv 0)], [(2, .row 73 1 (ns .u64 (List.replicate ((Mw.digs m).length) 0)))]⟩) ⟨rfl, rfl, rfl, rfl, rfl, rfl, trivial⟩ ⟨rfl, trivial⟩) (Wk.trans (Wk.ren (id := 2) (id' := 50) rfl) (Wk.sub ⟨rfl, rfl, (by first | rfl | simp), (by first | rfl | exact nm_int (by omega)), rfl, (by first | rfl | exact nm_int (by omega)), trivial⟩ ⟨(by first | rfl | exact row_ns (by simp)), trivial⟩))
 rintro κ _ ⟨i, o, c, hl, hi, hd, hc, hv, rfl, rfl⟩
 have hA := Mw.Dig.getD (Mw.digs_dig m) i
 have hB := Mw.Dig.getD (Mw.digs_dig n) i
 refine awp_seq fun K5 hK5 => awp_region rfl ?_
 refine n_lss i ((Mw.digs m).length) gn rfl rfl ?_
 refine aops_end (hK5 _ (awp_seq fun K6 hK6 => ?_))
 refine awp_condQ (q := i < ((Mw.digs m).length)) rfl (fun h1 => ?_) (fun h1 => ?_)
 ·refine awp_skip (hK6 _ (awp_seq fun K7 hK7 => ?_))
  refine awp_block ?_
  refine awp_seq fun K8 hK8 => awp_region rfl (o_mv (Nv i) rfl (o_as (Nv i) rfl (aops_end (hK8 _ (awp_regionD rfl (o_mv (.row 50) rfl (o_mv (Nv i) rfl (o_mv (.sl 1 (ns .u64 (Mw.digs m))) rfl (o_mv (Nv i) rfl ?_)))))))))
  refine n_index (Mw.digs m) i gn f1_ rfl rfl (by omega) ?_
  refine n_loadI (Mw.digs m) i gn f2_ rfl (by omega) ?_
  refine o_mv (.sl 1 (ns .u64 (Mw.digs n))) rfl (o_mv (Nv i) rfl ?_)
  refine o_ct (c_xAt (Mw.digs n) i) gn f5_ rfl ?_
  refine o_mv (nm .u64 c) rfl ?_
  refine o_sub64 ((Mw.digs m).getD i 0) ((Mw.digs n).getD i 0) c Try.func71 f12_ rfl f13_ f14_ (by omega) gn rfl rfl rfl ?_
  refine o_mv (W64 ((((Mw.digs m).getD i 0) + 18446744073709551616 - ((Mw.digs n).getD i 0) - c) % 18446744073709551616) (if ((Mw.digs m).getD i 0) < ((Mw.digs n).getD i 0) + c then 1 else 0)) rfl ?_
  refine o_ext0 ((((Mw.digs m).getD i 0) + 18446744073709551616 - ((Mw.digs n).getD i 0) - c) % 18446744073709551616) (if ((Mw.digs m).getD i 0) < ((Mw.digs n).getD i 0) + c then 1 else 0) gn rfl ?_
  refine o_ext1 ((((Mw.digs m).getD i 0) + 18446744073709551616 - ((Mw.digs n).getD i 0) - c) % 18446744073709551616) (if ((Mw.digs m).getD i 0) < ((Mw.digs n).getD i 0) + c then 1 else 0) gn rfl ?_
  refine n_indexRow o i gn f1_ rfl rfl rfl (by omega) ?_
  refine n_storeRow o i ((((Mw.digs m).getD i 0) + 18446744073709551616 - ((Mw.digs n).getD i 0) - c) % 18446744073709551616) [(50, .row 73 1 (ns .u64 (o.set i ((((Mw.digs m).getD i 0) + 18446744073709551616 - ((Mw.digs n).getD i 0) - c) % 18446744073709551616))))] gn f9_ rfl rfl rfl (by omega) rfl ?_
  refine o_as (nm .u64 (if ((Mw.digs m).getD i 0) < ((Mw.digs n).getD i 0) + c then 1 else 0)) rfl ?_
  refine aops_end ⟨by kernel_rfl, ?_⟩
  refine hK7 _ (awp_region rfl ?_)
  refine n_add i 1 gn rfl rfl (by simp only [topOf]; omega) ?_
  refine o_mv (Nv (i + 1)) rfl (aops_end ?_)
  refine ⟨_, _, ?lt, ⟨i + 1, o.set i ((((Mw.digs m).getD i 0) + 18446744073709551616 - ((Mw.digs n).getD i 0) - c) % 18446744073709551616), if ((Mw.digs m).getD i 0) < ((Mw.digs n).getD i 0) + c then 1 else 0, (by rw [List.length_set]; exact hl), (by omega), (hd.set (Nat.mod_lt _ (by decide))), (by split <;> omega), (Mw.sub_set (by omega) hv (by split <;> omega)), rfl, rfl⟩, ?wk⟩
  case lt => omega
  case wk => exact Wk.sub ⟨rfl, rfl, rfl, (by first | rfl | exact nm_int (by omega)), rfl, (by first | rfl | exact nm_int (by omega)), trivial⟩ ⟨(by first | rfl | exact row_ns (by simp)), trivial⟩
 ·refine awp_exit ?_
  refine hK3 _ (awp_seq fun K9 hK9 => awp_region rfl (o_mv (.row 50) rfl ?_))
  refine o_callG [(50, 1, ns .u64 o)] [.sl 1 (ns .u64 o)] _ (.sl 1 (ns .u64 (Mw.digs (Mw.val o)))) [] gn f4_ rfl ⟨⟨_, rfl⟩, trivial⟩ rfl rfl (LeL.cons (AV.le_refl _) LeL.nil) (c_xTrim o (by assumption)) rfl ?_
  refine o_as (.sl 1 (ns .u64 (Mw.digs (Mw.val o)))) rfl (aops_end (hK9 _ ?_))
  refine awp_ret ?_
  refine post_ret ⟨[.sl 1 (ns .u64 (Mw.digs (Mw.val o)))], ⟨AV.le_refl _, trivial⟩, rfl, ?_⟩
  have hil : i = o.length := by omega
  subst hil
  exact ns_congr (by rw [Mw.sub_done hd hl hnm hv])

theorem c_xUp (m k : Nat) (hm : (Mw.digs m).length ≤ 1000000) (hk : k ≤ 1000000) : ECalls cx 36 [.sl 1 (ns .u64 (Mw.digs m)), Nv k] (.sl 1 (ns .u64 (Mw.digs (m * 2 ^ k)))) := by
 refine ecalls_of_awp Try.func36 (c := _) rfl (Nat.le_of_ble_eq_true rfl) ?_
 show awp cx 51 _ (postF cx Try.f36 _) ⟨[(0, .sl 1 (ns .u64 (Mw.digs m))), (1, Nv k)], []⟩
 refine awp_seq fun K0 hK0 => awp_region rfl (o_as Zv rfl (aops_end (hK0 _ (awp_seq fun K1 hK1 => awp_region rfl (o_mv (.sl 1 (ns .u64 (Mw.digs m))) rfl ?_)))))
 refine n_len (Mw.digs m) gn f0_ rfl ?_
 refine o_mv (Nv k) rfl ?_
 refine n_quo k 64 gn rfl rfl (by omega) (by simp only [topOf]; omega) ?_
 refine n_add ((Mw.digs m).length) (k / 64) gn rfl rfl (by simp only [topOf]; omega) ?_
 refine n_add (((Mw.digs m).length) + (k / 64)) 1 gn rfl rfl (by simp only [topOf]; omega) ?_
 refine n_make 2 ((((Mw.digs m).length) + (k / 64)) + 1) gn f1_ f3_ rfl rfl (by omega) rfl rfl ?_
 refine o_as (.row 2) rfl (aops_end (hK1 _ (awp_seq fun K2 hK2 => awp_seq fun K3 hK3 => awp_region rfl (o_mv (.sl 1 (ns .u64 (Mw.digs m))) rfl ?_))))
 refine n_len (Mw.digs m) gn f0_ rfl ?_
 refine o_mv (Nv 0) rfl (aops_end (hK3 _ ?_))
 refine awp_block ?_
 refine awp_loopR (fun κ σ => ∃ (i : Nat), ∃ (o : List Nat), (o.length = ((Mw.digs m).length) + k / 64 + 1) ∧ (i ≤ ((Mw.digs m).length)) ∧ (Mw.Dig o) ∧ (o.getD (i + k / 64) 0 < 2 ^ (k % 64)) ∧ (Mw.val (o.take (i + k / 64 + 1)) = Mw.val ((Mw.digs m).take i) * 2 ^ k) ∧ (((Mw.digs m).length) - i) = κ ∧ σ = ⟨[(0, .sl 1 (ns .u64 (Mw.digs m))), (1, Nv k), (5, .row 50), (15, .sl 1 (ns .u64 (Mw.digs m))), (16, Nv ((Mw.digs m).length)), (17, Nv i)], [(50, .row 73 1 (ns .u64 o))]⟩) ⟨_, _, ⟨0, List.replicate (((Mw.digs m).length) + k / 64 + 1) 0, List.length_replicate, Nat.zero_le _, Mw.Dig.repl _, Mw.repl_lt _ _ _, (by rw [List.take_replicate, Mw.val_repl]; simp [Mw.val]), rfl, rfl⟩, ?wk0⟩ ?rd0
 case wk0 =>
  exact Wk.trans (Wk.sub (σ' := ⟨[(0, .sl 1 (ns .u64 (Mw.digs m))), (1, Nv k), (5, .row 2), (15, .sl 1 (ns .u64 (Mw.digs m))), (16, Nv ((Mw.digs m).length)), (17, Nv 0)], [(2, .row 73 1 (ns .u64 (List.replicate ((((Mw.digs m).length) + (k / 64)) + 1) 0)))]⟩) ⟨rfl, rfl, rfl, rfl, rfl, rfl, trivial⟩ ⟨rfl, trivial⟩) (Wk.trans (Wk.ren (id := 2) (id' := 50) rfl) (Wk.sub ⟨rfl, rfl, (by first | rfl | simp), rfl, (by first | rfl | exact nm_int (by omega)), (by first | rfl | exact nm_int (by omega)), trivial⟩ ⟨(by first | rfl | exact row_ns (by simp)), trivial⟩))
 rintro κ _ ⟨i, o, hl, hi, hd, ho2, hv, rfl, rfl⟩
 have hA := Mw.Dig.getD (Mw.digs_dig m) i
 have hO := Mw.Dig.getD hd (i + k / 64)
 have hp6 : 2 ^ (k % 64) ≤ 9223372036854775808 := Nat.pow_le_pow_right (show 0 < 2 by decide) (show k % 64 ≤ 63 by omega)
 have hm6 := Nat.mod_lt (((Mw.digs m).getD i 0) * 2 ^ (k % 64)) (show 0 < 18446744073709551616 by decide)
 have hlt := Mw.up_lt (x := ((Mw.digs m).getD i 0)) (s := k % 64) hA
 have hsum := Mw.up_sum (x := ((Mw.digs m).getD i 0)) ho2 (show k % 64 ≤ 64 by omega)
 refine awp_seq fun K4 hK4 => awp_region rfl ?_
 refine n_lss i ((Mw.digs m).length) gn rfl rfl ?_
 refine aops_end (hK4 _ (awp_seq fun K5 hK5 => ?_))
 refine awp_condQ (q := i < ((Mw.digs m).length)) rfl (fun h1 => ?_) (fun h1 => ?_)
 ·refine awp_skip (hK5 _ (awp_seq fun K6 hK6 => ?_))
  refine awp_block ?_
  refine awp_seq fun K7 hK7 => awp_region rfl (o_mv (Nv i) rfl ?_)
  refine n_index (Mw.digs m) i gn f1_ rfl rfl (by omega) ?_
  refine n_loadI (Mw.digs m) i gn f2_ rfl (by omega) ?_
  refine o_as (Nv i) rfl (o_as (nm .u64 ((Mw.digs m).getD i 0)) rfl (aops_end (hK7 _ (awp_seq fun K8 hK8 => awp_regionD rfl (o_mv (.row 50) rfl (o_mv (Nv i) rfl (o_mv (Nv k) rfl ?_)))))))
  refine n_quo k 64 gn rfl rfl (by omega) (by simp only [topOf]; omega) ?_
  refine n_add i (k / 64) gn rfl rfl (by simp only [topOf]; omega) ?_
  refine n_indexRow o (i + (k / 64)) gn f1_ rfl rfl rfl (by omega) ?_
  refine n_loadRow o (i + (k / 64)) gn f2_ rfl rfl (by omega) ?_
  refine o_mv (nm .u64 ((Mw.digs m).getD i 0)) rfl (o_mv (Nv k) rfl ?_)
  refine n_rem k 64 gn rfl rfl (by omega) ?_
  refine n_shl ((Mw.digs m).getD i 0) (k % 64) gn rfl rfl (by omega) ?_
  refine n_or (o.getD (i + (k / 64)) 0) (((Mw.digs m).getD i 0) * 2 ^ (k % 64) % 18446744073709551616) gn rfl rfl (by omega) (by omega) ?_
  refine n_as (v' := (nm .u64 (o.getD (i + k / 64) 0 + ((Mw.digs m).getD i 0) * 2 ^ (k % 64) % 18446744073709551616))) (by exact congrArg (nm _) (Mw.or_add ho2 (by omega))) ?_
  refine n_indexRow o (i + (k / 64)) gn f1_ rfl rfl rfl (by omega) ?_
  refine n_storeRow o (i + (k / 64)) (o.getD (i + k / 64) 0 + ((Mw.digs m).getD i 0) * 2 ^ (k % 64) % 18446744073709551616) [(50, .row 73 1 (ns .u64 (o.set (i + (k / 64)) (o.getD (i + k / 64) 0 + ((Mw.digs m).getD i 0) * 2 ^ (k % 64) % 18446744073709551616))))] gn f9_ rfl rfl rfl (by omega) rfl ?_
  refine aops_end ⟨by kernel_rfl, ?_⟩
  refine hK8 _ (awp_region rfl (o_mv (.row 50) rfl (o_mv (Nv i) rfl (o_mv (Nv k) rfl ?_))))
  refine n_quo k 64 gn rfl rfl (by omega) (by simp only [topOf]; omega) ?_
  refine n_add i (k / 64) gn rfl rfl (by simp only [topOf]; omega) ?_
  refine n_add (i + (k / 64)) 1 gn rfl rfl (by simp only [topOf]; omega) ?_
  refine o_mv (nm .u64 ((Mw.digs m).getD i 0)) rfl (o_mv (Nv k) rfl ?_)
  refine n_rem k 64 gn rfl rfl (by omega) ?_
  refine n_sub 63 (k % 64) gn rfl rfl (by omega) (by simp only [topOf]; omega) ?_
  refine n_shr ((Mw.digs m).getD i 0) (63 - (k % 64)) gn rfl rfl (by omega) ?_
  refine n_shr1 (((Mw.digs m).getD i 0) / 2 ^ (63 - (k % 64))) gn rfl rfl ?_
  refine n_as (v' := (nm .u64 (((Mw.digs m).getD i 0) * 2 ^ (k % 64) / 18446744073709551616))) (by exact congrArg (nm _) (Mw.up_hi _ _ (by omega))) ?_
  refine n_indexRow (o.set (i + (k / 64)) (o.getD (i + k / 64) 0 + ((Mw.digs m).getD i 0) * 2 ^ (k % 64) % 18446744073709551616)) ((i + (k / 64)) + 1) gn f1_ rfl rfl rfl (by rw [List.length_set]; omega) ?_
  refine n_storeRow (o.set (i + (k / 64)) (o.getD (i + k / 64) 0 + ((Mw.digs m).getD i 0) * 2 ^ (k % 64) % 18446744073709551616)) ((i + (k / 64)) + 1) (((Mw.digs m).getD i 0) * 2 ^ (k % 64) / 18446744073709551616) [(50, .row 73 1 (ns .u64 ((o.set (i + (k / 64)) (o.getD (i + k / 64) 0 + ((Mw.digs m).getD i 0) * 2 ^ (k % 64) % 18446744073709551616)).set ((i + (k / 64)) + 1) (((Mw.digs m).getD i 0) * 2 ^ (k % 64) / 18446744073709551616))))] gn f9_ rfl rfl rfl (by rw [List.length_set]; omega) rfl ?_
  refine aops_end (hK6 _ (awp_region rfl ?_))
  refine n_add i 1 gn rfl rfl (by simp only [topOf]; omega) ?_
  refine o_mv (Nv (i + 1)) rfl (aops_end ?_)
  refine ⟨_, _, ?lt, ⟨i + 1, (o.set (i + (k / 64)) (o.getD (i + k / 64) 0 + ((Mw.digs m).getD i 0) * 2 ^ (k % 64) % 18446744073709551616)).set ((i + (k / 64)) + 1) (((Mw.digs m).getD i 0) * 2 ^ (k % 64) / 18446744073709551616), (by rw [List.length_set, List.length_set]; exact hl), (by omega), ((hd.set hsum).set (by omega)), (by rw [show i + 1 + k / 64 = i + k / 64 + 1 by omega, Mw.getD_set (by rw [List.length_set]; omega)]; exact hlt), (Mw.up_set (by omega) (by omega) rfl (by omega) hv), rfl, rfl⟩, ?wk⟩
  case lt => omega
  case wk => exact Wk.sub ⟨rfl, rfl, rfl, rfl, rfl, (by first | rfl | exact nm_int (by omega)), trivial⟩ ⟨(by first | rfl | exact row_ns (by simp)), trivial⟩
 ·refine awp_exit ?_
  refine hK2 _ (awp_seq fun K9 hK9 => awp_region rfl (o_mv (.row 50) rfl ?_))
  refine o_callG [(50, 1, ns .u64 o)] [.sl 1 (ns .u64 o)] _ (.sl 1 (ns .u64 (Mw.digs (Mw.val o)))) [] gn f4_ rfl ⟨⟨_, rfl⟩, trivial⟩ rfl rfl (LeL.cons (AV.le_refl _) LeL.nil) (c_xTrim o (by assumption)) rfl ?_
  refine o_as (.sl 1 (ns .u64 (Mw.digs (Mw.val o)))) rfl (aops_end (hK9 _ ?_))
  refine awp_ret ?_
  refine post_ret ⟨[.sl 1 (ns .u64 (Mw.digs (Mw.val o)))], ⟨AV.le_refl _, trivial⟩, rfl, ?_⟩
  have hil : i = (Mw.digs m).length := by omega
  subst hil
  rw [← hl, List.take_length, List.take_length, Mw.val_digs] at hv
  exact ns_congr (by rw [hv])

end Go.Proofs.Ytaeknciienkijaa

namespace Go.Proofs.Ytaeknciienkijaa
open Go Go.Ab Go.Mth
theorem f15_ : callable cx.P 35 = true := by kernel_rfl
theorem f16_ : callable cx.P 49 = true := by kernel_rfl
theorem c_xPower (a k : Nat) (ha : 1 ≤ a) (hk : k ≤ 1000000) (hl : (Mw.digs (a ^ k)).length ≤ 1000000) : ECalls cx 54 [.sl 1 (ns .u64 (Mw.digs a)), Nv k] (.sl 1 (ns .u64 (Mw.digs (a ^ k)))) := by
 refine ecalls_of_awp Try.func54 (c := _) rfl (Nat.le_of_ble_eq_true rfl) ?_
 show awp cx 23 _ (postF cx Try.f54 _) ⟨[(0, .sl 1 (ns .u64 (Mw.digs a))), (1, Nv k)], []⟩
 refine awp_seq fun K0 hK0 => awp_region rfl (o_as Zv rfl (aops_end (hK0 _ (awp_seq fun K1 hK1 => awp_region rfl ?_))))
 refine o_ct (c_xOf 1 (by first | omega | assumption)) gn f15_ rfl ?_
 refine o_as (.sl 1 (ns .u64 (Mw.digs 1))) rfl (aops_end (hK1 _ (awp_seq fun K2 hK2 => ?_)))
 refine awp_block ?_
 refine awp_loopR (fun κ σ => ∃ (o : Nat), ∃ (b : Nat), ∃ (j : Nat), (o * b ^ j = a ^ k) ∧ (1 ≤ o) ∧ (1 ≤ b) ∧ (j ≤ 1000000) ∧ j = κ ∧ σ = ⟨[(0, .sl 1 (ns .u64 (Mw.digs b))), (1, Nv j), (5, .sl 1 (ns .u64 (Mw.digs o)))], []⟩) ⟨_, _, ⟨1, a, k, Nat.one_mul _, Nat.le_refl _, ha, hk, rfl, rfl⟩, ?wk0⟩ ?rd0
 case wk0 =>
  exact Wk.sub ⟨(by first | rfl | simp), (by first | rfl | exact nm_int (by omega)), (by first | rfl | simp), trivial⟩ trivial
 rintro κ _ ⟨o, b, j, hv, ho, hb, hj, rfl, rfl⟩
 obtain ⟨p1, p2, p3, p4⟩ := Mw.pw_le hv ho hb
 have q1 := Mw.digs_len_le p1
 refine awp_seq fun K3 hK3 => awp_seq fun K4 hK4 => awp_region rfl (o_mv (Nv j) rfl ?_)
 refine n_gtr j 0 gn rfl rfl ?_
 refine aops_end (hK4 _ ?_)
 refine awp_condQ (q := 0 < j) rfl (fun h1 => ?_) (fun h1 => ?_)
 ·have q2 := Mw.digs_len_le (p2 (by omega))
  have q4 := Mw.digs_len_le (p4 (by omega))
  refine awp_skip (hK3 _ (awp_seq fun K5 hK5 => ?_))
  refine awp_block ?_
  refine awp_seq fun K6 hK6 => awp_seq fun K7 hK7 => awp_region rfl (o_mv (Nv j) rfl ?_)
  refine n_rem j 2 gn rfl rfl (by omega) ?_
  refine n_eql (j % 2) 1 gn rfl rfl ?_
  refine aops_end (hK7 _ ?_)
  refine awp_condQ (q := (j % 2) = 1) rfl (fun h2 => ?_) (fun h2 => ?_)
  ·refine awp_region rfl (o_mv (.sl 1 (ns .u64 (Mw.digs o))) rfl (o_mv (.sl 1 (ns .u64 (Mw.digs b))) rfl ?_))
   refine o_ct (c_xTimes o b (by first | omega | assumption) (by first | omega | assumption)) gn f16_ rfl ?_
   refine o_as (.sl 1 (ns .u64 (Mw.digs (o * b)))) rfl (aops_end (hK6 _ (awp_seq fun K8 hK8 => awp_region rfl (o_mv (Nv j) rfl ?_))))
   refine n_gtr j 1 gn rfl rfl ?_
   refine aops_end (hK8 _ ?_)
   refine awp_condQ (q := 1 < j) rfl (fun h3 => ?_) (fun h3 => ?_)
   ·refine awp_region rfl (o_mv (.sl 1 (ns .u64 (Mw.digs b))) rfl (o_mv (.sl 1 (ns .u64 (Mw.digs b))) rfl ?_))
    refine o_ct (c_xTimes b b (by first | omega | assumption) (by first | omega | assumption)) gn f16_ rfl ?_
    refine o_as (.sl 1 (ns .u64 (Mw.digs (b * b)))) rfl (aops_end (hK5 _ (awp_region rfl (o_mv (Nv j) rfl ?_))))
    refine n_quo j 2 gn rfl rfl (by omega) (by simp only [topOf]; omega) ?_
    refine o_as (Nv (j / 2)) rfl (aops_end ?_)
    refine ⟨_, _, ?lt, ⟨o * b, b * b, j / 2, (by first | exact Mw.pw_o hv (by assumption) | exact Mw.pw_e hv (by assumption) | exact Mw.pw_l hv (by assumption) (by assumption) | exact absurd (show j % 2 = 1 by omega) (by assumption)), (by first | assumption | exact Nat.mul_pos ho hb), (by first | assumption | exact Nat.mul_pos hb hb), (by omega), rfl, rfl⟩, ?wk⟩
    case lt => omega
    case wk => exact Wk.sub ⟨(by first | rfl | simp), (by first | rfl | exact nm_int (by omega)), (by first | rfl | simp), trivial⟩ trivial
   ·refine awp_skip (hK5 _ (awp_region rfl (o_mv (Nv j) rfl ?_)))
    refine n_quo j 2 gn rfl rfl (by omega) (by simp only [topOf]; omega) ?_
    refine o_as (Nv (j / 2)) rfl (aops_end ?_)
    refine ⟨_, _, ?lt, ⟨o * b, b, j / 2, (by first | exact Mw.pw_o hv (by assumption) | exact Mw.pw_e hv (by assumption) | exact Mw.pw_l hv (by assumption) (by assumption) | exact absurd (show j % 2 = 1 by omega) (by assumption)), (by first | assumption | exact Nat.mul_pos ho hb), (by first | assumption | exact Nat.mul_pos hb hb), (by omega), rfl, rfl⟩, ?wk⟩
    case lt => omega
    case wk => exact Wk.sub ⟨rfl, (by first | rfl | exact nm_int (by omega)), (by first | rfl | simp), trivial⟩ trivial
  ·refine awp_skip (hK6 _ (awp_seq fun K9 hK9 => awp_region rfl (o_mv (Nv j) rfl ?_)))
   refine n_gtr j 1 gn rfl rfl ?_
   refine aops_end (hK9 _ ?_)
   refine awp_condQ (q := 1 < j) rfl (fun h4 => ?_) (fun h4 => ?_)
   ·refine awp_region rfl (o_mv (.sl 1 (ns .u64 (Mw.digs b))) rfl (o_mv (.sl 1 (ns .u64 (Mw.digs b))) rfl ?_))
    refine o_ct (c_xTimes b b (by first | omega | assumption) (by first | omega | assumption)) gn f16_ rfl ?_
    refine o_as (.sl 1 (ns .u64 (Mw.digs (b * b)))) rfl (aops_end (hK5 _ (awp_region rfl (o_mv (Nv j) rfl ?_))))
    refine n_quo j 2 gn rfl rfl (by omega) (by simp only [topOf]; omega) ?_
    refine o_as (Nv (j / 2)) rfl (aops_end ?_)
    refine ⟨_, _, ?lt, ⟨o, b * b, j / 2, (by first | exact Mw.pw_o hv (by assumption) | exact Mw.pw_e hv (by assumption) | exact Mw.pw_l hv (by assumption) (by assumption) | exact absurd (show j % 2 = 1 by omega) (by assumption)), (by first | assumption | exact Nat.mul_pos ho hb), (by first | assumption | exact Nat.mul_pos hb hb), (by omega), rfl, rfl⟩, ?wk⟩
    case lt => omega
    case wk => exact Wk.sub ⟨(by first | rfl | simp), (by first | rfl | exact nm_int (by omega)), rfl, trivial⟩ trivial
   ·refine awp_skip (hK5 _ (awp_region rfl (o_mv (Nv j) rfl ?_)))
    refine n_quo j 2 gn rfl rfl (by omega) (by simp only [topOf]; omega) ?_
    refine o_as (Nv (j / 2)) rfl (aops_end ?_)
    refine ⟨_, _, ?lt, ⟨o, b, j / 2, (by first | exact Mw.pw_o hv (by assumption) | exact Mw.pw_e hv (by assumption) | exact Mw.pw_l hv (by assumption) (by assumption) | exact absurd (show j % 2 = 1 by omega) (by assumption)), (by first | assumption | exact Nat.mul_pos ho hb), (by first | assumption | exact Nat.mul_pos hb hb), (by omega), rfl, rfl⟩, ?wk⟩
    case lt => omega
    case wk => exact Wk.sub ⟨rfl, (by first | rfl | exact nm_int (by omega)), rfl, trivial⟩ trivial
 ·refine awp_exit ?_
  refine hK2 _ (awp_seq fun K10 hK10 => awp_region rfl (o_mv (.sl 1 (ns .u64 (Mw.digs o))) rfl (o_as (.sl 1 (ns .u64 (Mw.digs o))) rfl (aops_end (hK10 _ ?_)))))
  refine awp_ret ?_
  refine post_ret ⟨[.sl 1 (ns .u64 (Mw.digs o))], ⟨AV.le_refl _, trivial⟩, rfl, ?_⟩
  have hj0 : j = 0 := by omega
  rw [hj0, Nat.pow_zero, Nat.mul_one] at hv
  exact ns_congr (by rw [hv])

end Go.Proofs.Ytaeknciienkijaa

namespace Go.Ab
open Go.RowKit
variable {C : Ctx} {ops : Array Oper} {s : List (Nat × AV)} {m : List (Nat × AO)} {K : List Eff → St → Prop} {os : List Oper} {d : Nat} {t : TypeId} {p : String} {af : Array Edge} {g : Option (Nat × Bool)}
theorem bp6n {q : Prop} [Decidable q] (h : ¬ q) : bp q = .lit (.bool false) := by unfold bp; rw [decide_eq_false h]
theorem bp6y {q : Prop} [Decidable q] (h : q) : bp q = .lit (.bool true) := by unfold bp; rw [decide_eq_true h]
theorem n_addW {xt yt : TypeId} {x y : Operand} (a b : Nat) (hg : Gd ops s g) (hx : ev s x = nm .u64 a) (hy : ev s y = nm .u64 b) (kk : aops C ops ⟨(d, nm .u64 ((a + b) % 18446744073709551616)) :: s, m⟩ os fun es σ' => K ({ val := nm .u64 ((a + b) % 18446744073709551616) } :: es) σ') :
  aops C ops ⟨s, m⟩ (⟨some d, .binOp .add xt x y yt, t, p, af, g⟩ :: os) K :=
 o_arith (((a + b) % 18446744073709551616 : Nat) : Int) (.inl ⟨rfl, by have e2 := wrap_u64 (a + b); rw [Int.natCast_add] at e2; exact e2.symm⟩) hg hx hy kk
theorem n_mulW {xt yt : TypeId} {x y : Operand} (a b : Nat) (hg : Gd ops s g) (hx : ev s x = nm .u64 a) (hy : ev s y = nm .u64 b) (kk : aops C ops ⟨(d, nm .u64 ((a * b) % 18446744073709551616)) :: s, m⟩ os fun es σ' => K ({ val := nm .u64 ((a * b) % 18446744073709551616) } :: es) σ') :
  aops C ops ⟨s, m⟩ (⟨some d, .binOp .mul xt x y yt, t, p, af, g⟩ :: os) K :=
 o_arith (((a * b) % 18446744073709551616 : Nat) : Int) (.inr (.inr ⟨rfl, by have e2 := wrap_u64 (a * b); rw [Int.natCast_mul] at e2; exact e2.symm⟩)) hg hx hy kk
theorem n_subW {xt yt : TypeId} {x y : Operand} (a b : Nat) (hb : b ≤ 18446744073709551616) (hg : Gd ops s g) (hx : ev s x = nm .u64 a) (hy : ev s y = nm .u64 b) (kk : aops C ops ⟨(d, nm .u64 ((a + 18446744073709551616 - b) % 18446744073709551616)) :: s, m⟩ os fun es σ' => K ({ val := nm .u64 ((a + 18446744073709551616 - b) % 18446744073709551616) } :: es) σ') :
  aops C ops ⟨s, m⟩ (⟨some d, .binOp .sub xt x y yt, t, p, af, g⟩ :: os) K :=
 o_arith (((a + 18446744073709551616 - b) % 18446744073709551616 : Nat) : Int) (.inr (.inl ⟨rfl, by simp [IntKind.wrap, IntKind.bits, IntKind.signed]; omega⟩)) hg hx hy kk
theorem n_and {xt yt : TypeId} {x y : Operand} (a b : Nat) (hg : Gd ops s g) (hx : ev s x = nm .u64 a) (hy : ev s y = nm .u64 b) (ha : a < 18446744073709551616) (hb : b < 18446744073709551616) (kk : aops C ops ⟨(d, nm .u64 (a &&& b)) :: s, m⟩ os fun es σ' => K ({ val := nm .u64 (a &&& b) } :: es) σ') :
  aops C ops ⟨s, m⟩ (⟨some d, .binOp .and xt x y yt, t, p, af, g⟩ :: os) K :=
 o_pure2 (a := .int .u64 (a : Int)) (b := .int .u64 b) (v := .int .u64 ((a &&& b : Nat) : Int)) rfl hg hx hy (fun ρ h1 h2 w => by
  have hl : a &&& b < 2 ^ 64 := Nat.and_lt_two_pow a hb
  have e : (BitVec.ofNat 64 a &&& BitVec.ofNat 64 b).toNat = a &&& b := by
   rw [BitVec.toNat_and, BitVec.toNat_ofNat, BitVec.toNat_ofNat, Nat.mod_eq_of_lt ha, Nat.mod_eq_of_lt hb]
  have e2 := wrap_u64 (a &&& b)
  rw [Nat.mod_eq_of_lt hl] at e2
  simp only [execOp, h1, h2, eqGuard_int, binOp, Op.intBits, IntKind.bits]
  simp [eqGuard_int]
  exact (congrArg (fun z : Nat => IntKind.u64.wrap (z : Int)) e).trans e2) kk
end Go.Ab

namespace Go.Proofs.Ytaeknciienkijaa
open Go Go.Ab Go.Mth
theorem f17_ : callable cx.P 67 = true := by kernel_rfl
theorem f18_ : tyInt cx.P 3 = some .i64 := by kernel_rfl
theorem f19_ : tyInt cx.P 93 = some .u64 := by kernel_rfl
theorem c_div10 (hi lo : Nat) (hh : hi < 10) (hl : lo < 18446744073709551616) : ECalls cx 58 [nm .u64 hi, nm .u64 lo, nm .u64 10] (.tup [nm .u64 ((hi * 18446744073709551616 + lo) / 10), nm .u64 ((hi * 18446744073709551616 + lo) % 10)]) := by
 refine ecalls_of_awp Try.func58 (c := _) rfl (Nat.le_of_ble_eq_true rfl) ?_
 show awp cx 135 _ (postF cx Try.f58 _) ⟨[(0, nm .u64 hi), (1, nm .u64 lo), (2, nm .u64 10)], []⟩
 refine awp_seq fun K0 hK0 => awp_region rfl (o_as (nm .u64 0) rfl (o_as (nm .u64 0) rfl (aops_end (hK0 _ (awp_seq fun K1 hK1 => awp_seq fun K2 hK2 => awp_region rfl (o_mv (nm .u64 10) rfl ?_))))))
 refine n_eql 10 0 gn rfl rfl ?_
 refine n_as (v' := Fv) (by exact bp6n (by decide)) ?_
 refine aops_end (hK2 _ ?_)
 refine awp_condB (b := false) rfl (fun hh => absurd (hh.symm.trans rfl) (by decide)) (fun _ => ?_)
 refine awp_skip (hK1 _ (awp_seq fun K3 hK3 => awp_seq fun K4 hK4 => awp_region rfl (o_mv (nm .u64 10) rfl (o_mv (nm .u64 hi) rfl ?_))))
 refine n_leq 10 hi gn rfl rfl ?_
 refine n_as (v' := Fv) (by exact bp6n (by omega)) ?_
 refine aops_end (hK4 _ ?_)
 refine awp_condB (b := false) rfl (fun hh => absurd (hh.symm.trans rfl) (by decide)) (fun _ => ?_)
 refine awp_skip (hK3 _ (awp_seq fun K5 hK5 => awp_seq fun K6 hK6 => awp_region rfl (o_mv (nm .u64 hi) rfl ?_)))
 refine n_eql hi 0 gn rfl rfl ?_
 refine aops_end (hK6 _ ?_)
 refine awp_condQ (q := hi = 0) rfl (fun h1 => ?_) (fun h1 => ?_)
 ·refine awp_seq fun K7 hK7 => awp_regionD rfl (o_mv (nm .u64 lo) rfl (o_mv (nm .u64 10) rfl ?_))
  refine n_quo lo 10 gn rfl rfl (by omega) (by simp only [topOf]; omega) ?_
  refine o_mv (nm .u64 lo) rfl (o_mv (nm .u64 10) rfl ?_)
  refine n_rem lo 10 gn rfl rfl (by omega) ?_
  refine o_as (nm .u64 (lo / 10)) rfl (o_as (nm .u64 (lo % 10)) rfl ?_)
  refine aops_end ⟨by kernel_rfl, ?_⟩
  refine hK7 _ ?_
  refine awp_ret ?_
  refine post_ret ⟨[nm .u64 (lo / 10), nm .u64 (lo % 10)], ⟨AV.le_refl _, AV.le_refl _, trivial⟩, rfl, ?_⟩
  first | rfl | exact tup_eq2 (congrArg (nm _) (by omega)) (congrArg (nm _) (by omega))
 ·refine awp_skip (hK5 _ (awp_seq fun K8 hK8 => awp_region rfl (o_mv (nm .u64 10) rfl ?_)))
  refine o_ct c_lz10 gn f17_ rfl ?_
  refine n_conv 60 gn rfl f18_ f19_ (by simp only [topOf]; omega) ?_
  refine o_as (nm .u64 60) rfl (aops_end (hK8 _ (awp_seq fun K9 hK9 => awp_region rfl (o_mv (nm .u64 10) rfl (o_mv (nm .u64 60) rfl ?_)))))
  refine n_shl 10 60 gn rfl rfl (by omega) ?_
  refine n_as (v' := (nm .u64 11529215046068469760)) (by rfl) ?_
  refine o_as (nm .u64 11529215046068469760) rfl (aops_end (hK9 _ (awp_seq fun K10 hK10 => awp_region rfl (o_mv (nm .u64 11529215046068469760) rfl ?_))))
  refine n_shr 11529215046068469760 32 gn rfl rfl (by omega) ?_
  refine n_as (v' := (nm .u64 2684354560)) (by rfl) ?_
  refine o_as (nm .u64 2684354560) rfl (aops_end (hK10 _ (awp_seq fun K11 hK11 => awp_region rfl (o_mv (nm .u64 11529215046068469760) rfl ?_))))
  refine n_and 11529215046068469760 4294967295 gn rfl rfl (by omega) (by omega) ?_
  refine n_as (v' := (nm .u64 0)) (by rfl) ?_
  refine o_as (nm .u64 0) rfl (aops_end (hK11 _ (awp_seq fun K12 hK12 => awp_region rfl (o_mv (nm .u64 hi) rfl (o_mv (nm .u64 60) rfl ?_)))))
  refine n_shl hi 60 gn rfl rfl (by omega) ?_
  refine n_as (v' := (nm .u64 (hi * 1152921504606846976))) (by exact congrArg (nm _) (by omega)) ?_
  refine o_mv (nm .u64 lo) rfl (o_mv (nm .u64 60) rfl ?_)
  refine n_sub 64 60 gn rfl rfl (by omega) (by simp only [topOf]; omega) ?_
  refine n_as (v' := (nm .u64 4)) (by rfl) ?_
  refine n_shr lo 4 gn rfl rfl (by omega) ?_
  refine n_as (v' := (nm .u64 (lo / 16))) (by rfl) ?_
  refine n_or (hi * 1152921504606846976) (lo / 16) gn rfl rfl (by omega) (by omega) ?_
  refine n_as (v' := (nm .u64 (hi * 1152921504606846976 + lo / 16))) (by exact congrArg (nm _) (by rw [Nat.or_comm, Nat.add_comm, show hi * 1152921504606846976 = hi <<< 60 by rw [Nat.shiftLeft_eq], Nat.or_comm, ← Nat.shiftLeft_add_eq_or_of_lt (by omega), Nat.add_comm])) ?_
  refine o_as (nm .u64 (hi * 1152921504606846976 + lo / 16)) rfl (aops_end (hK12 _ (awp_seq fun K13 hK13 => awp_region rfl (o_mv (nm .u64 lo) rfl (o_mv (nm .u64 60) rfl ?_)))))
  refine n_shl lo 60 gn rfl rfl (by omega) ?_
  refine n_as (v' := (nm .u64 (lo % 16 * 1152921504606846976))) (by exact congrArg (nm _) (by omega)) ?_
  refine o_as (nm .u64 (lo % 16 * 1152921504606846976)) rfl (aops_end (hK13 _ (awp_seq fun K14 hK14 => awp_region rfl (o_mv (nm .u64 (lo % 16 * 1152921504606846976)) rfl ?_))))
  refine n_shr (lo % 16 * 1152921504606846976) 32 gn rfl rfl (by omega) ?_
  refine n_as (v' := (nm .u64 (lo % 16 * 268435456))) (by exact congrArg (nm _) (by omega)) ?_
  refine o_as (nm .u64 (lo % 16 * 268435456)) rfl (aops_end (hK14 _ (awp_seq fun K15 hK15 => awp_region rfl (o_mv (nm .u64 (lo % 16 * 1152921504606846976)) rfl ?_))))
  refine n_and (lo % 16 * 1152921504606846976) 4294967295 gn rfl rfl (by omega) (by omega) ?_
  refine n_as (v' := (nm .u64 0)) (by exact congrArg (nm _) ((Nat.and_two_pow_sub_one_eq_mod _ 32).trans (by omega))) ?_
  refine o_as (nm .u64 0) rfl (aops_end (hK15 _ (awp_seq fun K16 hK16 => awp_region rfl (o_mv (nm .u64 (hi * 1152921504606846976 + lo / 16)) rfl (o_mv (nm .u64 2684354560) rfl ?_)))))
  refine n_quo (hi * 1152921504606846976 + lo / 16) 2684354560 gn rfl rfl (by omega) (by simp only [topOf]; omega) ?_
  refine n_as (v' := (nm .u64 ((hi * 1152921504606846976 + lo / 16) / 2684354560))) (by rfl) ?_
  refine o_as (nm .u64 ((hi * 1152921504606846976 + lo / 16) / 2684354560)) rfl (aops_end (hK16 _ (awp_seq fun K17 hK17 => awp_region rfl (o_mv (nm .u64 (hi * 1152921504606846976 + lo / 16)) rfl (o_mv (nm .u64 ((hi * 1152921504606846976 + lo / 16) / 2684354560)) rfl (o_mv (nm .u64 2684354560) rfl ?_))))))
  refine n_mulW ((hi * 1152921504606846976 + lo / 16) / 2684354560) 2684354560 gn rfl rfl ?_
  refine n_subW (hi * 1152921504606846976 + lo / 16) ((((hi * 1152921504606846976 + lo / 16) / 2684354560) * 2684354560) % 18446744073709551616) (by omega) gn rfl rfl ?_
  refine n_as (v' := (nm .u64 ((hi * 1152921504606846976 + lo / 16) % 2684354560))) (by exact congrArg (nm _) (by omega)) ?_
  refine o_as (nm .u64 ((hi * 1152921504606846976 + lo / 16) % 2684354560)) rfl (aops_end (hK17 _ (awp_seq fun K18 hK18 => ?_)))
  refine awp_block ?_
  refine awp_loopR (fun κ σ => 0 = κ ∧ σ = ⟨[(2, nm .u64 11529215046068469760), (8, nm .u64 60), (9, nm .u64 2684354560), (10, nm .u64 0), (11, nm .u64 (hi * 1152921504606846976 + lo / 16)), (13, nm .u64 (lo % 16 * 268435456)), (14, nm .u64 0), (15, nm .u64 ((hi * 1152921504606846976 + lo / 16) / 2684354560)), (16, nm .u64 ((hi * 1152921504606846976 + lo / 16) % 2684354560))], []⟩) ⟨_, _, ⟨rfl, rfl⟩, ?wk0⟩ ?rd0
  case wk0 =>
   exact Wk.sub ⟨rfl, rfl, rfl, rfl, rfl, rfl, rfl, rfl, rfl, trivial⟩ trivial
  rintro κ _ ⟨rfl, rfl⟩
  refine awp_seq fun K19 hK19 => awp_seq fun K20 hK20 => awp_region rfl (o_mv (nm .u64 ((hi * 1152921504606846976 + lo / 16) / 2684354560)) rfl ?_)
  refine n_geq ((hi * 1152921504606846976 + lo / 16) / 2684354560) 4294967296 gn rfl rfl ?_
  refine n_as (v' := Fv) (by exact bp6n (by omega)) ?_
  refine o_mv Fv rfl (o_move (nm .u64 ((hi * 1152921504606846976 + lo / 16) / 2684354560)) (Gd.yes rfl rfl rfl) rfl (o_move (nm .u64 0) (Gd.yes rfl rfl rfl) rfl ?_))
  refine n_mulW ((hi * 1152921504606846976 + lo / 16) / 2684354560) 0 (Gd.yes rfl rfl rfl) rfl rfl ?_
  refine n_as (v' := (nm .u64 0)) (by exact congrArg (nm _) (by omega)) ?_
  refine o_move (nm .u64 ((hi * 1152921504606846976 + lo / 16) % 2684354560)) (Gd.yes rfl rfl rfl) rfl ?_
  refine n_mulW 4294967296 ((hi * 1152921504606846976 + lo / 16) % 2684354560) (Gd.yes rfl rfl rfl) rfl rfl ?_
  refine o_move (nm .u64 (lo % 16 * 268435456)) (Gd.yes rfl rfl rfl) rfl ?_
  refine n_addW ((4294967296 * ((hi * 1152921504606846976 + lo / 16) % 2684354560)) % 18446744073709551616) (lo % 16 * 268435456) (Gd.yes rfl rfl rfl) rfl rfl ?_
  refine n_gtr 0 ((((4294967296 * ((hi * 1152921504606846976 + lo / 16) % 2684354560)) % 18446744073709551616) + (lo % 16 * 268435456)) % 18446744073709551616) (Gd.yes rfl rfl rfl) rfl rfl ?_
  refine n_as (v' := Fv) (by exact bp6n (by omega)) ?_
  refine o_pickF Fv gn rfl rfl rfl ?_
  refine aops_end (hK20 _ ?_)
  refine awp_condB (b := false) rfl (fun hh => absurd (hh.symm.trans rfl) (by decide)) (fun _ => ?_)
  refine awp_exit ?_
  refine hK18 _ (awp_seq fun K21 hK21 => awp_region rfl (o_mv (nm .u64 (hi * 1152921504606846976 + lo / 16)) rfl ?_))
  refine n_mulW (hi * 1152921504606846976 + lo / 16) 4294967296 gn rfl rfl ?_
  refine o_mv (nm .u64 (lo % 16 * 268435456)) rfl ?_
  refine n_addW (((hi * 1152921504606846976 + lo / 16) * 4294967296) % 18446744073709551616) (lo % 16 * 268435456) gn rfl rfl ?_
  refine o_mv (nm .u64 ((hi * 1152921504606846976 + lo / 16) / 2684354560)) rfl (o_mv (nm .u64 11529215046068469760) rfl ?_)
  refine n_mulW ((hi * 1152921504606846976 + lo / 16) / 2684354560) 11529215046068469760 gn rfl rfl ?_
  refine n_subW (((((hi * 1152921504606846976 + lo / 16) * 4294967296) % 18446744073709551616) + (lo % 16 * 268435456)) % 18446744073709551616) ((((hi * 1152921504606846976 + lo / 16) / 2684354560) * 11529215046068469760) % 18446744073709551616) (by omega) gn rfl rfl ?_
  refine n_as (v' := (nm .u64 (((hi * 1152921504606846976 + lo / 16) % 2684354560) * 4294967296 + (lo % 16 * 268435456)))) (by exact congrArg (nm _) (by omega)) ?_
  refine o_as (nm .u64 (((hi * 1152921504606846976 + lo / 16) % 2684354560) * 4294967296 + (lo % 16 * 268435456))) rfl (aops_end (hK21 _ (awp_seq fun K22 hK22 => awp_region rfl (o_mv (nm .u64 (((hi * 1152921504606846976 + lo / 16) % 2684354560) * 4294967296 + (lo % 16 * 268435456))) rfl (o_mv (nm .u64 2684354560) rfl ?_)))))
  refine n_quo (((hi * 1152921504606846976 + lo / 16) % 2684354560) * 4294967296 + (lo % 16 * 268435456)) 2684354560 gn rfl rfl (by omega) (by simp only [topOf]; omega) ?_
  refine n_as (v' := (nm .u64 ((((hi * 1152921504606846976 + lo / 16) % 2684354560) * 4294967296 + (lo % 16 * 268435456)) / 2684354560))) (by rfl) ?_
  refine o_as (nm .u64 ((((hi * 1152921504606846976 + lo / 16) % 2684354560) * 4294967296 + (lo % 16 * 268435456)) / 2684354560)) rfl (aops_end (hK22 _ (awp_seq fun K23 hK23 => awp_region rfl (o_mv (nm .u64 (((hi * 1152921504606846976 + lo / 16) % 2684354560) * 4294967296 + (lo % 16 * 268435456))) rfl (o_mv (nm .u64 ((((hi * 1152921504606846976 + lo / 16) % 2684354560) * 4294967296 + (lo % 16 * 268435456)) / 2684354560)) rfl (o_mv (nm .u64 2684354560) rfl ?_))))))
  refine n_mulW ((((hi * 1152921504606846976 + lo / 16) % 2684354560) * 4294967296 + (lo % 16 * 268435456)) / 2684354560) 2684354560 gn rfl rfl ?_
  refine n_subW (((hi * 1152921504606846976 + lo / 16) % 2684354560) * 4294967296 + (lo % 16 * 268435456)) ((((((hi * 1152921504606846976 + lo / 16) % 2684354560) * 4294967296 + (lo % 16 * 268435456)) / 2684354560) * 2684354560) % 18446744073709551616) (by omega) gn rfl rfl ?_
  refine n_as (v' := (nm .u64 ((((hi * 1152921504606846976 + lo / 16) % 2684354560) * 4294967296 + (lo % 16 * 268435456)) % 2684354560))) (by exact congrArg (nm _) (by omega)) ?_
  refine o_as (nm .u64 ((((hi * 1152921504606846976 + lo / 16) % 2684354560) * 4294967296 + (lo % 16 * 268435456)) % 2684354560)) rfl (aops_end (hK23 _ (awp_seq fun K24 hK24 => ?_)))
  refine awp_block ?_
  refine awp_loopR (fun κ σ => 0 = κ ∧ σ = ⟨[(2, nm .u64 11529215046068469760), (8, nm .u64 60), (9, nm .u64 2684354560), (10, nm .u64 0), (14, nm .u64 0), (15, nm .u64 ((hi * 1152921504606846976 + lo / 16) / 2684354560)), (17, nm .u64 (((hi * 1152921504606846976 + lo / 16) % 2684354560) * 4294967296 + (lo % 16 * 268435456))), (18, nm .u64 ((((hi * 1152921504606846976 + lo / 16) % 2684354560) * 4294967296 + (lo % 16 * 268435456)) / 2684354560)), (16, nm .u64 ((((hi * 1152921504606846976 + lo / 16) % 2684354560) * 4294967296 + (lo % 16 * 268435456)) % 2684354560))], []⟩) ⟨_, _, ⟨rfl, rfl⟩, ?wk1⟩ ?rd1
  case wk1 =>
   exact Wk.sub ⟨rfl, rfl, rfl, rfl, rfl, rfl, rfl, rfl, rfl, trivial⟩ trivial
  rintro κ _ ⟨rfl, rfl⟩
  refine awp_seq fun K25 hK25 => awp_seq fun K26 hK26 => awp_region rfl (o_mv (nm .u64 ((((hi * 1152921504606846976 + lo / 16) % 2684354560) * 4294967296 + (lo % 16 * 268435456)) / 2684354560)) rfl ?_)
  refine n_geq ((((hi * 1152921504606846976 + lo / 16) % 2684354560) * 4294967296 + (lo % 16 * 268435456)) / 2684354560) 4294967296 gn rfl rfl ?_
  refine n_as (v' := Fv) (by exact bp6n (by omega)) ?_
  refine o_mv Fv rfl (o_move (nm .u64 ((((hi * 1152921504606846976 + lo / 16) % 2684354560) * 4294967296 + (lo % 16 * 268435456)) / 2684354560)) (Gd.yes rfl rfl rfl) rfl (o_move (nm .u64 0) (Gd.yes rfl rfl rfl) rfl ?_))
  refine n_mulW ((((hi * 1152921504606846976 + lo / 16) % 2684354560) * 4294967296 + (lo % 16 * 268435456)) / 2684354560) 0 (Gd.yes rfl rfl rfl) rfl rfl ?_
  refine n_as (v' := (nm .u64 0)) (by exact congrArg (nm _) (by omega)) ?_
  refine o_move (nm .u64 ((((hi * 1152921504606846976 + lo / 16) % 2684354560) * 4294967296 + (lo % 16 * 268435456)) % 2684354560)) (Gd.yes rfl rfl rfl) rfl ?_
  refine n_mulW 4294967296 ((((hi * 1152921504606846976 + lo / 16) % 2684354560) * 4294967296 + (lo % 16 * 268435456)) % 2684354560) (Gd.yes rfl rfl rfl) rfl rfl ?_
  refine o_move (nm .u64 0) (Gd.yes rfl rfl rfl) rfl ?_
  refine n_addW ((4294967296 * ((((hi * 1152921504606846976 + lo / 16) % 2684354560) * 4294967296 + (lo % 16 * 268435456)) % 2684354560)) % 18446744073709551616) 0 (Gd.yes rfl rfl rfl) rfl rfl ?_
  refine n_gtr 0 ((((4294967296 * ((((hi * 1152921504606846976 + lo / 16) % 2684354560) * 4294967296 + (lo % 16 * 268435456)) % 2684354560)) % 18446744073709551616) + 0) % 18446744073709551616) (Gd.yes rfl rfl rfl) rfl rfl ?_
  refine n_as (v' := Fv) (by exact bp6n (by omega)) ?_
  refine o_pickF Fv gn rfl rfl rfl ?_
  refine aops_end (hK26 _ ?_)
  refine awp_condB (b := false) rfl (fun hh => absurd (hh.symm.trans rfl) (by decide)) (fun _ => ?_)
  refine awp_exit ?_
  refine hK24 _ (awp_seq fun K27 hK27 => awp_region rfl (o_mv (nm .u64 ((hi * 1152921504606846976 + lo / 16) / 2684354560)) rfl ?_))
  refine n_mulW ((hi * 1152921504606846976 + lo / 16) / 2684354560) 4294967296 gn rfl rfl ?_
  refine o_mv (nm .u64 ((((hi * 1152921504606846976 + lo / 16) % 2684354560) * 4294967296 + (lo % 16 * 268435456)) / 2684354560)) rfl ?_
  refine n_addW ((((hi * 1152921504606846976 + lo / 16) / 2684354560) * 4294967296) % 18446744073709551616) ((((hi * 1152921504606846976 + lo / 16) % 2684354560) * 4294967296 + (lo % 16 * 268435456)) / 2684354560) gn rfl rfl ?_
  refine n_as (v' := (nm .u64 ((hi * 18446744073709551616 + lo) / 10))) (by exact congrArg (nm _) (by omega)) ?_
  refine o_mv (nm .u64 (((hi * 1152921504606846976 + lo / 16) % 2684354560) * 4294967296 + (lo % 16 * 268435456))) rfl ?_
  refine n_mulW (((hi * 1152921504606846976 + lo / 16) % 2684354560) * 4294967296 + (lo % 16 * 268435456)) 4294967296 gn rfl rfl ?_
  refine o_mv (nm .u64 0) rfl ?_
  refine n_addW (((((hi * 1152921504606846976 + lo / 16) % 2684354560) * 4294967296 + (lo % 16 * 268435456)) * 4294967296) % 18446744073709551616) 0 gn rfl rfl ?_
  refine o_mv (nm .u64 ((((hi * 1152921504606846976 + lo / 16) % 2684354560) * 4294967296 + (lo % 16 * 268435456)) / 2684354560)) rfl (o_mv (nm .u64 11529215046068469760) rfl ?_)
  refine n_mulW ((((hi * 1152921504606846976 + lo / 16) % 2684354560) * 4294967296 + (lo % 16 * 268435456)) / 2684354560) 11529215046068469760 gn rfl rfl ?_
  refine n_subW (((((((hi * 1152921504606846976 + lo / 16) % 2684354560) * 4294967296 + (lo % 16 * 268435456)) * 4294967296) % 18446744073709551616) + 0) % 18446744073709551616) ((((((hi * 1152921504606846976 + lo / 16) % 2684354560) * 4294967296 + (lo % 16 * 268435456)) / 2684354560) * 11529215046068469760) % 18446744073709551616) (by omega) gn rfl rfl ?_
  refine o_mv (nm .u64 60) rfl ?_
  refine n_shr (((((((((hi * 1152921504606846976 + lo / 16) % 2684354560) * 4294967296 + (lo % 16 * 268435456)) * 4294967296) % 18446744073709551616) + 0) % 18446744073709551616) + 18446744073709551616 - ((((((hi * 1152921504606846976 + lo / 16) % 2684354560) * 4294967296 + (lo % 16 * 268435456)) / 2684354560) * 11529215046068469760) % 18446744073709551616)) % 18446744073709551616) 60 gn rfl rfl (by omega) ?_
  refine n_as (v' := (nm .u64 ((hi * 18446744073709551616 + lo) % 10))) (by exact congrArg (nm _) (by omega)) ?_
  refine o_as (nm .u64 ((hi * 18446744073709551616 + lo) / 10)) rfl (o_as (nm .u64 ((hi * 18446744073709551616 + lo) % 10)) rfl (aops_end (hK27 _ ?_)))
  refine awp_ret ?_
  refine post_ret ⟨[nm .u64 ((hi * 18446744073709551616 + lo) / 10), nm .u64 ((hi * 18446744073709551616 + lo) % 10)], ⟨AV.le_refl _, AV.le_refl _, trivial⟩, rfl, ?_⟩
  first | rfl | exact tup_eq2 (congrArg (nm _) (by omega)) (congrArg (nm _) (by omega))

theorem c_div2 (hi lo : Nat) (hh : hi < 2) (hl : lo < 18446744073709551616) : ECalls cx 58 [nm .u64 hi, nm .u64 lo, nm .u64 2] (.tup [nm .u64 ((hi * 18446744073709551616 + lo) / 2), nm .u64 ((hi * 18446744073709551616 + lo) % 2)]) := by
 refine ecalls_of_awp Try.func58 (c := _) rfl (Nat.le_of_ble_eq_true rfl) ?_
 show awp cx 135 _ (postF cx Try.f58 _) ⟨[(0, nm .u64 hi), (1, nm .u64 lo), (2, nm .u64 2)], []⟩
 refine awp_seq fun K0 hK0 => awp_region rfl (o_as (nm .u64 0) rfl (o_as (nm .u64 0) rfl (aops_end (hK0 _ (awp_seq fun K1 hK1 => awp_seq fun K2 hK2 => awp_region rfl (o_mv (nm .u64 2) rfl ?_))))))
 refine n_eql 2 0 gn rfl rfl ?_
 refine n_as (v' := Fv) (by exact bp6n (by decide)) ?_
 refine aops_end (hK2 _ ?_)
 refine awp_condB (b := false) rfl (fun hh => absurd (hh.symm.trans rfl) (by decide)) (fun _ => ?_)
 refine awp_skip (hK1 _ (awp_seq fun K3 hK3 => awp_seq fun K4 hK4 => awp_region rfl (o_mv (nm .u64 2) rfl (o_mv (nm .u64 hi) rfl ?_))))
 refine n_leq 2 hi gn rfl rfl ?_
 refine n_as (v' := Fv) (by exact bp6n (by omega)) ?_
 refine aops_end (hK4 _ ?_)
 refine awp_condB (b := false) rfl (fun hh => absurd (hh.symm.trans rfl) (by decide)) (fun _ => ?_)
 refine awp_skip (hK3 _ (awp_seq fun K5 hK5 => awp_seq fun K6 hK6 => awp_region rfl (o_mv (nm .u64 hi) rfl ?_)))
 refine n_eql hi 0 gn rfl rfl ?_
 refine aops_end (hK6 _ ?_)
 refine awp_condQ (q := hi = 0) rfl (fun h1 => ?_) (fun h1 => ?_)
 ·refine awp_seq fun K7 hK7 => awp_regionD rfl (o_mv (nm .u64 lo) rfl (o_mv (nm .u64 2) rfl ?_))
  refine n_quo lo 2 gn rfl rfl (by omega) (by simp only [topOf]; omega) ?_
  refine o_mv (nm .u64 lo) rfl (o_mv (nm .u64 2) rfl ?_)
  refine n_rem lo 2 gn rfl rfl (by omega) ?_
  refine o_as (nm .u64 (lo / 2)) rfl (o_as (nm .u64 (lo % 2)) rfl ?_)
  refine aops_end ⟨by kernel_rfl, ?_⟩
  refine hK7 _ ?_
  refine awp_ret ?_
  refine post_ret ⟨[nm .u64 (lo / 2), nm .u64 (lo % 2)], ⟨AV.le_refl _, AV.le_refl _, trivial⟩, rfl, ?_⟩
  first | rfl | exact tup_eq2 (congrArg (nm _) (by omega)) (congrArg (nm _) (by omega))
 ·refine awp_skip (hK5 _ (awp_seq fun K8 hK8 => awp_region rfl (o_mv (nm .u64 2) rfl ?_)))
  refine o_ct c_lz2 gn f17_ rfl ?_
  refine n_conv 62 gn rfl f18_ f19_ (by simp only [topOf]; omega) ?_
  refine o_as (nm .u64 62) rfl (aops_end (hK8 _ (awp_seq fun K9 hK9 => awp_region rfl (o_mv (nm .u64 2) rfl (o_mv (nm .u64 62) rfl ?_)))))
  refine n_shl 2 62 gn rfl rfl (by omega) ?_
  refine n_as (v' := (nm .u64 9223372036854775808)) (by rfl) ?_
  refine o_as (nm .u64 9223372036854775808) rfl (aops_end (hK9 _ (awp_seq fun K10 hK10 => awp_region rfl (o_mv (nm .u64 9223372036854775808) rfl ?_))))
  refine n_shr 9223372036854775808 32 gn rfl rfl (by omega) ?_
  refine n_as (v' := (nm .u64 2147483648)) (by rfl) ?_
  refine o_as (nm .u64 2147483648) rfl (aops_end (hK10 _ (awp_seq fun K11 hK11 => awp_region rfl (o_mv (nm .u64 9223372036854775808) rfl ?_))))
  refine n_and 9223372036854775808 4294967295 gn rfl rfl (by omega) (by omega) ?_
  refine n_as (v' := (nm .u64 0)) (by rfl) ?_
  refine o_as (nm .u64 0) rfl (aops_end (hK11 _ (awp_seq fun K12 hK12 => awp_region rfl (o_mv (nm .u64 hi) rfl (o_mv (nm .u64 62) rfl ?_)))))
  refine n_shl hi 62 gn rfl rfl (by omega) ?_
  refine n_as (v' := (nm .u64 (hi * 4611686018427387904))) (by exact congrArg (nm _) (by omega)) ?_
  refine o_mv (nm .u64 lo) rfl (o_mv (nm .u64 62) rfl ?_)
  refine n_sub 64 62 gn rfl rfl (by omega) (by simp only [topOf]; omega) ?_
  refine n_as (v' := (nm .u64 2)) (by rfl) ?_
  refine n_shr lo 2 gn rfl rfl (by omega) ?_
  refine n_as (v' := (nm .u64 (lo / 4))) (by rfl) ?_
  refine n_or (hi * 4611686018427387904) (lo / 4) gn rfl rfl (by omega) (by omega) ?_
  refine n_as (v' := (nm .u64 (hi * 4611686018427387904 + lo / 4))) (by exact congrArg (nm _) (by rw [Nat.or_comm, Nat.add_comm, show hi * 4611686018427387904 = hi <<< 62 by rw [Nat.shiftLeft_eq], Nat.or_comm, ← Nat.shiftLeft_add_eq_or_of_lt (by omega), Nat.add_comm])) ?_
  refine o_as (nm .u64 (hi * 4611686018427387904 + lo / 4)) rfl (aops_end (hK12 _ (awp_seq fun K13 hK13 => awp_region rfl (o_mv (nm .u64 lo) rfl (o_mv (nm .u64 62) rfl ?_)))))
  refine n_shl lo 62 gn rfl rfl (by omega) ?_
  refine n_as (v' := (nm .u64 (lo % 4 * 4611686018427387904))) (by exact congrArg (nm _) (by omega)) ?_
  refine o_as (nm .u64 (lo % 4 * 4611686018427387904)) rfl (aops_end (hK13 _ (awp_seq fun K14 hK14 => awp_region rfl (o_mv (nm .u64 (lo % 4 * 4611686018427387904)) rfl ?_))))
  refine n_shr (lo % 4 * 4611686018427387904) 32 gn rfl rfl (by omega) ?_
  refine n_as (v' := (nm .u64 (lo % 4 * 1073741824))) (by exact congrArg (nm _) (by omega)) ?_
  refine o_as (nm .u64 (lo % 4 * 1073741824)) rfl (aops_end (hK14 _ (awp_seq fun K15 hK15 => awp_region rfl (o_mv (nm .u64 (lo % 4 * 4611686018427387904)) rfl ?_))))
  refine n_and (lo % 4 * 4611686018427387904) 4294967295 gn rfl rfl (by omega) (by omega) ?_
  refine n_as (v' := (nm .u64 0)) (by exact congrArg (nm _) ((Nat.and_two_pow_sub_one_eq_mod _ 32).trans (by omega))) ?_
  refine o_as (nm .u64 0) rfl (aops_end (hK15 _ (awp_seq fun K16 hK16 => awp_region rfl (o_mv (nm .u64 (hi * 4611686018427387904 + lo / 4)) rfl (o_mv (nm .u64 2147483648) rfl ?_)))))
  refine n_quo (hi * 4611686018427387904 + lo / 4) 2147483648 gn rfl rfl (by omega) (by simp only [topOf]; omega) ?_
  refine n_as (v' := (nm .u64 ((hi * 4611686018427387904 + lo / 4) / 2147483648))) (by rfl) ?_
  refine o_as (nm .u64 ((hi * 4611686018427387904 + lo / 4) / 2147483648)) rfl (aops_end (hK16 _ (awp_seq fun K17 hK17 => awp_region rfl (o_mv (nm .u64 (hi * 4611686018427387904 + lo / 4)) rfl (o_mv (nm .u64 ((hi * 4611686018427387904 + lo / 4) / 2147483648)) rfl (o_mv (nm .u64 2147483648) rfl ?_))))))
  refine n_mulW ((hi * 4611686018427387904 + lo / 4) / 2147483648) 2147483648 gn rfl rfl ?_
  refine n_subW (hi * 4611686018427387904 + lo / 4) ((((hi * 4611686018427387904 + lo / 4) / 2147483648) * 2147483648) % 18446744073709551616) (by omega) gn rfl rfl ?_
  refine n_as (v' := (nm .u64 ((hi * 4611686018427387904 + lo / 4) % 2147483648))) (by exact congrArg (nm _) (by omega)) ?_
  refine o_as (nm .u64 ((hi * 4611686018427387904 + lo / 4) % 2147483648)) rfl (aops_end (hK17 _ (awp_seq fun K18 hK18 => ?_)))
  refine awp_block ?_
  refine awp_loopR (fun κ σ => 0 = κ ∧ σ = ⟨[(2, nm .u64 9223372036854775808), (8, nm .u64 62), (9, nm .u64 2147483648), (10, nm .u64 0), (11, nm .u64 (hi * 4611686018427387904 + lo / 4)), (13, nm .u64 (lo % 4 * 1073741824)), (14, nm .u64 0), (15, nm .u64 ((hi * 4611686018427387904 + lo / 4) / 2147483648)), (16, nm .u64 ((hi * 4611686018427387904 + lo / 4) % 2147483648))], []⟩) ⟨_, _, ⟨rfl, rfl⟩, ?wk0⟩ ?rd0
  case wk0 =>
   exact Wk.sub ⟨rfl, rfl, rfl, rfl, rfl, rfl, rfl, rfl, rfl, trivial⟩ trivial
  rintro κ _ ⟨rfl, rfl⟩
  refine awp_seq fun K19 hK19 => awp_seq fun K20 hK20 => awp_region rfl (o_mv (nm .u64 ((hi * 4611686018427387904 + lo / 4) / 2147483648)) rfl ?_)
  refine n_geq ((hi * 4611686018427387904 + lo / 4) / 2147483648) 4294967296 gn rfl rfl ?_
  refine n_as (v' := Fv) (by exact bp6n (by omega)) ?_
  refine o_mv Fv rfl (o_move (nm .u64 ((hi * 4611686018427387904 + lo / 4) / 2147483648)) (Gd.yes rfl rfl rfl) rfl (o_move (nm .u64 0) (Gd.yes rfl rfl rfl) rfl ?_))
  refine n_mulW ((hi * 4611686018427387904 + lo / 4) / 2147483648) 0 (Gd.yes rfl rfl rfl) rfl rfl ?_
  refine n_as (v' := (nm .u64 0)) (by exact congrArg (nm _) (by omega)) ?_
  refine o_move (nm .u64 ((hi * 4611686018427387904 + lo / 4) % 2147483648)) (Gd.yes rfl rfl rfl) rfl ?_
  refine n_mulW 4294967296 ((hi * 4611686018427387904 + lo / 4) % 2147483648) (Gd.yes rfl rfl rfl) rfl rfl ?_
  refine o_move (nm .u64 (lo % 4 * 1073741824)) (Gd.yes rfl rfl rfl) rfl ?_
  refine n_addW ((4294967296 * ((hi * 4611686018427387904 + lo / 4) % 2147483648)) % 18446744073709551616) (lo % 4 * 1073741824) (Gd.yes rfl rfl rfl) rfl rfl ?_
  refine n_gtr 0 ((((4294967296 * ((hi * 4611686018427387904 + lo / 4) % 2147483648)) % 18446744073709551616) + (lo % 4 * 1073741824)) % 18446744073709551616) (Gd.yes rfl rfl rfl) rfl rfl ?_
  refine n_as (v' := Fv) (by exact bp6n (by omega)) ?_
  refine o_pickF Fv gn rfl rfl rfl ?_
  refine aops_end (hK20 _ ?_)
  refine awp_condB (b := false) rfl (fun hh => absurd (hh.symm.trans rfl) (by decide)) (fun _ => ?_)
  refine awp_exit ?_
  refine hK18 _ (awp_seq fun K21 hK21 => awp_region rfl (o_mv (nm .u64 (hi * 4611686018427387904 + lo / 4)) rfl ?_))
  refine n_mulW (hi * 4611686018427387904 + lo / 4) 4294967296 gn rfl rfl ?_
  refine o_mv (nm .u64 (lo % 4 * 1073741824)) rfl ?_
  refine n_addW (((hi * 4611686018427387904 + lo / 4) * 4294967296) % 18446744073709551616) (lo % 4 * 1073741824) gn rfl rfl ?_
  refine o_mv (nm .u64 ((hi * 4611686018427387904 + lo / 4) / 2147483648)) rfl (o_mv (nm .u64 9223372036854775808) rfl ?_)
  refine n_mulW ((hi * 4611686018427387904 + lo / 4) / 2147483648) 9223372036854775808 gn rfl rfl ?_
  refine n_subW (((((hi * 4611686018427387904 + lo / 4) * 4294967296) % 18446744073709551616) + (lo % 4 * 1073741824)) % 18446744073709551616) ((((hi * 4611686018427387904 + lo / 4) / 2147483648) * 9223372036854775808) % 18446744073709551616) (by omega) gn rfl rfl ?_
  refine n_as (v' := (nm .u64 (((hi * 4611686018427387904 + lo / 4) % 2147483648) * 4294967296 + (lo % 4 * 1073741824)))) (by exact congrArg (nm _) (by omega)) ?_
  refine o_as (nm .u64 (((hi * 4611686018427387904 + lo / 4) % 2147483648) * 4294967296 + (lo % 4 * 1073741824))) rfl (aops_end (hK21 _ (awp_seq fun K22 hK22 => awp_region rfl (o_mv (nm .u64 (((hi * 4611686018427387904 + lo / 4) % 2147483648) * 4294967296 + (lo % 4 * 1073741824))) rfl (o_mv (nm .u64 2147483648) rfl ?_)))))
  refine n_quo (((hi * 4611686018427387904 + lo / 4) % 2147483648) * 4294967296 + (lo % 4 * 1073741824)) 2147483648 gn rfl rfl (by omega) (by simp only [topOf]; omega) ?_
  refine n_as (v' := (nm .u64 ((((hi * 4611686018427387904 + lo / 4) % 2147483648) * 4294967296 + (lo % 4 * 1073741824)) / 2147483648))) (by rfl) ?_
  refine o_as (nm .u64 ((((hi * 4611686018427387904 + lo / 4) % 2147483648) * 4294967296 + (lo % 4 * 1073741824)) / 2147483648)) rfl (aops_end (hK22 _ (awp_seq fun K23 hK23 => awp_region rfl (o_mv (nm .u64 (((hi * 4611686018427387904 + lo / 4) % 2147483648) * 4294967296 + (lo % 4 * 1073741824))) rfl (o_mv (nm .u64 ((((hi * 4611686018427387904 + lo / 4) % 2147483648) * 4294967296 + (lo % 4 * 1073741824)) / 2147483648)) rfl (o_mv (nm .u64 2147483648) rfl ?_))))))
  refine n_mulW ((((hi * 4611686018427387904 + lo / 4) % 2147483648) * 4294967296 + (lo % 4 * 1073741824)) / 2147483648) 2147483648 gn rfl rfl ?_
  refine n_subW (((hi * 4611686018427387904 + lo / 4) % 2147483648) * 4294967296 + (lo % 4 * 1073741824)) ((((((hi * 4611686018427387904 + lo / 4) % 2147483648) * 4294967296 + (lo % 4 * 1073741824)) / 2147483648) * 2147483648) % 18446744073709551616) (by omega) gn rfl rfl ?_
  refine n_as (v' := (nm .u64 ((((hi * 4611686018427387904 + lo / 4) % 2147483648) * 4294967296 + (lo % 4 * 1073741824)) % 2147483648))) (by exact congrArg (nm _) (by omega)) ?_
  refine o_as (nm .u64 ((((hi * 4611686018427387904 + lo / 4) % 2147483648) * 4294967296 + (lo % 4 * 1073741824)) % 2147483648)) rfl (aops_end (hK23 _ (awp_seq fun K24 hK24 => ?_)))
  refine awp_block ?_
  refine awp_loopR (fun κ σ => 0 = κ ∧ σ = ⟨[(2, nm .u64 9223372036854775808), (8, nm .u64 62), (9, nm .u64 2147483648), (10, nm .u64 0), (14, nm .u64 0), (15, nm .u64 ((hi * 4611686018427387904 + lo / 4) / 2147483648)), (17, nm .u64 (((hi * 4611686018427387904 + lo / 4) % 2147483648) * 4294967296 + (lo % 4 * 1073741824))), (18, nm .u64 ((((hi * 4611686018427387904 + lo / 4) % 2147483648) * 4294967296 + (lo % 4 * 1073741824)) / 2147483648)), (16, nm .u64 ((((hi * 4611686018427387904 + lo / 4) % 2147483648) * 4294967296 + (lo % 4 * 1073741824)) % 2147483648))], []⟩) ⟨_, _, ⟨rfl, rfl⟩, ?wk1⟩ ?rd1
  case wk1 =>
   exact Wk.sub ⟨rfl, rfl, rfl, rfl, rfl, rfl, rfl, rfl, rfl, trivial⟩ trivial
  rintro κ _ ⟨rfl, rfl⟩
  refine awp_seq fun K25 hK25 => awp_seq fun K26 hK26 => awp_region rfl (o_mv (nm .u64 ((((hi * 4611686018427387904 + lo / 4) % 2147483648) * 4294967296 + (lo % 4 * 1073741824)) / 2147483648)) rfl ?_)
  refine n_geq ((((hi * 4611686018427387904 + lo / 4) % 2147483648) * 4294967296 + (lo % 4 * 1073741824)) / 2147483648) 4294967296 gn rfl rfl ?_
  refine n_as (v' := Fv) (by exact bp6n (by omega)) ?_
  refine o_mv Fv rfl (o_move (nm .u64 ((((hi * 4611686018427387904 + lo / 4) % 2147483648) * 4294967296 + (lo % 4 * 1073741824)) / 2147483648)) (Gd.yes rfl rfl rfl) rfl (o_move (nm .u64 0) (Gd.yes rfl rfl rfl) rfl ?_))
  refine n_mulW ((((hi * 4611686018427387904 + lo / 4) % 2147483648) * 4294967296 + (lo % 4 * 1073741824)) / 2147483648) 0 (Gd.yes rfl rfl rfl) rfl rfl ?_
  refine n_as (v' := (nm .u64 0)) (by exact congrArg (nm _) (by omega)) ?_
  refine o_move (nm .u64 ((((hi * 4611686018427387904 + lo / 4) % 2147483648) * 4294967296 + (lo % 4 * 1073741824)) % 2147483648)) (Gd.yes rfl rfl rfl) rfl ?_
  refine n_mulW 4294967296 ((((hi * 4611686018427387904 + lo / 4) % 2147483648) * 4294967296 + (lo % 4 * 1073741824)) % 2147483648) (Gd.yes rfl rfl rfl) rfl rfl ?_
  refine o_move (nm .u64 0) (Gd.yes rfl rfl rfl) rfl ?_
  refine n_addW ((4294967296 * ((((hi * 4611686018427387904 + lo / 4) % 2147483648) * 4294967296 + (lo % 4 * 1073741824)) % 2147483648)) % 18446744073709551616) 0 (Gd.yes rfl rfl rfl) rfl rfl ?_
  refine n_gtr 0 ((((4294967296 * ((((hi * 4611686018427387904 + lo / 4) % 2147483648) * 4294967296 + (lo % 4 * 1073741824)) % 2147483648)) % 18446744073709551616) + 0) % 18446744073709551616) (Gd.yes rfl rfl rfl) rfl rfl ?_
  refine n_as (v' := Fv) (by exact bp6n (by omega)) ?_
  refine o_pickF Fv gn rfl rfl rfl ?_
  refine aops_end (hK26 _ ?_)
  refine awp_condB (b := false) rfl (fun hh => absurd (hh.symm.trans rfl) (by decide)) (fun _ => ?_)
  refine awp_exit ?_
  refine hK24 _ (awp_seq fun K27 hK27 => awp_region rfl (o_mv (nm .u64 ((hi * 4611686018427387904 + lo / 4) / 2147483648)) rfl ?_))
  refine n_mulW ((hi * 4611686018427387904 + lo / 4) / 2147483648) 4294967296 gn rfl rfl ?_
  refine o_mv (nm .u64 ((((hi * 4611686018427387904 + lo / 4) % 2147483648) * 4294967296 + (lo % 4 * 1073741824)) / 2147483648)) rfl ?_
  refine n_addW ((((hi * 4611686018427387904 + lo / 4) / 2147483648) * 4294967296) % 18446744073709551616) ((((hi * 4611686018427387904 + lo / 4) % 2147483648) * 4294967296 + (lo % 4 * 1073741824)) / 2147483648) gn rfl rfl ?_
  refine n_as (v' := (nm .u64 ((hi * 18446744073709551616 + lo) / 2))) (by exact congrArg (nm _) (by omega)) ?_
  refine o_mv (nm .u64 (((hi * 4611686018427387904 + lo / 4) % 2147483648) * 4294967296 + (lo % 4 * 1073741824))) rfl ?_
  refine n_mulW (((hi * 4611686018427387904 + lo / 4) % 2147483648) * 4294967296 + (lo % 4 * 1073741824)) 4294967296 gn rfl rfl ?_
  refine o_mv (nm .u64 0) rfl ?_
  refine n_addW (((((hi * 4611686018427387904 + lo / 4) % 2147483648) * 4294967296 + (lo % 4 * 1073741824)) * 4294967296) % 18446744073709551616) 0 gn rfl rfl ?_
  refine o_mv (nm .u64 ((((hi * 4611686018427387904 + lo / 4) % 2147483648) * 4294967296 + (lo % 4 * 1073741824)) / 2147483648)) rfl (o_mv (nm .u64 9223372036854775808) rfl ?_)
  refine n_mulW ((((hi * 4611686018427387904 + lo / 4) % 2147483648) * 4294967296 + (lo % 4 * 1073741824)) / 2147483648) 9223372036854775808 gn rfl rfl ?_
  refine n_subW (((((((hi * 4611686018427387904 + lo / 4) % 2147483648) * 4294967296 + (lo % 4 * 1073741824)) * 4294967296) % 18446744073709551616) + 0) % 18446744073709551616) ((((((hi * 4611686018427387904 + lo / 4) % 2147483648) * 4294967296 + (lo % 4 * 1073741824)) / 2147483648) * 9223372036854775808) % 18446744073709551616) (by omega) gn rfl rfl ?_
  refine o_mv (nm .u64 62) rfl ?_
  refine n_shr (((((((((hi * 4611686018427387904 + lo / 4) % 2147483648) * 4294967296 + (lo % 4 * 1073741824)) * 4294967296) % 18446744073709551616) + 0) % 18446744073709551616) + 18446744073709551616 - ((((((hi * 4611686018427387904 + lo / 4) % 2147483648) * 4294967296 + (lo % 4 * 1073741824)) / 2147483648) * 9223372036854775808) % 18446744073709551616)) % 18446744073709551616) 62 gn rfl rfl (by omega) ?_
  refine n_as (v' := (nm .u64 ((hi * 18446744073709551616 + lo) % 2))) (by exact congrArg (nm _) (by omega)) ?_
  refine o_as (nm .u64 ((hi * 18446744073709551616 + lo) / 2)) rfl (o_as (nm .u64 ((hi * 18446744073709551616 + lo) % 2)) rfl (aops_end (hK27 _ ?_)))
  refine awp_ret ?_
  refine post_ret ⟨[nm .u64 ((hi * 18446744073709551616 + lo) / 2), nm .u64 ((hi * 18446744073709551616 + lo) % 2)], ⟨AV.le_refl _, AV.le_refl _, trivial⟩, rfl, ?_⟩
  first | rfl | exact tup_eq2 (congrArg (nm _) (by omega)) (congrArg (nm _) (by omega))

theorem c_div64 (d hi lo : Nat) (hd : d = 2 ∨ d = 10) (hh : hi < d) (hl : lo < 18446744073709551616) : ECalls cx 58 [nm .u64 hi, nm .u64 lo, nm .u64 d] (.tup [nm .u64 ((hi * 18446744073709551616 + lo) / d), nm .u64 ((hi * 18446744073709551616 + lo) % d)]) := by
 rcases hd with rfl | rfl
 ·exact c_div2 hi lo hh hl
 ·exact c_div10 hi lo hh hl
end Go.Proofs.Ytaeknciienkijaa

namespace Go.Proofs.Ytaeknciienkijaa
open Go Go.Ab Go.Mth
theorem f20_ : callable cx.P 58 = true := by kernel_rfl
theorem c_xOver (m d : Nat) (hd2 : d = 2 ∨ d = 10) (hm : (Mw.digs m).length ≤ 1000000) : ECalls cx 37 [.sl 1 (ns .u64 (Mw.digs m)), nm .u64 d] (.tup [.sl 1 (ns .u64 (Mw.digs (m / d))), nm .u64 (m % d)]) := by
 refine ecalls_of_awp Try.func37 (c := _) rfl (Nat.le_of_ble_eq_true rfl) ?_
 show awp cx 35 _ (postF cx Try.f37 _) ⟨[(0, .sl 1 (ns .u64 (Mw.digs m))), (1, nm .u64 d)], []⟩
 refine awp_seq fun K0 hK0 => awp_region rfl (o_as Zv rfl (o_as (nm .u64 0) rfl (aops_end (hK0 _ (awp_seq fun K1 hK1 => awp_region rfl (o_mv (.sl 1 (ns .u64 (Mw.digs m))) rfl ?_))))))
 refine n_len (Mw.digs m) gn f0_ rfl ?_
 refine n_make 2 ((Mw.digs m).length) gn f1_ f3_ rfl rfl (by omega) rfl rfl ?_
 refine o_as (.row 2) rfl (aops_end (hK1 _ (awp_seq fun K2 hK2 => awp_region rfl (o_as (nm .u64 0) rfl (aops_end (hK2 _ (awp_seq fun K3 hK3 => awp_seq fun K4 hK4 => awp_region rfl (o_mv (.sl 1 (ns .u64 (Mw.digs m))) rfl ?_))))))))
 refine n_len (Mw.digs m) gn f0_ rfl ?_
 refine o_sub (a := (((Mw.digs m).length : Nat) : Int)) (c := ((1 : Nat) : Int)) gn rfl rfl (by exact wrap64 (by omega) (by omega)) ?_
 refine o_as (Iv ((((Mw.digs m).length : Nat) : Int) - ((1 : Nat) : Int))) rfl (aops_end (hK4 _ ?_))
 refine awp_block ?_
 refine awp_loopR (fun κ σ => ∃ (j : Nat), ∃ (o : List Nat), ∃ (r : Nat), (o.length = ((Mw.digs m).length)) ∧ (j ≤ ((Mw.digs m).length)) ∧ (Mw.Dig o) ∧ (r < d) ∧ (Mw.val ((Mw.digs m).drop j) = d * Mw.val (o.drop j) + r) ∧ j = κ ∧ σ = ⟨[(0, .sl 1 (ns .u64 (Mw.digs m))), (1, nm .u64 d), (6, .row 50), (7, nm .u64 r), (8, (Iv (((j : Nat) : Int) - 1)))], [(50, .row 73 1 (ns .u64 o))]⟩) ⟨_, _, ⟨(Mw.digs m).length, List.replicate ((Mw.digs m).length) 0, 0, List.length_replicate, Nat.le_refl _, Mw.Dig.repl _, (by omega), (by rw [Mw.val_drop_all (by omega), Mw.val_drop_all (by rw [List.length_replicate]; omega), Nat.mul_zero]), rfl, rfl⟩, ?wk0⟩ ?rd0
 case wk0 =>
  exact Wk.trans (Wk.sub (σ' := ⟨[(0, .sl 1 (ns .u64 (Mw.digs m))), (1, nm .u64 d), (6, .row 2), (7, nm .u64 0), (8, (Iv ((((Mw.digs m).length : Nat) : Int) - ((1 : Nat) : Int))))], [(2, .row 73 1 (ns .u64 (List.replicate ((Mw.digs m).length) 0)))]⟩) ⟨rfl, rfl, rfl, rfl, rfl, trivial⟩ ⟨rfl, trivial⟩) (Wk.trans (Wk.ren (id := 2) (id' := 50) rfl) (Wk.sub ⟨rfl, rfl, (by first | rfl | simp), (by first | rfl | exact nm_int (by omega)), (by first | rfl | exact int_eq (by omega) | exact int_nm (by omega)), trivial⟩ ⟨(by first | rfl | exact row_ns (by simp)), trivial⟩))
 rintro κ _ ⟨j, o, r, hl, hj, hd, hr, hv, rfl, rfl⟩
 have hA := Mw.Dig.getD (Mw.digs_dig m) (j - 1)
 refine awp_seq fun K5 hK5 => awp_seq fun K6 hK6 => awp_region rfl (o_mv (Iv (((j : Nat) : Int) - 1)) rfl ?_)
 refine o_geq (a := (((j : Nat) : Int) - 1)) (c := ((0 : Nat) : Int)) gn rfl rfl ?_
 refine aops_end (hK6 _ ?_)
 refine awp_condQ (q := ((0 : Nat) : Int) ≤ (((j : Nat) : Int) - 1)) rfl (fun h1 => ?_) (fun h1 => ?_)
 ·refine awp_skip (hK5 _ (awp_seq fun K7 hK7 => ?_))
  refine awp_block ?_
  refine awp_region rfl (o_mv (.row 50) rfl (o_mv (Iv (((j : Nat) : Int) - 1)) rfl ?_))
  refine n_as (v' := (Nv (j - 1))) (nm_int (by omega)) ?_
  refine o_mv (nm .u64 r) rfl (o_mv (.sl 1 (ns .u64 (Mw.digs m))) rfl (o_mv (Iv (((j : Nat) : Int) - 1)) rfl ?_))
  refine n_as (v' := (Nv (j - 1))) (nm_int (by omega)) ?_
  refine n_index (Mw.digs m) (j - 1) gn f1_ rfl rfl (by omega) ?_
  refine n_loadI (Mw.digs m) (j - 1) gn f2_ rfl (by omega) ?_
  refine o_mv (nm .u64 d) rfl ?_
  refine o_ct (c_div64 d r ((Mw.digs m).getD (j - 1) 0) hd2 (by omega) (by omega)) gn f20_ rfl ?_
  refine o_mv (.tup [nm .u64 ((r * 18446744073709551616 + ((Mw.digs m).getD (j - 1) 0)) / d), nm .u64 ((r * 18446744073709551616 + ((Mw.digs m).getD (j - 1) 0)) % d)]) rfl (o_extract (nm .u64 ((r * 18446744073709551616 + ((Mw.digs m).getD (j - 1) 0)) / d)) gn rfl rfl (o_extract (nm .u64 ((r * 18446744073709551616 + ((Mw.digs m).getD (j - 1) 0)) % d)) gn rfl rfl ?_))
  refine n_indexRow o (j - 1) gn f1_ rfl rfl rfl (by omega) ?_
  refine n_storeRow o (j - 1) ((r * 18446744073709551616 + ((Mw.digs m).getD (j - 1) 0)) / d) [(50, .row 73 1 (ns .u64 (o.set (j - 1) ((r * 18446744073709551616 + ((Mw.digs m).getD (j - 1) 0)) / d))))] gn f9_ rfl rfl rfl (by omega) rfl ?_
  refine o_as (nm .u64 ((r * 18446744073709551616 + ((Mw.digs m).getD (j - 1) 0)) % d)) rfl (aops_end (hK7 _ (awp_region rfl (o_mv (Iv (((j : Nat) : Int) - 1)) rfl ?_))))
  refine o_sub (a := (((j : Nat) : Int) - 1)) (c := ((1 : Nat) : Int)) gn rfl rfl (by exact wrap64 (by omega) (by omega)) ?_
  refine o_as (Iv ((((j : Nat) : Int) - 1) - ((1 : Nat) : Int))) rfl (aops_end ?_)
  refine ⟨_, _, ?lt, ⟨j - 1, o.set (j - 1) ((r * 18446744073709551616 + ((Mw.digs m).getD (j - 1) 0)) / d), (r * 18446744073709551616 + ((Mw.digs m).getD (j - 1) 0)) % d, (by rw [List.length_set]; exact hl), (by omega), (hd.set (by rcases hd2 with rfl | rfl <;> omega)), (Nat.mod_lt _ (by omega)), (Mw.div_step (by omega) hl (by omega) (by rw [show j - 1 + 1 = j by omega]; exact hv) rfl), rfl, rfl⟩, ?wk⟩
  case lt => omega
  case wk => exact Wk.sub ⟨rfl, rfl, rfl, (by first | rfl | exact nm_int (by omega)), (by first | rfl | exact int_eq (by omega) | exact int_nm (by omega)), trivial⟩ ⟨(by first | rfl | exact row_ns (by simp)), trivial⟩
 ·refine awp_exit ?_
  refine hK3 _ (awp_seq fun K8 hK8 => awp_region rfl (o_mv (.row 50) rfl ?_))
  refine o_callG [(50, 1, ns .u64 o)] [.sl 1 (ns .u64 o)] _ (.sl 1 (ns .u64 (Mw.digs (Mw.val o)))) [] gn f4_ rfl ⟨⟨_, rfl⟩, trivial⟩ rfl rfl (LeL.cons (AV.le_refl _) LeL.nil) (c_xTrim o (by assumption)) rfl ?_
  refine o_mv (nm .u64 r) rfl (o_as (.sl 1 (ns .u64 (Mw.digs (Mw.val o)))) rfl (o_as (nm .u64 r) rfl (aops_end (hK8 _ ?_))))
  refine awp_ret ?_
  refine post_ret ⟨[.sl 1 (ns .u64 (Mw.digs (Mw.val o))), nm .u64 r], ⟨AV.le_refl _, AV.le_refl _, trivial⟩, rfl, ?_⟩
  have hj0 : j = 0 := by omega
  subst hj0
  obtain ⟨e1, e2⟩ := Mw.div_end hr hv
  exact tup_eq2 (ns_congr (by rw [e1])) (congrArg (nm _) e2.symm)

end Go.Proofs.Ytaeknciienkijaa

namespace Go.Ab
open Go.Mth
def intX (z : Int) : AV := .agg [bp (z < 0), .sl 1 (ns .u64 (Mw.digs z.natAbs))]
theorem intX_sg (b : Bool) (n : Nat) {v : AV} (h : v = .lit (.bool (b && decide (0 < n)))) : AV.agg [v, .sl 1 (ns .u64 (Mw.digs n))] = intX (sg b n) := by
 subst h
 unfold intX
 rw [sg_abs]
 congr 2
 refine bl_bp ?_
 rw [sg_neg]
 simp
theorem digs_pos' (n : Nat) : 0 < (Mw.digs n).length ↔ 0 < n := by have := Mw.digs_len_zero (n := n); omega
theorem neg_sg (y : Int) : sg (decide (¬ y < 0)) y.natAbs = -y := by
 unfold sg
 split <;> rename_i h <;> simp at h <;> omega
theorem icmp_1 {x y : Int} (h : x - y < 0) : cmpZ x y = -1 := by unfold cmpZ; rw [if_pos (by omega)]
theorem icmp_2 {x y : Int} (h : ¬ x - y < 0) (h2 : 0 < (Mw.digs (x - y).natAbs).length) : cmpZ x y = 1 := by
 have := (digs_pos' _).1 h2
 unfold cmpZ
 rw [if_neg (by omega), if_pos (by omega)]
theorem icmp_3 {x y : Int} (h2 : ¬ 0 < (Mw.digs (x - y).natAbs).length) : cmpZ x y = 0 := by
 have : ¬ 0 < (x - y).natAbs := fun e => h2 ((digs_pos' _).2 e)
 unfold cmpZ
 rw [if_neg (by omega), if_neg (by omega)]
/- reading -/
theorem read_len {a : ByteArray} (h : ∀ i, i < a.size → 48 ≤ byt a i ∧ byt a i ≤ 57) {i : Nat} (hi : i ≤ a.size) : (Mw.digs (dvk a 0 i)).length ≤ i := by
 have h1 := dvk_lt (a := a) (s := 0) (k := i) (fun j _ h2 => h j (by omega))
 have h2 : (10 : Nat) ^ i ≤ 18446744073709551616 ^ i := Nat.pow_le_pow_left (by decide) i
 exact Mw.digs_len_of_lt (by omega)
theorem read_mul (n : Nat) : (Mw.digs (n * 10)).length ≤ (Mw.digs n).length + 1 := by
 refine Mw.digs_len_of_lt ?_
 have h := Mw.digs_hi n
 rw [Nat.pow_succ]
 omega
theorem read_next (a : ByteArray) (i : Nat) : dvk a 0 i * 10 + (byt a i - 48) = dvk a 0 (i + 1) := by rw [dvk, Nat.zero_add, Nat.mul_comm]
end Go.Ab

namespace Go.Proofs.Ytaeknciienkijaa
open Go Go.Ab Go.Mth
theorem f21_ : tyZero cx.P 63 = some [Go.Value.bool false, Go.Value.slice none 0 0] := by kernel_rfl
theorem f22_ : tyPlaces cx.P 63 = some (fun i => (#[(0, 1), (1, 1)] : Array (Nat × Nat))[i]?) := by kernel_rfl
theorem f23_ : tySize cx.P 63 = some 2 := by kernel_rfl
theorem f24_ : tyAgg cx.P 63 = some 2 := by kernel_rfl
theorem f25_ : tyField cx.P 63 1 = some (1, 61) := by kernel_rfl
theorem f26_ : tySc cx.P 61 = true := by kernel_rfl
theorem f27_ : tyField cx.P 63 0 = some (0, 4) := by kernel_rfl
theorem f28_ : tySc cx.P 4 = true := by kernel_rfl
theorem f29_ : cx.P.underlying 4 = some .bool := by kernel_rfl
theorem f30_ : callable cx.P 50 = true := by kernel_rfl
theorem f31_ : callable cx.P 52 = true := by kernel_rfl
theorem f32_ : callable cx.P 56 = true := by kernel_rfl
theorem f33_ : callable cx.P 70 = true := by kernel_rfl
theorem c_xMade (b : Bool) (n : Nat) : ECalls cx 52 [.lit (.bool b), .sl 1 (ns .u64 (Mw.digs n))] (intX (sg b n)) := by
 refine ecalls_of_awp Try.func52 (c := _) rfl (Nat.le_of_ble_eq_true rfl) ?_
 show awp cx 13 _ (postF cx Try.f52 _) ⟨[(0, .lit (.bool b)), (1, .sl 1 (ns .u64 (Mw.digs n)))], []⟩
 refine awp_seq fun K0 hK0 => awp_region rfl ?_
 refine o_alloc 2 [Fv, Zv] gn f21_ rfl rfl rfl ?_
 refine aops_end (hK0 _ (awp_seq fun K1 hK1 => awp_region rfl (o_mv (.lit (.bool b)) rfl (o_mv (.lit (.bool b)) rfl ?_))))
 refine o_split (b := b) 6 rfl (fun h1 => ?_) (fun h1 => ?_)
 ·refine o_move (.sl 1 (ns .u64 (Mw.digs n))) (Gd.yes rfl rfl h1) rfl ?_
  refine n_len (Mw.digs n) (Gd.yes rfl rfl h1) f0_ rfl ?_
  refine n_gtr ((Mw.digs n).length) 0 (Gd.yes rfl rfl h1) rfl rfl ?_
  refine o_pickT (bp (0 < ((Mw.digs n).length))) gn rfl h1 rfl ?_
  refine o_mv (.sl 1 (ns .u64 (Mw.digs n))) rfl ?_
  refine o_build [bp (0 < ((Mw.digs n).length)), .sl 1 (ns .u64 (Mw.digs n))] [(0, [bp (0 < ((Mw.digs n).length))]), (1, [.sl 1 (ns .u64 (Mw.digs n))])] gn f22_ f21_ rfl rfl rfl ?_
  refine o_store [(2, .var 63 [bp (0 < ((Mw.digs n).length)), .sl 1 (ns .u64 (Mw.digs n))])] gn f23_ rfl rfl rfl rfl rfl rfl ?_
  refine aops_end (hK1 _ ?_)
  refine awp_ret ?_
  refine post_ret ⟨[.agg [bp (0 < ((Mw.digs n).length)), .sl 1 (ns .u64 (Mw.digs n))]], ⟨⟨2, .var 63 [bp (0 < ((Mw.digs n).length)), .sl 1 (ns .u64 (Mw.digs n))], rfl, rfl, rfl, Or.inl ⟨f24_, AV.le_refl _⟩⟩, trivial⟩, rfl, ?_⟩
  first | exact (intX_sg b n (bl_bp (by simp [*, digs_pos'])).symm).symm | exact (intX_sg b n (by simp [*])).symm
 ·refine o_skip rfl rfl h1 (o_skip rfl rfl h1 (o_skip rfl rfl h1 ?_))
  refine o_pickF Fv gn rfl h1 rfl ?_
  refine o_mv (.sl 1 (ns .u64 (Mw.digs n))) rfl ?_
  refine o_build [Fv, .sl 1 (ns .u64 (Mw.digs n))] [(0, [Fv]), (1, [.sl 1 (ns .u64 (Mw.digs n))])] gn f22_ f21_ rfl rfl rfl ?_
  refine o_store [(2, .var 63 [Fv, .sl 1 (ns .u64 (Mw.digs n))])] gn f23_ rfl rfl rfl rfl rfl rfl ?_
  refine aops_end (hK1 _ ?_)
  refine awp_ret ?_
  refine post_ret ⟨[.agg [Fv, .sl 1 (ns .u64 (Mw.digs n))]], ⟨⟨2, .var 63 [Fv, .sl 1 (ns .u64 (Mw.digs n))], rfl, rfl, rfl, Or.inl ⟨f24_, AV.le_refl _⟩⟩, trivial⟩, rfl, ?_⟩
  first | exact (intX_sg b n (bl_bp (by simp [*, digs_pos'])).symm).symm | exact (intX_sg b n (by simp [*])).symm

theorem c_xNat (x : Int) : ECalls cx 28 [intX x] (.sl 1 (ns .u64 (Mw.digs x.natAbs))) := by
 refine ecalls_of_awp Try.func28 (c := _) rfl (Nat.le_of_ble_eq_true rfl) ?_
 show awp cx 5 _ (postF cx Try.f28 _) ⟨[(0, intX x)], []⟩
 refine awp_seq fun K0 hK0 => awp_region rfl ?_
 refine o_box 2 [bp (x < 0), .sl 1 (ns .u64 (Mw.digs x.natAbs))] gn rfl rfl ?_
 refine o_as Zv rfl (aops_end (hK0 _ (awp_seq fun K1 hK1 => awp_region rfl ?_)))
 refine o_fieldRef 1 gn f25_ rfl rfl ?_
 refine o_loadS (.sl 1 (ns .u64 (Mw.digs x.natAbs))) gn f26_ rfl rfl rfl ?_
 refine o_as (.sl 1 (ns .u64 (Mw.digs x.natAbs))) rfl (aops_end (hK1 _ ?_))
 refine awp_ret ?_
 refine post_ret ⟨[.sl 1 (ns .u64 (Mw.digs x.natAbs))], ⟨AV.le_refl _, trivial⟩, rfl, ?_⟩
 rfl

theorem c_xIPlus (x y : Int) (hx : (Mw.digs x.natAbs).length ≤ 1000000) (hy : (Mw.digs y.natAbs).length ≤ 1000000) : ECalls cx 68 [intX x, intX y] (intX (x + y)) := by
 refine ecalls_of_awp Try.func68 (c := _) rfl (Nat.le_of_ble_eq_true rfl) ?_
 show awp cx 42 _ (postF cx Try.f68 _) ⟨[(0, intX x), (1, intX y)], []⟩
 refine awp_seq fun K0 hK0 => awp_region rfl ?_
 refine o_box 2 [bp (x < 0), .sl 1 (ns .u64 (Mw.digs x.natAbs))] gn rfl rfl ?_
 refine o_box 3 [bp (y < 0), .sl 1 (ns .u64 (Mw.digs y.natAbs))] gn rfl rfl ?_
 refine o_alloc 4 [Fv, Zv] gn f21_ rfl rfl rfl ?_
 refine aops_end (hK0 _ (awp_seq fun K1 hK1 => ?_))
 refine awp_block ?_
 refine awp_seq fun K2 hK2 => awp_region rfl ?_
 refine o_fieldRef 0 gn f27_ rfl rfl ?_
 refine o_loadS (bp (x < 0)) gn f28_ rfl rfl rfl ?_
 refine o_fieldRef 0 gn f27_ rfl rfl ?_
 refine o_loadS (bp (y < 0)) gn f28_ rfl rfl rfl ?_
 refine o_eqlB (a := (decide (x < 0))) (c := (decide (y < 0))) gn rfl rfl f29_ ?_
 refine o_as (bp ((decide (x < 0)) = (decide (y < 0)))) rfl (aops_end (hK2 _ ?_))
 refine awp_condQ (q := (decide (x < 0)) = (decide (y < 0))) rfl (fun h1 => ?_) (fun h1 => ?_)
 ·refine awp_seq fun K3 hK3 => awp_regionD rfl ?_
  refine o_fieldRef 0 gn f27_ rfl rfl ?_
  refine o_loadS (bp (x < 0)) gn f28_ rfl rfl rfl ?_
  refine o_fieldRef 1 gn f25_ rfl rfl ?_
  refine o_loadS (.sl 1 (ns .u64 (Mw.digs x.natAbs))) gn f26_ rfl rfl rfl ?_
  refine o_fieldRef 1 gn f25_ rfl rfl ?_
  refine o_loadS (.sl 1 (ns .u64 (Mw.digs y.natAbs))) gn f26_ rfl rfl rfl ?_
  refine o_ct (c_xPlus (x.natAbs) (y.natAbs) (by first | omega | assumption) (by first | omega | assumption)) gn f30_ rfl ?_
  refine o_ct (c_xMade (decide (x < 0)) (x.natAbs + y.natAbs)) gn f31_ rfl ?_
  refine o_store [(4, .var 63 [bp ((sg (decide (x < 0)) (x.natAbs + y.natAbs)) < 0), .sl 1 (ns .u64 (Mw.digs (sg (decide (x < 0)) (x.natAbs + y.natAbs)).natAbs))]), (3, .var 63 [bp (y < 0), .sl 1 (ns .u64 (Mw.digs y.natAbs))]), (2, .var 63 [bp (x < 0), .sl 1 (ns .u64 (Mw.digs x.natAbs))])] gn f23_ rfl rfl rfl rfl rfl rfl ?_
  refine aops_end ⟨by kernel_rfl, ?_⟩
  refine hK3 _ ?_
  refine awp_ret ?_
  refine post_ret ⟨[.agg [bp ((sg (decide (x < 0)) (x.natAbs + y.natAbs)) < 0), .sl 1 (ns .u64 (Mw.digs (sg (decide (x < 0)) (x.natAbs + y.natAbs)).natAbs))]], ⟨⟨4, .var 63 [bp ((sg (decide (x < 0)) (x.natAbs + y.natAbs)) < 0), .sl 1 (ns .u64 (Mw.digs (sg (decide (x < 0)) (x.natAbs + y.natAbs)).natAbs))], rfl, rfl, rfl, Or.inl ⟨f24_, AV.le_refl _⟩⟩, trivial⟩, rfl, ?_⟩
  exact congrArg intX (sg_add h1)
 ·refine awp_seq fun K4 hK4 => awp_region rfl ?_
  refine o_fieldRef 1 gn f25_ rfl rfl ?_
  refine o_loadS (.sl 1 (ns .u64 (Mw.digs x.natAbs))) gn f26_ rfl rfl rfl ?_
  refine o_fieldRef 1 gn f25_ rfl rfl ?_
  refine o_loadS (.sl 1 (ns .u64 (Mw.digs y.natAbs))) gn f26_ rfl rfl rfl ?_
  refine o_ct (c_xCmp (x.natAbs) (y.natAbs) (by first | omega | assumption) (by first | omega | assumption)) gn f32_ rfl ?_
  refine o_lss (a := (cmpN (x.natAbs) (y.natAbs))) (c := ((0 : Nat) : Int)) gn rfl rfl ?_
  refine o_as (bp ((cmpN (x.natAbs) (y.natAbs)) < ((0 : Nat) : Int))) rfl (aops_end (hK4 _ ?_))
  refine awp_condQ (q := (cmpN (x.natAbs) (y.natAbs)) < ((0 : Nat) : Int)) rfl (fun h2 => ?_) (fun h2 => ?_)
  ·have hc : x.natAbs ≤ y.natAbs := cmpN_ng (by omega)
   refine awp_seq fun K5 hK5 => awp_regionD rfl ?_
   refine o_fieldRef 0 gn f27_ rfl rfl ?_
   refine o_loadS (bp (y < 0)) gn f28_ rfl rfl rfl ?_
   refine o_fieldRef 1 gn f25_ rfl rfl ?_
   refine o_loadS (.sl 1 (ns .u64 (Mw.digs y.natAbs))) gn f26_ rfl rfl rfl ?_
   refine o_fieldRef 1 gn f25_ rfl rfl ?_
   refine o_loadS (.sl 1 (ns .u64 (Mw.digs x.natAbs))) gn f26_ rfl rfl rfl ?_
   refine o_ct (c_xMinus (y.natAbs) (x.natAbs) (by omega) (by first | omega | assumption) (by first | omega | assumption)) gn f33_ rfl ?_
   refine o_ct (c_xMade (decide (y < 0)) (y.natAbs - (x.natAbs))) gn f31_ rfl ?_
   refine o_store [(4, .var 63 [bp ((sg (decide (y < 0)) (y.natAbs - (x.natAbs))) < 0), .sl 1 (ns .u64 (Mw.digs (sg (decide (y < 0)) (y.natAbs - (x.natAbs))).natAbs))]), (3, .var 63 [bp (y < 0), .sl 1 (ns .u64 (Mw.digs y.natAbs))]), (2, .var 63 [bp (x < 0), .sl 1 (ns .u64 (Mw.digs x.natAbs))])] gn f23_ rfl rfl rfl rfl rfl rfl ?_
   refine aops_end ⟨by kernel_rfl, ?_⟩
   refine hK5 _ ?_
   refine awp_ret ?_
   refine post_ret ⟨[.agg [bp ((sg (decide (y < 0)) (y.natAbs - (x.natAbs))) < 0), .sl 1 (ns .u64 (Mw.digs (sg (decide (y < 0)) (y.natAbs - (x.natAbs))).natAbs))]], ⟨⟨4, .var 63 [bp ((sg (decide (y < 0)) (y.natAbs - (x.natAbs))) < 0), .sl 1 (ns .u64 (Mw.digs (sg (decide (y < 0)) (y.natAbs - (x.natAbs))).natAbs))], rfl, rfl, rfl, Or.inl ⟨f24_, AV.le_refl _⟩⟩, trivial⟩, rfl, ?_⟩
   exact congrArg intX (sg_sub2 h1 hc)
  ·have hc := cmpN_ge (by omega : (0 : Int) ≤ cmpN x.natAbs y.natAbs)
   refine awp_skip (hK1 _ (awp_seq fun K6 hK6 => awp_regionD rfl ?_))
   refine o_fieldRef 0 gn f27_ rfl rfl ?_
   refine o_loadS (bp (x < 0)) gn f28_ rfl rfl rfl ?_
   refine o_fieldRef 1 gn f25_ rfl rfl ?_
   refine o_loadS (.sl 1 (ns .u64 (Mw.digs x.natAbs))) gn f26_ rfl rfl rfl ?_
   refine o_fieldRef 1 gn f25_ rfl rfl ?_
   refine o_loadS (.sl 1 (ns .u64 (Mw.digs y.natAbs))) gn f26_ rfl rfl rfl ?_
   refine o_ct (c_xMinus (x.natAbs) (y.natAbs) (by omega) (by first | omega | assumption) (by first | omega | assumption)) gn f33_ rfl ?_
   refine o_ct (c_xMade (decide (x < 0)) (x.natAbs - (y.natAbs))) gn f31_ rfl ?_
   refine o_store [(4, .var 63 [bp ((sg (decide (x < 0)) (x.natAbs - (y.natAbs))) < 0), .sl 1 (ns .u64 (Mw.digs (sg (decide (x < 0)) (x.natAbs - (y.natAbs))).natAbs))]), (3, .var 63 [bp (y < 0), .sl 1 (ns .u64 (Mw.digs y.natAbs))]), (2, .var 63 [bp (x < 0), .sl 1 (ns .u64 (Mw.digs x.natAbs))])] gn f23_ rfl rfl rfl rfl rfl rfl ?_
   refine aops_end ⟨by kernel_rfl, ?_⟩
   refine hK6 _ ?_
   refine awp_ret ?_
   refine post_ret ⟨[.agg [bp ((sg (decide (x < 0)) (x.natAbs - (y.natAbs))) < 0), .sl 1 (ns .u64 (Mw.digs (sg (decide (x < 0)) (x.natAbs - (y.natAbs))).natAbs))]], ⟨⟨4, .var 63 [bp ((sg (decide (x < 0)) (x.natAbs - (y.natAbs))) < 0), .sl 1 (ns .u64 (Mw.digs (sg (decide (x < 0)) (x.natAbs - (y.natAbs))).natAbs))], rfl, rfl, rfl, Or.inl ⟨f24_, AV.le_refl _⟩⟩, trivial⟩, rfl, ?_⟩
   exact congrArg intX (sg_sub1 h1 hc)

end Go.Proofs.Ytaeknciienkijaa

namespace Go.Proofs.Ytaeknciienkijaa
open Go Go.Ab Go.Mth
theorem f34_ : tyInt cx.P 73 = some .u64 := by kernel_rfl
theorem f35_ : callable cx.P 68 = true := by kernel_rfl
theorem f36_ : callable cx.P 61 = true := by kernel_rfl
theorem f37_ : cx.P.underlying 9 = some .string := by kernel_rfl
theorem f38_ : tyInt cx.P 5 = some .u8 := by kernel_rfl
theorem c_xSmall0  : ECalls cx 48 [Nv 0] (intX 0) := by
 refine ecalls_of_awp Try.func48 (c := _) rfl (Nat.le_of_ble_eq_true rfl) ?_
 show awp cx 14 _ (postF cx Try.f48 _) ⟨[(0, Nv 0)], []⟩
 refine awp_seq fun K0 hK0 => awp_region rfl ?_
 refine o_alloc 2 [Fv, Zv] gn f21_ rfl rfl rfl ?_
 refine aops_end (hK0 _ (awp_seq fun K1 hK1 => awp_seq fun K2 hK2 => awp_region rfl (o_mv (Nv 0) rfl ?_)))
 refine n_lss 0 0 gn rfl rfl ?_
 refine n_as (v' := Fv) (by exact bp6n (by decide)) ?_
 refine aops_end (hK2 _ ?_)
 refine awp_condB (b := false) rfl (fun hh => absurd (hh.symm.trans rfl) (by decide)) (fun _ => ?_)
 refine awp_skip (hK1 _ (awp_seq fun K3 hK3 => awp_region rfl (o_mv (Nv 0) rfl ?_)))
 refine n_conv 0 gn rfl f18_ f34_ (by simp only [topOf]; omega) ?_
 refine o_ct (c_xOf 0 (by first | omega | assumption)) gn f15_ rfl ?_
 refine o_ct (c_xMade false 0) gn f31_ rfl ?_
 refine o_store [(2, .var 63 [bp ((sg false 0) < 0), .sl 1 (ns .u64 (Mw.digs (sg false 0).natAbs))])] gn f23_ rfl rfl rfl rfl rfl rfl ?_
 refine aops_end (hK3 _ ?_)
 refine awp_ret ?_
 refine post_ret ⟨[.agg [bp ((sg false 0) < 0), .sl 1 (ns .u64 (Mw.digs (sg false 0).natAbs))]], ⟨⟨2, .var 63 [bp ((sg false 0) < 0), .sl 1 (ns .u64 (Mw.digs (sg false 0).natAbs))], rfl, rfl, rfl, Or.inl ⟨f24_, AV.le_refl _⟩⟩, trivial⟩, rfl, ?_⟩
 rfl

theorem c_xLess (x y : Int) (hx : (Mw.digs x.natAbs).length ≤ 1000000) (hy : (Mw.digs y.natAbs).length ≤ 1000000) : ECalls cx 61 [intX x, intX y] (intX (x - y)) := by
 refine ecalls_of_awp Try.func61 (c := _) rfl (Nat.le_of_ble_eq_true rfl) ?_
 show awp cx 13 _ (postF cx Try.f61 _) ⟨[(0, intX x), (1, intX y)], []⟩
 have hny : (Mw.digs (-(y)).natAbs).length ≤ 1000000 := by rw [Int.natAbs_neg]; exact hy
 refine awp_seq fun K0 hK0 => awp_region rfl ?_
 refine o_box 2 [bp (x < 0), .sl 1 (ns .u64 (Mw.digs x.natAbs))] gn rfl rfl ?_
 refine o_box 3 [bp (y < 0), .sl 1 (ns .u64 (Mw.digs y.natAbs))] gn rfl rfl ?_
 refine o_alloc 4 [Fv, Zv] gn f21_ rfl rfl rfl ?_
 refine aops_end (hK0 _ (awp_seq fun K1 hK1 => awp_regionD rfl ?_))
 refine o_loadA [bp (x < 0), .sl 1 (ns .u64 (Mw.digs x.natAbs))] gn f24_ rfl rfl rfl rfl rfl ?_
 refine o_fieldRef 0 gn f27_ rfl rfl ?_
 refine o_loadS (bp (y < 0)) gn f28_ rfl rfl rfl ?_
 refine o_notP (q := y < 0) gn rfl ?_
 refine o_fieldRef 1 gn f25_ rfl rfl ?_
 refine o_loadS (.sl 1 (ns .u64 (Mw.digs y.natAbs))) gn f26_ rfl rfl rfl ?_
 refine o_ct (c_xMade (decide (¬ (y < 0))) (y.natAbs)) gn f31_ rfl ?_
 refine n_as (v' := (intX (-(y)))) (by exact congrArg intX (neg_sg y)) ?_
 refine o_ct (c_xIPlus x (-(y)) (by first | omega | assumption) (by first | omega | assumption)) gn f35_ rfl ?_
 refine o_store [(4, .var 63 [bp ((x + (-(y))) < 0), .sl 1 (ns .u64 (Mw.digs (x + (-(y))).natAbs))]), (3, .var 63 [bp (y < 0), .sl 1 (ns .u64 (Mw.digs y.natAbs))]), (2, .var 63 [bp (x < 0), .sl 1 (ns .u64 (Mw.digs x.natAbs))])] gn f23_ rfl rfl rfl rfl rfl rfl ?_
 refine aops_end ⟨by kernel_rfl, ?_⟩
 refine hK1 _ ?_
 refine awp_ret ?_
 refine post_ret ⟨[.agg [bp ((x + (-(y))) < 0), .sl 1 (ns .u64 (Mw.digs (x + (-(y))).natAbs))]], ⟨⟨4, .var 63 [bp ((x + (-(y))) < 0), .sl 1 (ns .u64 (Mw.digs (x + (-(y))).natAbs))], rfl, rfl, rfl, Or.inl ⟨f24_, AV.le_refl _⟩⟩, trivial⟩, rfl, ?_⟩
 exact congrArg intX Int.sub_eq_add_neg

theorem c_xICmp (x y : Int) (hx : (Mw.digs x.natAbs).length ≤ 1000000) (hy : (Mw.digs y.natAbs).length ≤ 1000000) : ECalls cx 47 [intX x, intX y] (.lit (.int .i64 (cmpZ x y))) := by
 refine ecalls_of_awp Try.func47 (c := _) rfl (Nat.le_of_ble_eq_true rfl) ?_
 show awp cx 17 _ (postF cx Try.f47 _) ⟨[(0, intX x), (1, intX y)], []⟩
 refine awp_seq fun K0 hK0 => awp_region rfl ?_
 refine o_box 2 [bp (x < 0), .sl 1 (ns .u64 (Mw.digs x.natAbs))] gn rfl rfl ?_
 refine o_box 3 [bp (y < 0), .sl 1 (ns .u64 (Mw.digs y.natAbs))] gn rfl rfl ?_
 refine o_as (Nv 0) rfl (aops_end (hK0 _ (awp_seq fun K1 hK1 => awp_seq fun K2 hK2 => awp_region rfl ?_)))
 refine o_loadA [bp (x < 0), .sl 1 (ns .u64 (Mw.digs x.natAbs))] gn f24_ rfl rfl rfl rfl rfl ?_
 refine o_loadA [bp (y < 0), .sl 1 (ns .u64 (Mw.digs y.natAbs))] gn f24_ rfl rfl rfl rfl rfl ?_
 refine o_ct (c_xLess x y (by first | omega | assumption) (by first | omega | assumption)) gn f36_ rfl ?_
 refine o_alloc 4 [Fv, Zv] gn f21_ rfl rfl rfl ?_
 refine o_store [(4, .var 63 [bp ((x - y) < 0), .sl 1 (ns .u64 (Mw.digs (x - y).natAbs))]), (3, .var 63 [bp (y < 0), .sl 1 (ns .u64 (Mw.digs y.natAbs))]), (2, .var 63 [bp (x < 0), .sl 1 (ns .u64 (Mw.digs x.natAbs))])] gn f23_ rfl rfl rfl rfl rfl rfl ?_
 refine aops_end (hK2 _ ?_)
 refine awp_block ?_
 refine awp_seq fun K3 hK3 => awp_region rfl ?_
 refine o_fieldRef 0 gn f27_ rfl rfl ?_
 refine o_loadS (bp ((x - y) < 0)) gn f28_ rfl rfl rfl ?_
 refine o_as (bp ((x - y) < 0)) rfl (aops_end (hK3 _ ?_))
 refine awp_condQ (q := (x - y) < 0) rfl (fun h1 => ?_) (fun h1 => ?_)
 ·refine awp_seq fun K4 hK4 => awp_region rfl (o_as (Iv (-1)) rfl (aops_end (hK4 _ ?_)))
  refine awp_ret ?_
  refine post_ret ⟨[Iv (-1)], ⟨AV.le_refl _, trivial⟩, rfl, ?_⟩
  exact congrArg (fun z => AV.lit (.int .i64 z)) (icmp_1 h1)
 ·refine awp_seq fun K5 hK5 => awp_region rfl ?_
  refine o_fieldRef 1 gn f25_ rfl rfl ?_
  refine o_loadS (.sl 1 (ns .u64 (Mw.digs (x - y).natAbs))) gn f26_ rfl rfl rfl ?_
  refine n_len (Mw.digs (x - y).natAbs) gn f0_ rfl ?_
  refine n_gtr ((Mw.digs (x - y).natAbs).length) 0 gn rfl rfl ?_
  refine o_as (bp (0 < ((Mw.digs (x - y).natAbs).length))) rfl (aops_end (hK5 _ ?_))
  refine awp_condQ (q := 0 < ((Mw.digs (x - y).natAbs).length)) rfl (fun h2 => ?_) (fun h2 => ?_)
  ·refine awp_seq fun K6 hK6 => awp_region rfl (o_as (Nv 1) rfl (aops_end (hK6 _ ?_)))
   refine awp_ret ?_
   refine post_ret ⟨[Nv 1], ⟨AV.le_refl _, trivial⟩, rfl, ?_⟩
   exact congrArg (fun z => AV.lit (.int .i64 z)) (icmp_2 h1 h2)
  ·refine awp_skip (hK1 _ (awp_seq fun K7 hK7 => awp_region rfl (o_as (Nv 0) rfl (aops_end (hK7 _ ?_)))))
   refine awp_ret ?_
   refine post_ret ⟨[Nv 0], ⟨AV.le_refl _, trivial⟩, rfl, ?_⟩
   exact congrArg (fun z => AV.lit (.int .i64 z)) (icmp_3 h2)

theorem c_xRead (a : ByteArray) (hs : a.size ≤ 10000) (hdg : ∀ i, i < a.size → 48 ≤ byt a i ∧ byt a i ≤ 57) : ECalls cx 53 [Sv a] (.sl 1 (ns .u64 (Mw.digs (dvk a 0 a.size)))) := by
 refine ecalls_of_awp Try.func53 (c := _) rfl (Nat.le_of_ble_eq_true rfl) ?_
 show awp cx 22 _ (postF cx Try.f53 _) ⟨[(0, Sv a)], []⟩
 refine awp_seq fun K0 hK0 => awp_region rfl (o_as Zv rfl (aops_end (hK0 _ (awp_seq fun K1 hK1 => awp_region rfl (o_as Zv rfl (aops_end (hK1 _ (awp_seq fun K2 hK2 => awp_seq fun K3 hK3 => ?_))))))))
 refine awp_region rfl (o_mv (Sv a) rfl ?_)
 refine n_lenS a gn rfl f37_ ?_
 refine o_mv (Nv 0) rfl (aops_end (hK3 _ ?_))
 refine awp_block ?_
 refine awp_loopR (fun κ σ => ∃ (i : Nat), (i ≤ a.size) ∧ (a.size - i) = κ ∧ σ = ⟨[(0, Sv a), (3, .sl 1 (ns .u64 (Mw.digs (dvk a 0 i)))), (6, Nv a.size), (7, Nv i)], []⟩) ⟨_, _, ⟨0, Nat.zero_le _, rfl, rfl⟩, ?wk0⟩ ?rd0
 case wk0 =>
  exact Wk.trans (Wk.slot (i := 3) (y := (.sl 1 (ns .u64 ([])))) (AV.le_nil' (by decide) rfl)) (Wk.sub ⟨rfl, (by first | rfl | (first | rfl | exact ns_congr (by rw [show dvk a 0 0 = 0 from rfl, Mw.digs_zero]))), (by first | rfl | exact nm_int (by omega)), (by first | rfl | exact nm_int (by omega)), trivial⟩ trivial)
 rintro κ _ ⟨i, hi, rfl, rfl⟩
 have hrl := read_len hdg hi
 have hten : (Mw.digs 10).length ≤ 1000000 := Nat.le_trans (Mw.digs_len_of_lt (k := 1) (by decide)) (by decide)
 refine awp_seq fun K4 hK4 => awp_region rfl ?_
 refine n_lss i a.size gn rfl rfl ?_
 refine aops_end (hK4 _ (awp_seq fun K5 hK5 => ?_))
 refine awp_condQ (q := i < a.size) rfl (fun h1 => ?_) (fun h1 => ?_)
 ·have hby := hdg i (by omega)
  have hb1 : (Mw.digs (byt a i - 48)).length ≤ 1000000 := Nat.le_trans (Mw.digs_len_of_lt (k := 1) (by omega)) (by decide)
  have hm1 : (Mw.digs (dvk a 0 i * 10)).length ≤ 1000000 := Nat.le_trans (read_mul (dvk a 0 i)) (by omega)
  refine awp_skip (hK5 _ (awp_seq fun K6 hK6 => ?_))
  refine awp_block ?_
  refine awp_seq fun K7 hK7 => awp_region rfl (o_mv (Nv i) rfl (o_as (Nv i) rfl (aops_end (hK7 _ (awp_regionD rfl (o_mv (.sl 1 (ns .u64 (Mw.digs (dvk a 0 i)))) rfl ?_))))))
  refine o_ct (c_xOf 10 (by first | omega | assumption)) gn f15_ rfl ?_
  refine o_ct (c_xTimes (dvk a 0 i) 10 (by first | omega | assumption) (by first | omega | assumption)) gn f16_ rfl ?_
  refine o_mv (Sv a) rfl (o_mv (Nv i) rfl ?_)
  refine n_indexS a i gn f37_ rfl rfl (by omega) ?_
  refine n_sub (byt a i) 48 gn rfl rfl (by omega) (by simp only [topOf]; omega) ?_
  refine n_conv ((byt a i) - 48) gn rfl f38_ f34_ (by simp only [topOf]; omega) ?_
  refine o_ct (c_xOf ((byt a i) - 48) (by first | omega | assumption)) gn f15_ rfl ?_
  refine o_ct (c_xPlus (dvk a 0 i * 10) ((byt a i) - 48) (by first | omega | assumption) (by first | omega | assumption)) gn f30_ rfl ?_
  refine n_as (v' := (.sl 1 (ns .u64 (Mw.digs (dvk a 0 (i + 1)))))) (by exact ns_congr (by rw [← read_next])) ?_
  refine o_as (.sl 1 (ns .u64 (Mw.digs (dvk a 0 (i + 1))))) rfl ?_
  refine aops_end ⟨by kernel_rfl, ?_⟩
  refine hK6 _ (awp_region rfl ?_)
  refine n_add i 1 gn rfl rfl (by simp only [topOf]; omega) ?_
  refine o_mv (Nv (i + 1)) rfl (aops_end ?_)
  refine ⟨_, _, ?lt, ⟨i + 1, (by omega), rfl, rfl⟩, ?wk⟩
  case lt => omega
  case wk => exact Wk.sub ⟨rfl, (by first | rfl | (first | rfl | exact ns_congr (by rw [show dvk a 0 0 = 0 from rfl, Mw.digs_zero]))), rfl, (by first | rfl | exact nm_int (by omega)), trivial⟩ trivial
 ·refine awp_exit ?_
  refine hK2 _ (awp_seq fun K8 hK8 => awp_region rfl (o_mv (.sl 1 (ns .u64 (Mw.digs (dvk a 0 i)))) rfl (o_as (.sl 1 (ns .u64 (Mw.digs (dvk a 0 i)))) rfl (aops_end (hK8 _ ?_)))))
  refine awp_ret ?_
  refine post_ret ⟨[.sl 1 (ns .u64 (Mw.digs (dvk a 0 i)))], ⟨AV.le_refl _, trivial⟩, rfl, ?_⟩
  exact ns_congr (by rw [show i = a.size by omega])

end Go.Proofs.Ytaeknciienkijaa

namespace Go.Mth
open Go.Ab
def bv : List Nat → Nat := fun l => l.foldl (fun v b => 10 * v + (b - 48)) 0
theorem bv_snoc (l : List Nat) (b : Nat) : bv (l ++ [b]) = 10 * bv l + (b - 48) := by simp [bv]
def DigB (l : List Nat) : Prop := ∀ x ∈ l, 48 ≤ x ∧ x ≤ 57
theorem decs_digB (n : Nat) : DigB (decs n) := by
 induction n using Nat.strongRecOn with
 | _ n ih =>
  by_cases h : n = 0
  ·subst h; rw [decs_zero]; intro x hx; cases hx
  ·rw [decs_pos (by omega)]
   intro x hx
   rcases List.mem_cons.1 hx with e | e
   ·omega
   ·exact ih (n / 10) (by omega) x e
theorem bv_decs (n : Nat) : bv (decs n).reverse = n := by
 induction n using Nat.strongRecOn with
 | _ n ih =>
  by_cases h : n = 0
  ·subst h; rw [decs_zero]; rfl
  ·rw [decs_pos (by omega), List.reverse_cons, bv_snoc, ih (n / 10) (by omega)]
   omega
theorem decs_last {n : Nat} (h : 0 < n) : ∃ l b, decs n = l ++ [b] ∧ b ≠ 48 := by
 induction n using Nat.strongRecOn with
 | _ n ih =>
  rw [decs_pos h]
  by_cases h10 : n / 10 = 0
  ·rw [h10, decs_zero]
   exact ⟨[], _, rfl, by omega⟩
  ·obtain ⟨l, b, e, hb⟩ := ih (n / 10) (by omega) (by omega)
   exact ⟨_ :: l, b, by rw [e]; rfl, hb⟩
theorem dvk_bv {a : ByteArray} {s : Nat} : ∀ {k : Nat}, s + k ≤ a.size → dvk a s k = bv (((byts a).drop s).take k)
 | 0, _ => by simp [dvk, bv]
 | k + 1, h => by
  have hl : s + k < (byts a).length := by rw [byts_len]; omega
  have e : ((byts a).drop s).take (k + 1) = ((byts a).drop s).take k ++ [(byts a).getD (s + k) 0] := by
   rw [List.take_add_one, List.getElem?_drop, List.getElem?_eq_getElem hl, List.getD_eq_getElem?_getD, List.getElem?_eq_getElem hl]
   rfl
  rw [dvk, dvk_bv (k := k) (by omega), e, bv_snoc, byt_byts]
theorem dvk_all {a : ByteArray} {s : Nat} (h : s ≤ a.size) : dvk a s (a.size - s) = bv ((byts a).drop s) := by
 rw [dvk_bv (by omega), List.take_of_length_le (by rw [List.length_drop, byts_len]; omega)]
theorem txt_len (z : Int) : (txt z).size = (txtL z).length := by rw [← byts_txt, byts_len]
theorem byt_txt (z : Int) (i : Nat) : byt (txt z) i = (txtL z).getD i 0 := by rw [byt_byts, byts_txt]
theorem txtL_pos {z : Int} (h : 0 < z) : txtL z = (decs z.natAbs).reverse := by unfold txtL; rw [if_neg (by omega), if_neg (by omega)]; rfl
theorem txtL_neg {z : Int} (h : z < 0) : txtL z = 45 :: (decs z.natAbs).reverse := by unfold txtL; rw [if_neg (by omega), if_pos h]; rfl
theorem decs_ne {n : Nat} (h : 0 < n) : 0 < (decs n).length := by rw [decs_pos h]; simp
theorem rev_head {n : Nat} (h : 0 < n) : 48 ≤ (decs n).reverse.getD 0 0 ∧ (decs n).reverse.getD 0 0 ≤ 57 ∧ (decs n).reverse.getD 0 0 ≠ 48 := by
 obtain ⟨l, b, e, hb⟩ := decs_last h
 have hd := decs_digB n b (by rw [e]; simp)
 rw [e]
 simp only [List.reverse_append, List.reverse_cons, List.reverse_nil, List.nil_append, List.cons_append, List.getD_cons_zero]
 exact ⟨hd.1, hd.2, hb⟩
theorem sgnAt_txt (z : Int) : sgnAt (txt z) = if z < 0 then 1 else 0 := by
 unfold sgnAt
 rw [byt_txt]
 by_cases hz : z < 0
 ·rw [txtL_neg hz, if_pos hz]; rfl
 ·rw [if_neg hz]
  by_cases h0 : z = 0
  ·subst h0; rfl
  ·rw [txtL_pos (by omega)]
   have := rev_head (n := z.natAbs) (by omega)
   rw [if_neg (by omega)]
theorem numS_txt (z : Int) : numS (txt z) = z := by
 unfold numS
 rw [sgnAt_txt]
 by_cases hz : z < 0
 ·rw [if_pos hz]
  have hb : byt (txt z) 0 = 45 := by rw [byt_txt, txtL_neg hz]; rfl
  rw [hb, dvk_all (by rw [txt_len, txtL_neg hz]; simp), byts_txt, txtL_neg hz, List.drop_succ_cons, List.drop_zero, bv_decs]
  simp only [sg, decide_true, if_true]
  omega
 ·rw [if_neg hz]
  have hb : ¬ byt (txt z) 0 = 45 := by
   intro h
   have := sgnAt_txt z
   unfold sgnAt at this
   rw [if_pos h, if_neg hz] at this
   cases this
  rw [decide_eq_false hb, dvk_all (by omega), byts_txt, List.drop_zero]
  by_cases h0 : z = 0
  ·subst h0; rfl
  ·rw [txtL_pos (by omega), bv_decs]
   simp only [sg, Bool.false_eq_true, if_false]
   omega
theorem okS_txt {z : Int} (hf : Fit z) : OkS (txt z) := by
 have hs := sgnAt_txt z
 by_cases hz : z < 0
 ·rw [if_pos hz] at hs
  have hn : ndig z.natAbs = (decs z.natAbs).length := by unfold ndig; rw [if_neg (by omega)]
  unfold Fit at hf
  have hp := decs_ne (n := z.natAbs) (by omega)
  have hh := rev_head (n := z.natAbs) (by omega)
  refine ⟨by rw [hs, txt_len, txtL_neg hz]; simp; omega, by rw [hs, txt_len, txtL_neg hz]; simp; omega, fun h => ?_, fun i h1 h2 => ?_⟩
  ·rw [hs, byt_txt, txtL_neg hz, List.getD_cons_succ] at h
   exact hh.2.2 h.1
  ·rw [hs] at h1
   rw [txt_len, txtL_neg hz] at h2
   rw [byt_txt, txtL_neg hz]
   obtain ⟨j, rfl⟩ : ∃ j, i = j + 1 := ⟨i - 1, by omega⟩
   rw [List.getD_cons_succ]
   have hj : j < (decs z.natAbs).reverse.length := by simpa using h2
   rw [List.getD_eq_getElem?_getD, List.getElem?_eq_getElem hj]
   exact decs_digB _ _ (List.mem_reverse.1 (List.getElem_mem hj))
 ·rw [if_neg hz] at hs
  by_cases h0 : z = 0
  ·subst h0
   refine ⟨by rw [hs]; decide, by rw [hs]; decide, by rw [hs]; decide, fun i h1 h2 => ?_⟩
   have : i = 0 := by rw [txt_zero] at h2; simp [ByteArray.size] at h2; omega
   subst this
   rw [txt_zero]
   decide
  ·have hn : ndig z.natAbs = (decs z.natAbs).length := by unfold ndig; rw [if_neg (by omega)]
   unfold Fit at hf
   have hp := decs_ne (n := z.natAbs) (by omega)
   have hh := rev_head (n := z.natAbs) (by omega)
   refine ⟨by rw [hs, txt_len, txtL_pos (by omega)]; simpa using hp, by rw [hs, txt_len, txtL_pos (by omega)]; simp; omega, fun h => ?_, fun i h1 h2 => ?_⟩
   ·rw [hs, byt_txt, txtL_pos (by omega)] at h
    exact hh.2.2 h.1
   ·rw [txt_len, txtL_pos (by omega)] at h2
    rw [byt_txt, txtL_pos (by omega), List.getD_eq_getElem?_getD, List.getElem?_eq_getElem h2]
    exact decs_digB _ _ (List.mem_reverse.1 (List.getElem_mem h2))
end Go.Mth

namespace Go.Ab
open Go.Mth
def KinB (q c : Int) : Prop := 3 ≤ q ∧ q ≤ 999 ∧ q % 2 = 1 ∧ 1 ≤ c ∧ c ≤ 999999 ∧ c % 2 = 1
instance (q c : Int) : Decidable (KinB q c) := inferInstanceAs (Decidable (3 ≤ q ∧ q ≤ 999 ∧ q % 2 = 1 ∧ 1 ≤ c ∧ c ≤ 999999 ∧ c % 2 = 1))
def cutB (a : ByteArray) : Bool := Lib.hasPrefix a.data.toList [45]
def cutS (a : ByteArray) : ByteArray := ⟨(Lib.trimPrefix a.data.toList [45]).toArray⟩
theorem cutB_is {a : ByteArray} : cutB a = decide (byt a 0 = 45) := by
 unfold cutB Lib.hasPrefix byt
 cases h : a.data.toList with
 | nil => rfl
 | cons x l =>
  simp only [List.isPrefixOf, List.getD_cons_zero, Bool.and_true]
  by_cases e : x = 45
  ·subst e; rfl
  ·have : ¬ x.toNat = 45 := fun q => e (UInt8.toNat_inj.1 q)
   simp [this]
   exact fun q => e q.symm
theorem cut_drop (a : ByteArray) : (cutS a).data.toList = a.data.toList.drop (sgnAt a) := by
 have h := cutB_is (a := a)
 unfold cutB at h
 unfold cutS Lib.trimPrefix sgnAt
 rw [h]
 by_cases e : byt a 0 = 45
 ·simp [e]
 ·simp [e]
theorem cut_size (a : ByteArray) : (cutS a).size = a.size - sgnAt a := by
 have h := congrArg List.length (cut_drop a)
 rw [List.length_drop] at h
 exact h
theorem cut_byt (a : ByteArray) (i : Nat) : byt (cutS a) i = byt a (sgnAt a + i) := by
 unfold byt
 rw [cut_drop, List.getD_eq_getElem?_getD, List.getD_eq_getElem?_getD, List.getElem?_drop]
theorem cut_ok {a : ByteArray} (h : OkS a) : (cutS a).size ≤ 10000 ∧ (∀ i, i < (cutS a).size → 48 ≤ byt (cutS a) i ∧ byt (cutS a) i ≤ 57) ∧ sg (cutB a) (dvk (cutS a) 0 (cutS a).size) = numS a := by
 have hs := cut_size a
 refine ⟨by have := h.2.1; omega, fun i hi => ?_, ?_⟩
 ·rw [cut_byt]
  exact h.2.2.2 _ (by omega) (by omega)
 ·rw [cutB_is, hs]
  unfold numS
  rw [dvk_congr (a := cutS a) (b := a) (s := 0) (t := sgnAt a) fun i _ => by rw [cut_byt, Nat.zero_add]]
end Go.Ab
namespace Go.Proofs.Ytaeknciienkijaa
open Go Go.Ab Go.Mth
theorem c_cut (a : ByteArray) : ECalls cx 51 [.lit (.string a), .lit (.string { data := #[45] })] (.tup [.lit (.string (cutS a)), .lit (.bool (cutB a))]) :=
 ecalls_same (vs := [.string a, .string { data := #[45] }]) (fun H L us h => by simp only [RepL, RepV] at h; obtain ⟨v, r, rfl, rfl, v2, r2, rfl, rfl, rfl⟩ := h; rfl) (fun w => Try.strings_CutPrefix a { data := #[45] } w)
  (fun H => by simp only [RepV, RepL]; exact ⟨_, rfl, _, _, rfl, rfl, _, _, rfl, rfl, rfl⟩)
end Go.Proofs.Ytaeknciienkijaa

namespace Go.Proofs.Ytaeknciienkijaa
open Go Go.Ab Go.Mth
theorem f39_ : callable cx.P 51 = true := by kernel_rfl
theorem f40_ : callable cx.P 53 = true := by kernel_rfl
theorem c_bKin (q c : Int) : ECalls cx 33 [Iv q, Iv c] (bp (KinB q c)) := by
 refine ecalls_of_awp Try.func33 (c := _) rfl (Nat.le_of_ble_eq_true rfl) ?_
 show awp cx 29 _ (postF cx Try.f33 _) ⟨[(0, Iv q), (1, Iv c)], []⟩
 refine awp_seq fun K0 hK0 => awp_region rfl (o_as Fv rfl (aops_end (hK0 _ (awp_seq fun K1 hK1 => awp_region rfl (o_mv (Iv q) rfl ?_)))))
 refine o_geq (a := q) (c := ((3 : Nat) : Int)) gn rfl rfl ?_
 refine o_mv (bp (((3 : Nat) : Int) ≤ q)) rfl ?_
 refine o_splitP (q := ((3 : Nat) : Int) ≤ q) 7 rfl (fun h1 => ?_) (fun h1 => ?_)
 ·have tq : Int.tmod q ((2 : Nat) : Int) = q % 2 := Int.tmod_eq_emod_of_nonneg (by omega)
  refine o_move (Iv q) (Gd.yes rfl rfl (decide_eq_true h1)) rfl ?_
  refine o_leq (a := q) (c := ((999 : Nat) : Int)) (Gd.yes rfl rfl (decide_eq_true h1)) rfl rfl ?_
  refine o_pickT (bp (q ≤ ((999 : Nat) : Int))) gn rfl (decide_eq_true h1) rfl ?_
  refine o_mv (bp (q ≤ ((999 : Nat) : Int))) rfl ?_
  refine o_splitP (q := q ≤ ((999 : Nat) : Int)) 11 rfl (fun h2 => ?_) (fun h2 => ?_)
  ·refine o_move (Iv q) (Gd.yes rfl rfl (decide_eq_true h2)) rfl ?_
   refine o_remT (a := q) (c := ((2 : Nat) : Int)) (Gd.yes rfl rfl (decide_eq_true h2)) rfl rfl (by omega) ?_
   refine o_eql (a := (Int.tmod q ((2 : Nat) : Int))) (c := ((1 : Nat) : Int)) (Gd.yes rfl rfl (decide_eq_true h2)) rfl rfl ?_
   refine o_pickT (bp ((Int.tmod q ((2 : Nat) : Int)) = ((1 : Nat) : Int))) gn rfl (decide_eq_true h2) rfl ?_
   refine o_mv (bp ((Int.tmod q ((2 : Nat) : Int)) = ((1 : Nat) : Int))) rfl ?_
   refine o_splitP (q := (Int.tmod q ((2 : Nat) : Int)) = ((1 : Nat) : Int)) 16 rfl (fun h3 => ?_) (fun h3 => ?_)
   ·refine o_move (Iv c) (Gd.yes rfl rfl (decide_eq_true h3)) rfl ?_
    refine o_geq (a := c) (c := ((1 : Nat) : Int)) (Gd.yes rfl rfl (decide_eq_true h3)) rfl rfl ?_
    refine o_pickT (bp (((1 : Nat) : Int) ≤ c)) gn rfl (decide_eq_true h3) rfl ?_
    refine o_mv (bp (((1 : Nat) : Int) ≤ c)) rfl ?_
    refine o_splitP (q := ((1 : Nat) : Int) ≤ c) 20 rfl (fun h4 => ?_) (fun h4 => ?_)
    ·have tc : Int.tmod c ((2 : Nat) : Int) = c % 2 := Int.tmod_eq_emod_of_nonneg (by omega)
     refine o_move (Iv c) (Gd.yes rfl rfl (decide_eq_true h4)) rfl ?_
     refine o_leq (a := c) (c := ((999999 : Nat) : Int)) (Gd.yes rfl rfl (decide_eq_true h4)) rfl rfl ?_
     refine o_pickT (bp (c ≤ ((999999 : Nat) : Int))) gn rfl (decide_eq_true h4) rfl ?_
     refine o_mv (bp (c ≤ ((999999 : Nat) : Int))) rfl ?_
     refine o_splitP (q := c ≤ ((999999 : Nat) : Int)) 24 rfl (fun h5 => ?_) (fun h5 => ?_)
     ·refine o_move (Iv c) (Gd.yes rfl rfl (decide_eq_true h5)) rfl ?_
      refine o_remT (a := c) (c := ((2 : Nat) : Int)) (Gd.yes rfl rfl (decide_eq_true h5)) rfl rfl (by omega) ?_
      refine o_eql (a := (Int.tmod c ((2 : Nat) : Int))) (c := ((1 : Nat) : Int)) (Gd.yes rfl rfl (decide_eq_true h5)) rfl rfl ?_
      refine o_pickT (bp ((Int.tmod c ((2 : Nat) : Int)) = ((1 : Nat) : Int))) gn rfl (decide_eq_true h5) rfl ?_
      refine o_as (bp ((Int.tmod c ((2 : Nat) : Int)) = ((1 : Nat) : Int))) rfl (aops_end (hK1 _ ?_))
      refine awp_ret ?_
      refine post_ret ⟨[(bp ((Int.tmod c ((2 : Nat) : Int)) = ((1 : Nat) : Int)))], ⟨AV.le_refl _, trivial⟩, rfl, ?_⟩
      first | exact bp_congr ⟨fun e => by obtain ⟨e1, e2, e3, e4, e5, e6⟩ := e; omega, fun e => ⟨by omega, by omega, by omega, by omega, by omega, by omega⟩⟩ | exact bp6n (fun e => by obtain ⟨e1, e2, e3, e4, e5, e6⟩ := e; omega)
     ·refine o_skip rfl rfl (decide_eq_false h5) (o_skip rfl rfl (decide_eq_false h5) (o_skip rfl rfl (decide_eq_false h5) ?_))
      refine o_pickF Fv gn rfl (decide_eq_false h5) rfl ?_
      refine o_as Fv rfl (aops_end (hK1 _ ?_))
      refine awp_ret ?_
      refine post_ret ⟨[Fv], ⟨AV.le_refl _, trivial⟩, rfl, ?_⟩
      first | exact bp_congr ⟨fun e => by obtain ⟨e1, e2, e3, e4, e5, e6⟩ := e; omega, fun e => ⟨by omega, by omega, by omega, by omega, by omega, by omega⟩⟩ | exact bp6n (fun e => by obtain ⟨e1, e2, e3, e4, e5, e6⟩ := e; omega)
    ·refine o_skip rfl rfl (decide_eq_false h4) (o_skip rfl rfl (decide_eq_false h4) ?_)
     refine o_pickF Fv gn rfl (decide_eq_false h4) rfl ?_
     refine o_mv Fv rfl (o_skip rfl rfl rfl (o_skip rfl rfl rfl (o_skip rfl rfl rfl ?_)))
     refine o_pickF Fv gn rfl rfl rfl ?_
     refine o_as Fv rfl (aops_end (hK1 _ ?_))
     refine awp_ret ?_
     refine post_ret ⟨[Fv], ⟨AV.le_refl _, trivial⟩, rfl, ?_⟩
     first | exact bp_congr ⟨fun e => by obtain ⟨e1, e2, e3, e4, e5, e6⟩ := e; omega, fun e => ⟨by omega, by omega, by omega, by omega, by omega, by omega⟩⟩ | exact bp6n (fun e => by obtain ⟨e1, e2, e3, e4, e5, e6⟩ := e; omega)
   ·refine o_skip rfl rfl (decide_eq_false h3) (o_skip rfl rfl (decide_eq_false h3) ?_)
    refine o_pickF Fv gn rfl (decide_eq_false h3) rfl ?_
    refine o_mv Fv rfl (o_skip rfl rfl rfl (o_skip rfl rfl rfl ?_))
    refine o_pickF Fv gn rfl rfl rfl ?_
    refine o_mv Fv rfl (o_skip rfl rfl rfl (o_skip rfl rfl rfl (o_skip rfl rfl rfl ?_)))
    refine o_pickF Fv gn rfl rfl rfl ?_
    refine o_as Fv rfl (aops_end (hK1 _ ?_))
    refine awp_ret ?_
    refine post_ret ⟨[Fv], ⟨AV.le_refl _, trivial⟩, rfl, ?_⟩
    first | exact bp_congr ⟨fun e => by obtain ⟨e1, e2, e3, e4, e5, e6⟩ := e; omega, fun e => ⟨by omega, by omega, by omega, by omega, by omega, by omega⟩⟩ | exact bp6n (fun e => by obtain ⟨e1, e2, e3, e4, e5, e6⟩ := e; omega)
  ·refine o_skip rfl rfl (decide_eq_false h2) (o_skip rfl rfl (decide_eq_false h2) (o_skip rfl rfl (decide_eq_false h2) ?_))
   refine o_pickF Fv gn rfl (decide_eq_false h2) rfl ?_
   refine o_mv Fv rfl (o_skip rfl rfl rfl (o_skip rfl rfl rfl ?_))
   refine o_pickF Fv gn rfl rfl rfl ?_
   refine o_mv Fv rfl (o_skip rfl rfl rfl (o_skip rfl rfl rfl ?_))
   refine o_pickF Fv gn rfl rfl rfl ?_
   refine o_mv Fv rfl (o_skip rfl rfl rfl (o_skip rfl rfl rfl (o_skip rfl rfl rfl ?_)))
   refine o_pickF Fv gn rfl rfl rfl ?_
   refine o_as Fv rfl (aops_end (hK1 _ ?_))
   refine awp_ret ?_
   refine post_ret ⟨[Fv], ⟨AV.le_refl _, trivial⟩, rfl, ?_⟩
   first | exact bp_congr ⟨fun e => by obtain ⟨e1, e2, e3, e4, e5, e6⟩ := e; omega, fun e => ⟨by omega, by omega, by omega, by omega, by omega, by omega⟩⟩ | exact bp6n (fun e => by obtain ⟨e1, e2, e3, e4, e5, e6⟩ := e; omega)
 ·refine o_skip rfl rfl (decide_eq_false h1) (o_skip rfl rfl (decide_eq_false h1) ?_)
  refine o_pickF Fv gn rfl (decide_eq_false h1) rfl ?_
  refine o_mv Fv rfl (o_skip rfl rfl rfl (o_skip rfl rfl rfl (o_skip rfl rfl rfl ?_)))
  refine o_pickF Fv gn rfl rfl rfl ?_
  refine o_mv Fv rfl (o_skip rfl rfl rfl (o_skip rfl rfl rfl ?_))
  refine o_pickF Fv gn rfl rfl rfl ?_
  refine o_mv Fv rfl (o_skip rfl rfl rfl (o_skip rfl rfl rfl ?_))
  refine o_pickF Fv gn rfl rfl rfl ?_
  refine o_mv Fv rfl (o_skip rfl rfl rfl (o_skip rfl rfl rfl (o_skip rfl rfl rfl ?_)))
  refine o_pickF Fv gn rfl rfl rfl ?_
  refine o_as Fv rfl (aops_end (hK1 _ ?_))
  refine awp_ret ?_
  refine post_ret ⟨[Fv], ⟨AV.le_refl _, trivial⟩, rfl, ?_⟩
  first | exact bp_congr ⟨fun e => by obtain ⟨e1, e2, e3, e4, e5, e6⟩ := e; omega, fun e => ⟨by omega, by omega, by omega, by omega, by omega, by omega⟩⟩ | exact bp6n (fun e => by obtain ⟨e1, e2, e3, e4, e5, e6⟩ := e; omega)

theorem c_xParse (a : ByteArray) (hS : OkS a) : ECalls cx 27 [Sv a] (intX (numS a)) := by
 refine ecalls_of_awp Try.func27 (c := _) rfl (Nat.le_of_ble_eq_true rfl) ?_
 show awp cx 14 _ (postF cx Try.f27 _) ⟨[(0, Sv a)], []⟩
 obtain ⟨u1, u2, u3⟩ := cut_ok hS
 refine awp_seq fun K0 hK0 => awp_region rfl ?_
 refine o_alloc 2 [Fv, Zv] gn f21_ rfl rfl rfl ?_
 refine aops_end (hK0 _ (awp_seq fun K1 hK1 => awp_region rfl (o_mv (Sv a) rfl ?_)))
 refine o_ct (c_cut a) gn f39_ rfl ?_
 refine o_mv (.tup [Sv (cutS a), .lit (.bool (cutB a))]) rfl (o_extract (Sv (cutS a)) gn rfl rfl (o_extract (.lit (.bool (cutB a))) gn rfl rfl (o_as (Sv (cutS a)) rfl (o_as (.lit (.bool (cutB a))) rfl (aops_end (hK1 _ (awp_seq fun K2 hK2 => awp_region rfl (o_mv (.lit (.bool (cutB a))) rfl (o_mv (Sv (cutS a)) rfl ?_)))))))))
 refine o_ct (c_xRead (cutS a) (by first | assumption | omega) (by assumption)) gn f40_ rfl ?_
 refine o_ct (c_xMade (cutB a) (dvk (cutS a) 0 (cutS a).size)) gn f31_ rfl ?_
 refine o_store [(2, .var 63 [bp ((sg (cutB a) (dvk (cutS a) 0 (cutS a).size)) < 0), .sl 1 (ns .u64 (Mw.digs (sg (cutB a) (dvk (cutS a) 0 (cutS a).size)).natAbs))])] gn f23_ rfl rfl rfl rfl rfl rfl ?_
 refine aops_end (hK2 _ ?_)
 refine awp_ret ?_
 refine post_ret ⟨[.agg [bp ((sg (cutB a) (dvk (cutS a) 0 (cutS a).size)) < 0), .sl 1 (ns .u64 (Mw.digs (sg (cutB a) (dvk (cutS a) 0 (cutS a).size)).natAbs))]], ⟨⟨2, .var 63 [bp ((sg (cutB a) (dvk (cutS a) 0 (cutS a).size)) < 0), .sl 1 (ns .u64 (Mw.digs (sg (cutB a) (dvk (cutS a) 0 (cutS a).size)).natAbs))], rfl, rfl, rfl, Or.inl ⟨f24_, AV.le_refl _⟩⟩, trivial⟩, rfl, ?_⟩
 exact congrArg intX u3.symm

end Go.Proofs.Ytaeknciienkijaa

namespace Go.Mth
open Go Go.Ab
def revP (l o : List Nat) (i : Nat) : Prop := o.length = l.length ∧ ∀ j, j < l.length → o.getD j 0 = if j < i ∨ l.length ≤ j + i then l.getD (l.length - 1 - j) 0 else l.getD j 0
theorem rev_0 (l : List Nat) : revP l l 0 := ⟨rfl, fun j hj => by rw [if_neg (by omega)]⟩
theorem getD_setN {o : List Nat} {i j v : Nat} (h : i < o.length) : (o.set i v).getD j 0 = if j = i then v else o.getD j 0 := by
 rw [List.getD_eq_getElem?_getD, List.getElem?_set]
 by_cases e : i = j
 ·subst e; simp [h]
 ·rw [if_neg e, if_neg (fun q => e q.symm), List.getD_eq_getElem?_getD]
theorem rev_s {l o : List Nat} {i : Nat} (h : revP l o i) (hi : i + i + 1 < l.length) : revP l ((o.set i (o.getD (l.length - 1 - i) 0)).set (l.length - 1 - i) (o.getD i 0)) (i + 1) := by
 obtain ⟨h1, h2⟩ := h
 refine ⟨by rw [List.length_set, List.length_set]; exact h1, fun j hj => ?_⟩
 rw [getD_setN (by rw [List.length_set]; omega), getD_setN (by omega)]
 by_cases a : j = l.length - 1 - i
 ·rw [if_pos a, if_pos (by omega), h2 i (by omega), if_neg (by omega)]
  congr 1
  omega
 ·rw [if_neg a]
  by_cases b : j = i
  ·rw [if_pos b, if_pos (by omega), h2 _ (by omega), if_neg (by omega)]
   congr 1
   omega
  ·rw [if_neg b, h2 j hj]
   by_cases c : j < i ∨ l.length ≤ j + i
   ·rw [if_pos c, if_pos (by omega)]
   ·rw [if_neg c, if_neg (by omega)]
theorem rev_e {l o : List Nat} {i : Nat} (h : revP l o i) (hi : ¬ i + i + 1 < l.length) : o = l.reverse := by
 obtain ⟨h1, h2⟩ := h
 refine List.ext_getElem (by rw [List.length_reverse]; exact h1) fun j hj hj2 => ?_
 have h3 := h2 j (by omega)
 rw [List.getD_eq_getElem?_getD, List.getElem?_eq_getElem hj] at h3
 rw [List.getElem_reverse]
 refine h3.trans ?_
 by_cases c : j < i ∨ l.length ≤ j + i
 ·rw [if_pos c, List.getD_eq_getElem?_getD, List.getElem?_eq_getElem (by omega)]
  rfl
 ·rw [if_neg c, List.getD_eq_getElem?_getD, List.getElem?_eq_getElem (by omega)]
  show l[j] = l[l.length - 1 - j]
  congr 1
  omega
theorem decs_s {b : List Nat} {n N : Nat} (h : b ++ decs n = decs N) (hn : 0 < n) : (b ++ [48 + n % 10]) ++ decs (n / 10) = decs N := by
 rw [← h, decs_pos hn, List.append_assoc]
 rfl
theorem decs_e {b : List Nat} {n N : Nat} (h : b ++ decs n = decs N) (hn : n = 0) : b = decs N := by
 rw [← h, hn, decs_zero, List.append_nil]
theorem txt_pos {n : Nat} (h : 0 < n) : strN (decs n).reverse = txt (n : Int) := by
 unfold txt txtL
 rw [if_neg (by omega), if_neg (by omega)]
 simp
theorem decs_len0 {n : Nat} (h : (decs n).length = 0) : n = 0 := by
 rcases Nat.eq_zero_or_pos n with e | e
 ·exact e
 ·rw [decs_pos e] at h; simp at h
theorem txt_z : txt ((0 : Nat) : Int) = { data := #[48] } := by simp [txt, txtL, decs, strN]; rfl
end Go.Mth

namespace Go.Proofs.Ytaeknciienkijaa
open Go Go.Ab Go.Mth
theorem f41_ : callable cx.P 37 = true := by kernel_rfl
theorem f42_ : tyElem cx.P 68 = some (5, 1, 1) := by kernel_rfl
theorem f43_ : tyZero cx.P 5 = some [Go.Value.int IntKind.u8 0] := by kernel_rfl
theorem f44_ : cx.P.underlying 68 = some (.slice 5) := by kernel_rfl
theorem f45_ : callable cx.P 59 = true := by kernel_rfl
theorem f46_ : tySc cx.P 5 = true := by kernel_rfl
theorem f47_ : tySize cx.P 5 = some 1 := by kernel_rfl
theorem f48_ : cx.P.underlying 5 = some (.int .u8) := by kernel_rfl
theorem c_xDigits (m : Nat) (hm : (Mw.digs m).length ≤ 1000000) (hdl : (decs m).length ≤ 1000000) : ECalls cx 39 [.sl 1 (ns .u64 (Mw.digs m))] (.lit (.string (txt (m : Int)))) := by
 refine ecalls_of_awp Try.func39 (c := _) rfl (Nat.le_of_ble_eq_true rfl) ?_
 show awp cx 28 _ (postF cx Try.f39 _) ⟨[(0, .sl 1 (ns .u64 (Mw.digs m)))], []⟩
 refine awp_seq fun K0 hK0 => awp_region rfl (o_as (Sv Ev) rfl (aops_end (hK0 _ (awp_seq fun K1 hK1 => awp_region rfl (o_as Zv rfl (aops_end (hK1 _ (awp_seq fun K2 hK2 => ?_))))))))
 refine awp_block ?_
 refine awp_loopR (fun κ σ => ∃ (n : Nat), ∃ (b : List Nat), (b ++ decs n = decs m) ∧ (n ≤ m) ∧ n = κ ∧ σ = ⟨[(0, .sl 1 (ns .u64 (Mw.digs n))), (3, .row 50)], [(50, .row 5 1 (ns .u8 b))]⟩) ⟨_, _, ⟨m, [], List.nil_append _, Nat.le_refl _, rfl, rfl⟩, ?wk0⟩ ?rd0
 case wk0 =>
  exact Wk.trans (Wk.newNil (i := 3) (id := 502) (e := 5) (sz := 1) rfl rfl (by decide)) (Wk.trans (Wk.sub (σ' := ⟨[(0, .sl 1 (ns .u64 (Mw.digs m))), (3, .row 502)], [(502, .row 5 1 (ns .u8 ([])))]⟩) ⟨rfl, rfl, trivial⟩ ⟨rfl, trivial⟩) (Wk.trans (Wk.ren (id := 502) (id' := 50) rfl) (Wk.sub ⟨(by first | rfl | simp), (by first | rfl | simp), trivial⟩ ⟨(by first | rfl | exact row_ns (by simp)), trivial⟩)))
 rintro κ _ ⟨n, b, hb, hnm, rfl, rfl⟩
 have hnl := Mw.digs_len_le hnm
 have hbl := congrArg List.length hb
 rw [List.length_append] at hbl
 refine awp_seq fun K3 hK3 => awp_seq fun K4 hK4 => awp_region rfl (o_mv (.sl 1 (ns .u64 (Mw.digs n))) rfl ?_)
 refine n_len (Mw.digs n) gn f0_ rfl ?_
 refine n_gtr ((Mw.digs n).length) 0 gn rfl rfl ?_
 refine aops_end (hK4 _ ?_)
 refine awp_condQ (q := 0 < ((Mw.digs n).length)) rfl (fun h1 => ?_) (fun h1 => ?_)
 ·have hn0 : 0 < n := (digs_pos' n).1 h1
  have hdn := decs_pos hn0
  have hdl2 := congrArg List.length hdn
  rw [List.length_cons] at hdl2
  refine awp_skip (hK3 _ ?_)
  refine awp_block ?_
  refine awp_seq fun K5 hK5 => awp_region rfl (o_mv (.sl 1 (ns .u64 (Mw.digs n))) rfl ?_)
  refine o_ct (c_xOver n 10 (by first | (left; rfl) | (right; rfl)) (by first | omega | assumption)) gn f41_ rfl ?_
  refine o_mv (.tup [.sl 1 (ns .u64 (Mw.digs (n / 10))), nm .u64 (n % 10)]) rfl (o_extract (.sl 1 (ns .u64 (Mw.digs (n / 10)))) gn rfl rfl (o_extract (nm .u64 (n % 10)) gn rfl rfl (o_as (.sl 1 (ns .u64 (Mw.digs (n / 10)))) rfl (o_as (nm .u64 (n % 10)) rfl (aops_end (hK5 _ (awp_seq fun K6 hK6 => awp_region rfl (o_mv (.sl 1 (ns .u64 (Mw.digs (n / 10)))) rfl (o_as (.sl 1 (ns .u64 (Mw.digs (n / 10)))) rfl (aops_end ?_))))))))))
  refine hK6 _ (awp_region rfl (o_mv (.row 50) rfl (o_mv (nm .u64 (n % 10)) rfl ?_)))
  refine n_add 48 (n % 10) gn rfl rfl (by simp only [topOf]; omega) ?_
  refine n_conv (48 + (n % 10)) gn rfl f34_ f38_ (by simp only [topOf]; omega) ?_
  refine o_buildSlice 101 (ns .u8 ([48 + (n % 10)])) [(0, [nm .u8 (48 + (n % 10))])] gn f42_ rfl f43_ rfl rfl rfl rfl rfl rfl rfl ?_
  refine n_append 102 b ([48 + (n % 10)]) [(101, .row 5 1 (ns .u8 ([48 + (n % 10)])))] gn f42_ f43_ rfl rfl rfl rfl rfl (by simp only [List.length_append, List.length_cons, List.length_nil]; omega) (by decide) rfl rfl ?_
  refine o_as (.row 102) rfl (aops_end ?_)
  refine ⟨_, _, ?lt, ⟨n / 10, b ++ ([48 + (n % 10)]), decs_s hb hn0, (by omega), rfl, rfl⟩, ?wk⟩
  case lt => omega
  case wk => exact Wk.trans (Wk.sub (σ' := ⟨[(0, .sl 1 (ns .u64 (Mw.digs (n / 10)))), (3, .row 102)], [(102, .row 5 1 (ns .u8 (b ++ ([48 + (n % 10)]))))]⟩) ⟨rfl, rfl, trivial⟩ ⟨rfl, trivial⟩) (Wk.trans (Wk.ren (id := 102) (id' := 50) rfl) (Wk.sub ⟨(by first | rfl | simp), (by first | rfl | simp), trivial⟩ ⟨(by first | rfl | exact row_ns (by simp)), trivial⟩))
 ·have hn0 : n = 0 := by have := (digs_pos' n).2; omega
  have hbe := decs_e hb hn0
  have hbl9 := congrArg List.length hbe
  refine awp_exit ?_
  refine hK2 _ (awp_seq fun K7 hK7 => awp_seq fun K8 hK8 => awp_region rfl (o_mv (.row 50) rfl ?_))
  refine n_lenRow b gn f44_ rfl rfl ?_
  refine n_eql (b.length) 0 gn rfl rfl ?_
  refine aops_end (hK8 _ ?_)
  refine awp_condQ (q := (b.length) = 0) rfl (fun h2 => ?_) (fun h2 => ?_)
  ·refine awp_seq fun K9 hK9 => awp_region rfl (o_as (Sv ({data := #[48]} : ByteArray)) rfl (aops_end (hK9 _ ?_)))
   refine awp_ret ?_
   refine post_ret ⟨[(Sv ({data := #[48]} : ByteArray))], ⟨AV.le_refl _, trivial⟩, rfl, ?_⟩
   have hm0 : m = 0 := by have := decs_len0 (n := m) (by rw [← hbe]; assumption); exact this
   rw [hm0]; exact congrArg (fun s => AV.lit (.string s)) txt_z
  ·refine awp_skip (hK7 _ (awp_seq fun K10 hK10 => ?_))
   refine awp_wk (σ' := ⟨[(0, .sl 1 (ns .u64 (Mw.digs n))), (3, .row 50), (6, .sl 1 (ns .u64 (Mw.digs n))), (7, Nv ((Mw.digs n).length)), (8, bp (0 < ((Mw.digs n).length))), (21, .row 50), (22, Nv (b.length)), (23, bp ((b.length) = 0))], [(50, .row 5 1 (ns .u8 b))]⟩) (Wk.sub ⟨rfl, rfl, rfl, rfl, rfl, rfl, rfl, rfl, trivial⟩ ⟨rfl, trivial⟩) ?_
   refine awp_regionSK 1 25 _ 59 [] _ _ _ _ _ [.row 50] (.tup []) [(50, .row 5 1 (ns .u8 b.reverse))] rfl rfl f45_ ?_
   refine o_mv (.row 50) rfl ?_
   refine aops_end ⟨rfl, rfl, ?sc1, ?_⟩
   case sc1 =>
    refine scalls_of_awpB 9010 Try.func59 (c := _) rfl (Nat.le_of_ble_eq_true rfl) rfl rfl rfl (fun us1 => ?_)
    show awp cx 28 _ (postS cx Try.f59 (.tup []) [(50, .row 5 1 (ns .u8 b.reverse))] 9010 [.row 50, .sl 1 (ns .u64 (Mw.digs n)), .row 50, .sl 1 (ns .u64 (Mw.digs n)), Nv ((Mw.digs n).length), bp (0 < ((Mw.digs n).length)), .row 50, Nv (b.length), bp ((b.length) = 0)] us1) ⟨[(0, .row 50)], [(9010, .pin [.row 50, .sl 1 (ns .u64 (Mw.digs n)), .row 50, .sl 1 (ns .u64 (Mw.digs n)), Nv ((Mw.digs n).length), bp (0 < ((Mw.digs n).length)), .row 50, Nv (b.length), bp ((b.length) = 0)] us1), (50, .row 5 1 (ns .u8 b))]⟩
    refine awp_seq fun K11 hK11 => awp_region rfl (o_mv (.row 50) rfl ?_)
    refine n_lenRow b gn f44_ rfl rfl ?_
    refine o_sub (a := ((b.length : Nat) : Int)) (c := ((1 : Nat) : Int)) gn rfl rfl (by exact wrap64 (by omega) (by omega)) ?_
    refine o_as (Nv 0) rfl (o_as (Iv (((b.length : Nat) : Int) - ((1 : Nat) : Int))) rfl (aops_end (hK11 _ ?_)))
    refine awp_block ?_
    refine awp_loopR (fun κ σ => ∃ (i : Nat), ∃ (o : List Nat), (i + i ≤ b.length) ∧ (revP b o i) ∧ (b.length - i) = κ ∧ σ = ⟨[(0, .row 50), (2, Nv i), (3, (Iv (((b.length : Nat) : Int) - 1 - ((i : Nat) : Int))))], [(9010, .pin [.row 50, .sl 1 (ns .u64 (Mw.digs n)), .row 50, .sl 1 (ns .u64 (Mw.digs n)), Nv ((Mw.digs n).length), bp (0 < ((Mw.digs n).length)), .row 50, Nv (b.length), bp ((b.length) = 0)] us1), (50, .row 5 1 (ns .u8 o))]⟩) ⟨_, _, ⟨0, b, (by omega), rev_0 _, rfl, rfl⟩, ?wk2⟩ ?rd2
    case wk2 =>
     exact Wk.sub ⟨rfl, (by first | rfl | exact nm_int (by omega)), (by first | rfl | exact int_eq (by omega) | exact int_nm (by omega)), trivial⟩ ⟨rfl, (by first | rfl | exact row_ns (by simp) | (first | exact row_ns (rev_e hrv (by omega)) | exact row_ns (rev_e hrv (by omega)).symm)), trivial⟩
    rintro κ _ ⟨i, o, hi, hrv, rfl, rfl⟩
    have hol := hrv.1
    refine awp_seq fun K12 hK12 => awp_seq fun K13 hK13 => awp_region rfl (o_mv (Nv i) rfl (o_mv (Iv (((b.length : Nat) : Int) - 1 - ((i : Nat) : Int))) rfl ?_))
    refine o_lss (a := ((i : Nat) : Int)) (c := (((b.length : Nat) : Int) - 1 - ((i : Nat) : Int))) gn rfl rfl ?_
    refine aops_end (hK13 _ ?_)
    refine awp_condQ (q := ((i : Nat) : Int) < (((b.length : Nat) : Int) - 1 - ((i : Nat) : Int))) rfl (fun h3 => ?_) (fun h3 => ?_)
    ·refine awp_skip (hK12 _ (awp_seq fun K14 hK14 => ?_))
     refine awp_block ?_
     refine awp_regionT rfl ?_
     refine o_mv (.row 50) rfl (o_mv (Nv i) rfl (o_mv (.row 50) rfl (o_mv (Iv (((b.length : Nat) : Int) - 1 - ((i : Nat) : Int))) rfl ?_)))
     refine n_as (v' := (Nv (b.length - 1 - i))) (nm_int (by omega)) ?_
     refine o_mv (.row 50) rfl (o_mv (Iv (((b.length : Nat) : Int) - 1 - ((i : Nat) : Int))) rfl ?_)
     refine n_as (v' := (Nv (b.length - 1 - i))) (nm_int (by omega)) ?_
     refine n_indexRow o (b.length - 1 - i) gn f42_ rfl rfl rfl (by omega) ?_
     refine n_loadRow o (b.length - 1 - i) gn f46_ rfl rfl (by omega) ?_
     refine o_mv (.row 50) rfl (o_mv (Nv i) rfl ?_)
     refine n_indexRow o i gn f42_ rfl rfl rfl (by omega) ?_
     refine n_loadRow o i gn f46_ rfl rfl (by omega) ?_
     refine n_indexRow o i gn f42_ rfl rfl rfl (by omega) ?_
     refine n_storeRow o i (o.getD (b.length - 1 - i) 0) [(9010, .pin [.row 50, .sl 1 (ns .u64 (Mw.digs n)), .row 50, .sl 1 (ns .u64 (Mw.digs n)), Nv ((Mw.digs n).length), bp (0 < ((Mw.digs n).length)), .row 50, Nv (b.length), bp ((b.length) = 0)] us1), (50, .row 5 1 (ns .u8 (o.set i (o.getD (b.length - 1 - i) 0))))] gn f47_ rfl rfl rfl (by first | omega | (rw [List.length_set]; omega)) rfl ?_
     refine n_indexRow (o.set i (o.getD (b.length - 1 - i) 0)) (b.length - 1 - i) gn f42_ rfl rfl rfl (by rw [List.length_set]; omega) ?_
     refine n_storeRow (o.set i (o.getD (b.length - 1 - i) 0)) (b.length - 1 - i) (o.getD i 0) [(9010, .pin [.row 50, .sl 1 (ns .u64 (Mw.digs n)), .row 50, .sl 1 (ns .u64 (Mw.digs n)), Nv ((Mw.digs n).length), bp (0 < ((Mw.digs n).length)), .row 50, Nv (b.length), bp ((b.length) = 0)] us1), (50, .row 5 1 (ns .u8 ((o.set i (o.getD (b.length - 1 - i) 0)).set (b.length - 1 - i) (o.getD i 0))))] gn f47_ rfl rfl rfl (by first | omega | (rw [List.length_set]; omega)) rfl ?_
     refine aops_end ⟨by kernel_rfl, ?_⟩
     refine hK14 _ (awp_region rfl (o_mv (Nv i) rfl ?_))
     refine n_add i 1 gn rfl rfl (by simp only [topOf]; omega) ?_
     refine o_mv (Iv (((b.length : Nat) : Int) - 1 - ((i : Nat) : Int))) rfl ?_
     refine o_sub (a := (((b.length : Nat) : Int) - 1 - ((i : Nat) : Int))) (c := ((1 : Nat) : Int)) gn rfl rfl (by exact wrap64 (by omega) (by omega)) ?_
     refine o_as (Nv (i + 1)) rfl (o_as (Iv ((((b.length : Nat) : Int) - 1 - ((i : Nat) : Int)) - ((1 : Nat) : Int))) rfl (aops_end ?_))
     refine ⟨_, _, ?lt, ⟨i + 1, (o.set i (o.getD (b.length - 1 - i) 0)).set (b.length - 1 - i) (o.getD i 0), (by omega), (rev_s hrv (by omega)), rfl, rfl⟩, ?wk⟩
     case lt => omega
     case wk => exact Wk.sub ⟨rfl, (by first | rfl | exact nm_int (by omega)), (by first | rfl | exact int_eq (by omega) | exact int_nm (by omega)), trivial⟩ ⟨rfl, (by first | rfl | exact row_ns (by simp) | (first | exact row_ns (rev_e hrv (by omega)) | exact row_ns (rev_e hrv (by omega)).symm)), trivial⟩
    ·have hre := rev_e hrv (by omega)
     subst hre
     refine awp_exit ?_
     try dsimp only [thenK, inBlk]
     try simp only [show Nat.beq 0 0 = true from rfl, show Nat.beq 1 1 = true from rfl, cond_true]
     refine postS_nrm (extra := []) ?_ rfl
     refine ⟨[], trivial, ?_⟩
     rfl
   refine aops_end (hK10 _ (awp_seq fun K15 hK15 => awp_region rfl (o_mv (.row 50) rfl ?_)))
   refine n_strOf b.reverse gn f44_ f48_ f37_ rfl rfl ?_
   refine o_as (Sv (strN b.reverse)) rfl (aops_end (hK15 _ ?_))
   refine awp_ret ?_
   refine post_ret ⟨[Sv (strN b.reverse)], ⟨AV.le_refl _, trivial⟩, rfl, ?_⟩
   exact congrArg (fun s => AV.lit (.string s)) (by rw [hbe]; exact (Eq.symm (txt_pos (by rcases Nat.eq_zero_or_pos m with e | e; exact absurd (by rw [hbe, e, decs_zero]; rfl) h2; exact e))))

end Go.Proofs.Ytaeknciienkijaa

namespace Go.Mth
open Go Go.Ab
theorem okS_sz6 {a : ByteArray} (h : OkS a) : a.size ≤ 9223372036854775807 := by
 have h1 := h.2.1
 have h2 : sgnAt a ≤ 1 := by unfold sgnAt; split <;> omega
 omega
theorem cmp_pos6 {N : Nat} (h : 0 < N) : cmpZ (N : Int) 0 = 1 := by unfold cmpZ; rw [if_neg (by omega), if_pos (by omega)]
theorem decs_hi6 (n : Nat) : n < 10 ^ (decs n).length := by
 induction n using Nat.strongRecOn with
 | ind n ih =>
  rcases Nat.eq_zero_or_pos n with e | e
  ·rw [e, decs_zero]; decide
  ·rw [decs_pos e, List.length_cons, Nat.pow_succ]
   have := ih (n / 10) (by omega)
   omega
theorem fit_lt6 {N : Nat} (h : Fit (N : Int)) : ∃ k, N < 10 ^ k ∧ 6 ≤ k ∧ k ≤ 2000 := by
 have h1 : ndig N ≤ 2000 := h
 have h2 := decs_hi6 N
 refine ⟨max 6 (decs N).length, ?_, by omega, ?_⟩
 ·have h3 := Nat.pow_le_pow_right (show 0 < 10 by decide) (show (decs N).length ≤ max 6 (decs N).length by omega)
  omega
 ·unfold ndig at h1
  split at h1
  ·rename_i e; rw [e, decs_zero]; decide
  ·omega
theorem len6 {n k : Nat} (h : n < 10 ^ k) : (Mw.digs n).length ≤ k ∧ (decs n).length ≤ k := by
 refine ⟨Mw.digs_len_of_lt ?_, decs_len_lt h⟩
 have := Nat.pow_le_pow_left (show 10 ≤ 18446744073709551616 by decide) k
 omega
theorem grow6 {N q c k : Nat} (h : N < 10 ^ k) (hk : 6 ≤ k) (hq : q ≤ 999) (hc : c ≤ 999999) : q * N + c < 10 ^ (k + 7) := by
 have h2 := Nat.mul_le_mul_right N hq
 have h3 : (10 : Nat) ^ (k + 7) = 10 ^ k * 10000000 := Nat.pow_add _ _ _
 have h4 : (10 : Nat) ^ 6 ≤ 10 ^ k := Nat.pow_le_pow_right (by decide) hk
 have h5 : (10 : Nat) ^ 6 = 1000000 := by decide
 omega
theorem fit6 {N q c : Nat} (h : Fit (N : Int)) (hq : q ≤ 999) (hc : c ≤ 999999) : (Mw.digs N).length ≤ 2000 ∧ (Mw.digs (q * N + c)).length ≤ 2007 ∧ (decs (q * N + c)).length ≤ 2007 ∧ (Mw.digs (q * N)).length ≤ 2007 := by
 obtain ⟨k, h1, h2, h3⟩ := fit_lt6 h
 obtain ⟨a1, a2⟩ := len6 (grow6 h1 h2 hq hc)
 have a3 := Mw.digs_len_le (show q * N ≤ q * N + c by omega)
 have a4 := (len6 h1).1
 exact ⟨by omega, by omega, by omega, by omega⟩
end Go.Mth

namespace Go.Proofs.Ytaeknciienkijaa
open Go Go.Ab Go.Mth
theorem f49_ : tyField cx.P 31 1 = some (1, 23) := by kernel_rfl
theorem f50_ : tySc cx.P 23 = true := by kernel_rfl
theorem f51_ : cx.P.underlying 23 = some (.slice 3) := by kernel_rfl
theorem f52_ : tyField cx.P 31 0 = some (0, 4) := by kernel_rfl
theorem f53_ : tyZero cx.P 31 = some [Go.Value.bool false, Go.Value.slice none 0 0] := by kernel_rfl
theorem f54_ : tyElem cx.P 23 = some (3, 1, 8) := by kernel_rfl
theorem f55_ : tySc cx.P 3 = true := by kernel_rfl
theorem f56_ : tyPlaces cx.P 31 = some (fun i => (#[(0, 1), (1, 1)] : Array (Nat × Nat))[i]?) := by kernel_rfl
theorem f57_ : tySize cx.P 31 = some 2 := by kernel_rfl
theorem f58_ : tyAgg cx.P 31 = some 2 := by kernel_rfl
theorem f59_ : callable cx.P 12 = true := by kernel_rfl
theorem f60_ : callable cx.P 41 = true := by kernel_rfl
theorem f61_ : callable cx.P 60 = true := by kernel_rfl
theorem f62_ : tyZero cx.P 3 = some [Go.Value.int IntKind.i64 0] := by kernel_rfl
theorem f63_ : callable cx.P 45 = true := by kernel_rfl
theorem f64_ : callable cx.P 22 = true := by kernel_rfl
theorem f65_ : callable cx.P 46 = true := by kernel_rfl
theorem f66_ : callable cx.P 24 = true := by kernel_rfl
theorem f67_ : callable cx.P 23 = true := by kernel_rfl
theorem c_rSign (z : Int) : ECalls cx 12 [intR z] (.lit (.int .i64 (sgn z))) := by
 refine ecalls_of_awp Try.func12 (c := _) rfl (Nat.le_of_ble_eq_true rfl) ?_
 show awp cx 11 _ (postF cx Try.f12 _) ⟨[(0, intR z)], []⟩
 refine awp_seq fun K0 hK0 => awp_region rfl ?_
 refine o_box 2 [bp (z < 0), .sl 1 (ns .i64 (digs z.natAbs))] gn rfl rfl ?_
 refine o_as (Nv 0) rfl (aops_end (hK0 _ (awp_seq fun K1 hK1 => ?_)))
 refine awp_block ?_
 refine awp_seq fun K2 hK2 => awp_region rfl ?_
 refine o_fieldRef 1 gn f49_ rfl rfl ?_
 refine o_loadS (.sl 1 (ns .i64 (digs z.natAbs))) gn f50_ rfl rfl rfl ?_
 refine n_len (digs z.natAbs) gn f51_ rfl ?_
 refine n_eql ((digs z.natAbs).length) 0 gn rfl rfl ?_
 refine o_as (bp (((digs z.natAbs).length) = 0)) rfl (aops_end (hK2 _ ?_))
 refine awp_condQ (q := ((digs z.natAbs).length) = 0) rfl (fun h1 => ?_) (fun h1 => ?_)
 ·refine awp_seq fun K3 hK3 => awp_region rfl (o_as (Nv 0) rfl (aops_end (hK3 _ ?_)))
  refine awp_ret ?_
  refine post_ret ⟨[Nv 0], ⟨AV.le_refl _, trivial⟩, rfl, ?_⟩
  have e := digs_len_zero (n := z.natAbs)
  refine int_eq (k := .i64) ?_
  unfold sgn
  split <;> (try split) <;> omega
 ·refine awp_seq fun K4 hK4 => awp_region rfl ?_
  refine o_fieldRef 0 gn f52_ rfl rfl ?_
  refine o_loadS (bp (z < 0)) gn f28_ rfl rfl rfl ?_
  refine o_as (bp (z < 0)) rfl (aops_end (hK4 _ ?_))
  refine awp_condQ (q := z < 0) rfl (fun h2 => ?_) (fun h2 => ?_)
  ·refine awp_seq fun K5 hK5 => awp_region rfl (o_as (Iv (-1)) rfl (aops_end (hK5 _ ?_)))
   refine awp_ret ?_
   refine post_ret ⟨[Iv (-1)], ⟨AV.le_refl _, trivial⟩, rfl, ?_⟩
   have e := digs_len_zero (n := z.natAbs)
   refine int_eq (k := .i64) ?_
   unfold sgn
   split <;> (try split) <;> omega
  ·refine awp_skip (hK1 _ (awp_seq fun K6 hK6 => awp_region rfl (o_as (Nv 1) rfl (aops_end (hK6 _ ?_)))))
   refine awp_ret ?_
   refine post_ret ⟨[Nv 1], ⟨AV.le_refl _, trivial⟩, rfl, ?_⟩
   have e := digs_len_zero (n := z.natAbs)
   refine int_eq (k := .i64) ?_
   unfold sgn
   split <;> (try split) <;> omega

theorem c_rTrim (neg : Bool) (xs : List Nat) (hx : Dig xs) : ECalls cx 22 [.lit (.bool neg), .sl 1 (ns .i64 xs)] (intR (sg neg (val xs))) := by
 refine ecalls_of_awp Try.func22 (c := _) rfl (Nat.le_of_ble_eq_true rfl) ?_
 show awp cx 29 _ (postF cx Try.f22 _) ⟨[(0, .lit (.bool neg)), (1, .sl 1 (ns .i64 xs))], []⟩
 refine awp_bound (i := 1) rfl fun hb => ?_
 replace hb := n_bnd hb
 refine awp_seq fun K0 hK0 => awp_region rfl ?_
 refine o_alloc 2 [Fv, Zv] gn f53_ rfl rfl rfl ?_
 refine aops_end (hK0 _ (awp_seq fun K1 hK1 => awp_region rfl (o_mv (.sl 1 (ns .i64 xs)) rfl ?_)))
 refine n_len xs gn f51_ rfl ?_
 refine o_as (Nv (xs.length)) rfl (aops_end (hK1 _ (awp_seq fun K2 hK2 => ?_)))
 refine awp_block ?_
 refine awp_loopR (fun κ σ => ∃ (n : Nat), (n ≤ xs.length) ∧ (val (xs.take n) = val xs) ∧ n = κ ∧ σ = ⟨[(0, .lit (.bool neg)), (1, .sl 1 (ns .i64 xs)), (4, .ref 2 0), (5, Nv n)], [(2, .var 31 [Fv, Zv])]⟩) ⟨_, _, ⟨xs.length, Nat.le_refl _, (by rw [List.take_length]), rfl, rfl⟩, ?wk0⟩ ?rd0
 case wk0 =>
  exact Wk.sub ⟨rfl, rfl, rfl, (by first | rfl | exact nm_int (by omega)), trivial⟩ ⟨rfl, trivial⟩
 rintro κ _ ⟨n, hn, hv, rfl, rfl⟩
 refine awp_seq fun K3 hK3 => awp_seq fun K4 hK4 => awp_region rfl (o_mv (Nv n) rfl ?_)
 refine n_gtr n 0 gn rfl rfl ?_
 refine o_mv (bp (0 < n)) rfl ?_
 refine o_splitP (q := 0 < n) 10 rfl (fun h1 => ?_) (fun h1 => ?_)
 ·refine o_move (.sl 1 (ns .i64 xs)) (Gd.yes rfl rfl (decide_eq_true h1)) rfl (o_move (Nv n) (Gd.yes rfl rfl (decide_eq_true h1)) rfl ?_)
  refine n_sub n 1 (Gd.yes rfl rfl (decide_eq_true h1)) rfl rfl (by omega) (by simp only [topOf]; omega) ?_
  refine n_index xs (n - 1) (Gd.yes rfl rfl (decide_eq_true h1)) f54_ rfl rfl (by omega) ?_
  refine n_loadI xs (n - 1) (Gd.yes rfl rfl (decide_eq_true h1)) f55_ rfl (by omega) ?_
  refine n_eql (xs.getD (n - 1) 0) 0 (Gd.yes rfl rfl (decide_eq_true h1)) rfl rfl ?_
  refine o_pickT (bp ((xs.getD (n - 1) 0) = 0)) gn rfl (decide_eq_true h1) rfl ?_
  refine aops_end (hK4 _ ?_)
  refine awp_condQ (q := (xs.getD (n - 1) 0) = 0) rfl (fun h2 => ?_) (fun h2 => ?_)
  ·refine awp_skip (hK3 _ ?_)
   refine awp_block ?_
   refine awp_region rfl (o_mv (Nv n) rfl ?_)
   refine n_sub n 1 gn rfl rfl (by omega) (by simp only [topOf]; omega) ?_
   refine o_as (Nv (n - 1)) rfl (aops_end ?_)
   refine ⟨_, _, ?lt, ⟨n - 1, (by omega), (by rw [← take_getD_zero (by assumption) hn (by assumption)]; exact hv), rfl, rfl⟩, ?wk⟩
   case lt => omega
   case wk => exact Wk.sub ⟨rfl, rfl, rfl, (by first | rfl | exact nm_int (by omega)), trivial⟩ ⟨rfl, trivial⟩
  ·refine awp_exit ?_
   refine hK2 _ (awp_seq fun K5 hK5 => awp_region rfl (o_mv (.lit (.bool neg)) rfl (o_mv (.lit (.bool neg)) rfl ?_)))
   refine o_split (b := neg) 21 rfl (fun h3 => ?_) (fun h3 => ?_)
   ·refine o_move (Nv n) (Gd.yes rfl rfl h3) rfl ?_
    refine n_gtr n 0 (Gd.yes rfl rfl h3) rfl rfl ?_
    refine o_pickT (bp (0 < n)) gn rfl h3 rfl ?_
    refine o_mv (.sl 1 (ns .i64 xs)) rfl (o_mv (Nv n) rfl ?_)
    refine n_slice xs 0 n gn f54_ rfl rfl (hi_nm rfl) trivial (by omega) (by omega) ?_
    refine o_build [bp (0 < n), .sl 1 (ns .i64 ((xs.drop 0).take (n - 0)))] [(0, [bp (0 < n)]), (1, [.sl 1 (ns .i64 ((xs.drop 0).take (n - 0)))])] gn f56_ f53_ rfl rfl rfl ?_
    refine o_store [(2, .var 31 [bp (0 < n), .sl 1 (ns .i64 ((xs.drop 0).take (n - 0)))])] gn f57_ rfl rfl rfl rfl rfl rfl ?_
    refine aops_end (hK5 _ ?_)
    refine awp_ret ?_
    refine post_ret ⟨[.agg [bp (0 < n), .sl 1 (ns .i64 ((xs.drop 0).take (n - 0)))]], ⟨⟨2, .var 31 [bp (0 < n), .sl 1 (ns .i64 ((xs.drop 0).take (n - 0)))], rfl, rfl, rfl, Or.inl ⟨f58_, AV.le_refl _⟩⟩, trivial⟩, rfl, ?_⟩
    subst h3
    exact (trim_fin (k := .i64) (neg := true) hx hn hv (by first | (left; omega) | (right; assumption))).symm
   ·refine o_skip rfl rfl h3 (o_skip rfl rfl h3 ?_)
    refine o_pickF Fv gn rfl h3 rfl ?_
    refine o_mv (.sl 1 (ns .i64 xs)) rfl (o_mv (Nv n) rfl ?_)
    refine n_slice xs 0 n gn f54_ rfl rfl (hi_nm rfl) trivial (by omega) (by omega) ?_
    refine o_build [Fv, .sl 1 (ns .i64 ((xs.drop 0).take (n - 0)))] [(0, [Fv]), (1, [.sl 1 (ns .i64 ((xs.drop 0).take (n - 0)))])] gn f56_ f53_ rfl rfl rfl ?_
    refine o_store [(2, .var 31 [Fv, .sl 1 (ns .i64 ((xs.drop 0).take (n - 0)))])] gn f57_ rfl rfl rfl rfl rfl rfl ?_
    refine aops_end (hK5 _ ?_)
    refine awp_ret ?_
    refine post_ret ⟨[.agg [Fv, .sl 1 (ns .i64 ((xs.drop 0).take (n - 0)))]], ⟨⟨2, .var 31 [Fv, .sl 1 (ns .i64 ((xs.drop 0).take (n - 0)))], rfl, rfl, rfl, Or.inl ⟨f58_, AV.le_refl _⟩⟩, trivial⟩, rfl, ?_⟩
    subst h3
    exact (trim_fin (k := .i64) (neg := false) hx hn hv (by first | (left; omega) | (right; assumption))).symm
 ·refine o_skip rfl rfl (decide_eq_false h1) (o_skip rfl rfl (decide_eq_false h1) (o_skip rfl rfl (decide_eq_false h1) (o_skip rfl rfl (decide_eq_false h1) (o_skip rfl rfl (decide_eq_false h1) (o_skip rfl rfl (decide_eq_false h1) ?_)))))
  refine o_pickF Fv gn rfl (decide_eq_false h1) rfl ?_
  refine aops_end (hK4 _ ?_)
  refine awp_condB (b := false) rfl (fun hh => absurd (hh.symm.trans rfl) (by decide)) (fun _ => ?_)
  refine awp_exit ?_
  refine hK2 _ (awp_seq fun K6 hK6 => awp_region rfl (o_mv (.lit (.bool neg)) rfl (o_mv (.lit (.bool neg)) rfl ?_)))
  refine o_split (b := neg) 21 rfl (fun h4 => ?_) (fun h4 => ?_)
  ·refine o_move (Nv n) (Gd.yes rfl rfl h4) rfl ?_
   refine n_gtr n 0 (Gd.yes rfl rfl h4) rfl rfl ?_
   refine o_pickT (bp (0 < n)) gn rfl h4 rfl ?_
   refine o_mv (.sl 1 (ns .i64 xs)) rfl (o_mv (Nv n) rfl ?_)
   refine n_slice xs 0 n gn f54_ rfl rfl (hi_nm rfl) trivial (by omega) (by omega) ?_
   refine o_build [bp (0 < n), .sl 1 (ns .i64 ((xs.drop 0).take (n - 0)))] [(0, [bp (0 < n)]), (1, [.sl 1 (ns .i64 ((xs.drop 0).take (n - 0)))])] gn f56_ f53_ rfl rfl rfl ?_
   refine o_store [(2, .var 31 [bp (0 < n), .sl 1 (ns .i64 ((xs.drop 0).take (n - 0)))])] gn f57_ rfl rfl rfl rfl rfl rfl ?_
   refine aops_end (hK6 _ ?_)
   refine awp_ret ?_
   refine post_ret ⟨[.agg [bp (0 < n), .sl 1 (ns .i64 ((xs.drop 0).take (n - 0)))]], ⟨⟨2, .var 31 [bp (0 < n), .sl 1 (ns .i64 ((xs.drop 0).take (n - 0)))], rfl, rfl, rfl, Or.inl ⟨f58_, AV.le_refl _⟩⟩, trivial⟩, rfl, ?_⟩
   subst h4
   exact (trim_fin (k := .i64) (neg := true) hx hn hv (by first | (left; omega) | (right; assumption))).symm
  ·refine o_skip rfl rfl h4 (o_skip rfl rfl h4 ?_)
   refine o_pickF Fv gn rfl h4 rfl ?_
   refine o_mv (.sl 1 (ns .i64 xs)) rfl (o_mv (Nv n) rfl ?_)
   refine n_slice xs 0 n gn f54_ rfl rfl (hi_nm rfl) trivial (by omega) (by omega) ?_
   refine o_build [Fv, .sl 1 (ns .i64 ((xs.drop 0).take (n - 0)))] [(0, [Fv]), (1, [.sl 1 (ns .i64 ((xs.drop 0).take (n - 0)))])] gn f56_ f53_ rfl rfl rfl ?_
   refine o_store [(2, .var 31 [Fv, .sl 1 (ns .i64 ((xs.drop 0).take (n - 0)))])] gn f57_ rfl rfl rfl rfl rfl rfl ?_
   refine aops_end (hK6 _ ?_)
   refine awp_ret ?_
   refine post_ret ⟨[.agg [Fv, .sl 1 (ns .i64 ((xs.drop 0).take (n - 0)))]], ⟨⟨2, .var 31 [Fv, .sl 1 (ns .i64 ((xs.drop 0).take (n - 0)))], rfl, rfl, rfl, Or.inl ⟨f58_, AV.le_refl _⟩⟩, trivial⟩, rfl, ?_⟩
   subst h4
   exact (trim_fin (k := .i64) (neg := false) hx hn hv (by first | (left; omega) | (right; assumption))).symm

theorem c_rMinus (z : Int) : ECalls cx 24 [intR z] (intR (-z)) := by
 refine ecalls_of_awp Try.func24 (c := _) rfl (Nat.le_of_ble_eq_true rfl) ?_
 show awp cx 15 _ (postF cx Try.f24 _) ⟨[(0, intR z)], []⟩
 refine awp_seq fun K0 hK0 => awp_region rfl ?_
 refine o_box 2 [bp (z < 0), .sl 1 (ns .i64 (digs z.natAbs))] gn rfl rfl ?_
 refine o_alloc 3 [Fv, Zv] gn f53_ rfl rfl rfl ?_
 refine aops_end (hK0 _ (awp_seq fun K1 hK1 => awp_region rfl ?_))
 refine o_fieldRef 0 gn f52_ rfl rfl ?_
 refine o_loadS (bp (z < 0)) gn f28_ rfl rfl rfl ?_
 refine o_notP (q := z < 0) gn rfl ?_
 refine o_mv (bp (¬ (z < 0))) rfl ?_
 refine o_splitP (q := ¬ (z < 0)) 6 rfl (fun h1 => ?_) (fun h1 => ?_)
 ·refine o_fieldRef 1 (Gd.yes rfl rfl (decide_eq_true h1)) f49_ rfl rfl ?_
  refine o_loadS (.sl 1 (ns .i64 (digs z.natAbs))) (Gd.yes rfl rfl (decide_eq_true h1)) f50_ rfl rfl rfl ?_
  refine n_len (digs z.natAbs) (Gd.yes rfl rfl (decide_eq_true h1)) f51_ rfl ?_
  refine n_gtr ((digs z.natAbs).length) 0 (Gd.yes rfl rfl (decide_eq_true h1)) rfl rfl ?_
  refine o_pickT (bp (0 < ((digs z.natAbs).length))) gn rfl (decide_eq_true h1) rfl ?_
  refine o_fieldRef 1 gn f49_ rfl rfl ?_
  refine o_loadS (.sl 1 (ns .i64 (digs z.natAbs))) gn f50_ rfl rfl rfl ?_
  refine o_build [bp (0 < ((digs z.natAbs).length)), .sl 1 (ns .i64 (digs z.natAbs))] [(0, [bp (0 < ((digs z.natAbs).length))]), (1, [.sl 1 (ns .i64 (digs z.natAbs))])] gn f56_ f53_ rfl rfl rfl ?_
  refine o_store [(3, .var 31 [bp (0 < ((digs z.natAbs).length)), .sl 1 (ns .i64 (digs z.natAbs))]), (2, oZ 31 .i64 z)] gn f57_ rfl rfl rfl rfl rfl rfl ?_
  refine aops_end (hK1 _ ?_)
  refine awp_ret ?_
  refine post_ret ⟨[.agg [bp (0 < ((digs z.natAbs).length)), .sl 1 (ns .i64 (digs z.natAbs))]], ⟨⟨3, .var 31 [bp (0 < ((digs z.natAbs).length)), .sl 1 (ns .i64 (digs z.natAbs))], rfl, rfl, rfl, Or.inl ⟨f58_, AV.le_refl _⟩⟩, trivial⟩, rfl, ?_⟩
  exact (minus_fin1 (k := .i64) h1).symm
 ·refine o_skip rfl rfl (decide_eq_false h1) (o_skip rfl rfl (decide_eq_false h1) (o_skip rfl rfl (decide_eq_false h1) (o_skip rfl rfl (decide_eq_false h1) ?_)))
  refine o_pickF Fv gn rfl (decide_eq_false h1) rfl ?_
  refine o_fieldRef 1 gn f49_ rfl rfl ?_
  refine o_loadS (.sl 1 (ns .i64 (digs z.natAbs))) gn f50_ rfl rfl rfl ?_
  refine o_build [Fv, .sl 1 (ns .i64 (digs z.natAbs))] [(0, [Fv]), (1, [.sl 1 (ns .i64 (digs z.natAbs))])] gn f56_ f53_ rfl rfl rfl ?_
  refine o_store [(3, .var 31 [Fv, .sl 1 (ns .i64 (digs z.natAbs))]), (2, oZ 31 .i64 z)] gn f57_ rfl rfl rfl rfl rfl rfl ?_
  refine aops_end (hK1 _ ?_)
  refine awp_ret ?_
  refine post_ret ⟨[.agg [Fv, .sl 1 (ns .i64 (digs z.natAbs))]], ⟨⟨3, .var 31 [Fv, .sl 1 (ns .i64 (digs z.natAbs))], rfl, rfl, rfl, Or.inl ⟨f58_, AV.le_refl _⟩⟩, trivial⟩, rfl, ?_⟩
  exact (minus_fin2 (k := .i64) h1).symm

theorem c_rSize (m n : Nat) : ECalls cx 41 [.sl 1 (ns .i64 (digs m)), .sl 1 (ns .i64 (digs n))] (.lit (.int .i64 (cmpN m n))) := by
 refine ecalls_of_awp Try.func41 (c := _) rfl (Nat.le_of_ble_eq_true rfl) ?_
 show awp cx 41 _ (postF cx Try.f41 _) ⟨[(0, .sl 1 (ns .i64 (digs m))), (1, .sl 1 (ns .i64 (digs n)))], []⟩
 refine awp_bound (i := 0) rfl fun hb => ?_
 replace hb := n_bnd hb
 refine awp_bound (i := 1) rfl fun hb2 => ?_
 replace hb2 := n_bnd hb2
 refine awp_seq fun K0 hK0 => awp_region rfl (o_as (Nv 0) rfl (aops_end (hK0 _ (awp_seq fun K1 hK1 => awp_seq fun K2 hK2 => awp_region rfl (o_mv (.sl 1 (ns .i64 (digs m))) rfl ?_)))))
 refine n_len (digs m) gn f51_ rfl ?_
 refine o_mv (.sl 1 (ns .i64 (digs n))) rfl ?_
 refine n_len (digs n) gn f51_ rfl ?_
 refine n_neq ((digs m).length) ((digs n).length) gn rfl rfl ?_
 refine aops_end (hK2 _ ?_)
 refine awp_condQ (q := ((digs m).length) ≠ ((digs n).length)) rfl (fun h1 => ?_) (fun h1 => ?_)
 ·refine awp_seq fun K3 hK3 => awp_seq fun K4 hK4 => awp_region rfl (o_mv (.sl 1 (ns .i64 (digs m))) rfl ?_)
  refine n_len (digs m) gn f51_ rfl ?_
  refine o_mv (.sl 1 (ns .i64 (digs n))) rfl ?_
  refine n_len (digs n) gn f51_ rfl ?_
  refine n_lss ((digs m).length) ((digs n).length) gn rfl rfl ?_
  refine aops_end (hK4 _ ?_)
  refine awp_condQ (q := ((digs m).length) < ((digs n).length)) rfl (fun h2 => ?_) (fun h2 => ?_)
  ·refine awp_seq fun K5 hK5 => awp_region rfl (o_as (Iv (-1)) rfl (aops_end (hK5 _ ?_)))
   refine awp_ret ?_
   refine post_ret ⟨[Iv (-1)], ⟨AV.le_refl _, trivial⟩, rfl, ?_⟩
   refine int_eq (k := .i64) ?_
   rw [cmpN_len h1, if_pos h2]
  ·refine awp_skip (hK3 _ (awp_seq fun K6 hK6 => awp_region rfl (o_as (Nv 1) rfl (aops_end (hK6 _ ?_)))))
   refine awp_ret ?_
   refine post_ret ⟨[Nv 1], ⟨AV.le_refl _, trivial⟩, rfl, ?_⟩
   refine int_eq (k := .i64) ?_
   rw [cmpN_len h1, if_neg h2]
   rfl
 ·refine awp_skip (hK1 _ (awp_seq fun K7 hK7 => awp_seq fun K8 hK8 => awp_region rfl (o_mv (.sl 1 (ns .i64 (digs m))) rfl ?_)))
  refine n_len (digs m) gn f51_ rfl ?_
  refine o_sub (a := (((digs m).length : Nat) : Int)) (c := ((1 : Nat) : Int)) gn rfl rfl (by exact wrap64 (by omega) (by omega)) ?_
  refine o_as (Iv ((((digs m).length : Nat) : Int) - ((1 : Nat) : Int))) rfl (aops_end (hK8 _ ?_))
  refine awp_block ?_
  refine awp_loopR (fun κ σ => ∃ (j : Nat), (j ≤ (digs m).length) ∧ (val ((digs m).drop j) = val ((digs n).drop j)) ∧ j = κ ∧ σ = ⟨[(0, .sl 1 (ns .i64 (digs m))), (1, .sl 1 (ns .i64 (digs n))), (5, (Iv ((j : Int) - 1)))], []⟩) ⟨_, _, ⟨(digs m).length, Nat.le_refl _, (by rw [val_drop_all (Nat.le_refl _), val_drop_all (by omega)]), rfl, rfl⟩, ?wk0⟩ ?rd0
  case wk0 =>
   exact Wk.sub ⟨rfl, rfl, (by first | rfl | exact int_eq (by omega) | exact int_nm (by omega)), trivial⟩ trivial
  rintro κ _ ⟨j, hj, hv, rfl, rfl⟩
  refine awp_seq fun K9 hK9 => awp_seq fun K10 hK10 => awp_region rfl (o_mv (Iv ((j : Int) - 1)) rfl ?_)
  refine o_geq (a := ((j : Int) - 1)) (c := ((0 : Nat) : Int)) gn rfl rfl ?_
  refine aops_end (hK10 _ ?_)
  refine awp_condQ (q := ((0 : Nat) : Int) ≤ ((j : Int) - 1)) rfl (fun h3 => ?_) (fun h3 => ?_)
  ·refine awp_wk (Wk.slot (i := 5) (y := (Nv (j - 1))) (AV.le_eq (by exact nm_int (by omega)))) ?_
   refine awp_skip (hK9 _ (awp_seq fun K11 hK11 => ?_))
   refine awp_block ?_
   refine awp_seq fun K12 hK12 => awp_seq fun K13 hK13 => awp_regionD rfl (o_mv (.sl 1 (ns .i64 (digs m))) rfl (o_mv (Nv (j - 1)) rfl ?_))
   refine n_index (digs m) (j - 1) gn f54_ rfl rfl (by omega) ?_
   refine n_loadI (digs m) (j - 1) gn f55_ rfl (by omega) ?_
   refine o_mv (.sl 1 (ns .i64 (digs n))) rfl (o_mv (Nv (j - 1)) rfl ?_)
   refine n_index (digs n) (j - 1) gn f54_ rfl rfl (by omega) ?_
   refine n_loadI (digs n) (j - 1) gn f55_ rfl (by omega) ?_
   refine n_lss ((digs m).getD (j - 1) 0) ((digs n).getD (j - 1) 0) gn rfl rfl ?_
   refine aops_end ⟨by kernel_rfl, ?_⟩
   refine hK13 _ ?_
   refine awp_condQ (q := ((digs m).getD (j - 1) 0) < ((digs n).getD (j - 1) 0)) rfl (fun h4 => ?_) (fun h4 => ?_)
   ·refine awp_seq fun K14 hK14 => awp_region rfl (o_as (Iv (-1)) rfl (aops_end (hK14 _ ?_)))
    refine awp_ret ?_
    refine post_ret ⟨[Iv (-1)], ⟨AV.le_refl _, trivial⟩, rfl, ?_⟩
    exact int_eq (k := .i64) (cmpN_lt (j := j - 1) (by omega) (by omega) (by rw [Nat.sub_add_cancel (by omega)]; exact hv) (by assumption))
   ·refine awp_skip (hK12 _ (awp_seq fun K15 hK15 => awp_regionD rfl (o_mv (.sl 1 (ns .i64 (digs m))) rfl (o_mv (Nv (j - 1)) rfl ?_))))
    refine n_index (digs m) (j - 1) gn f54_ rfl rfl (by omega) ?_
    refine n_loadI (digs m) (j - 1) gn f55_ rfl (by omega) ?_
    refine o_mv (.sl 1 (ns .i64 (digs n))) rfl (o_mv (Nv (j - 1)) rfl ?_)
    refine n_index (digs n) (j - 1) gn f54_ rfl rfl (by omega) ?_
    refine n_loadI (digs n) (j - 1) gn f55_ rfl (by omega) ?_
    refine n_gtr ((digs m).getD (j - 1) 0) ((digs n).getD (j - 1) 0) gn rfl rfl ?_
    refine aops_end ⟨by kernel_rfl, ?_⟩
    refine hK15 _ ?_
    refine awp_condQ (q := ((digs n).getD (j - 1) 0) < ((digs m).getD (j - 1) 0)) rfl (fun h5 => ?_) (fun h5 => ?_)
    ·refine awp_seq fun K16 hK16 => awp_region rfl (o_as (Nv 1) rfl (aops_end (hK16 _ ?_)))
     refine awp_ret ?_
     refine post_ret ⟨[Nv 1], ⟨AV.le_refl _, trivial⟩, rfl, ?_⟩
     exact int_eq (k := .i64) (cmpN_gt (j := j - 1) (by omega) (by omega) (by rw [Nat.sub_add_cancel (by omega)]; exact hv) (by assumption))
    ·refine awp_skip (hK11 _ (awp_region rfl (o_mv (Nv (j - 1)) rfl ?_)))
     refine o_sub (a := ((j - 1 : Nat) : Int)) (c := ((1 : Nat) : Int)) gn rfl rfl (by exact wrap64 (by omega) (by omega)) ?_
     refine o_as (Iv (((j - 1 : Nat) : Int) - ((1 : Nat) : Int))) rfl (aops_end ?_)
     refine ⟨_, _, ?lt, ⟨j - 1, (by omega), (by rw [val_drop_succ (xs := digs m) (j := j - 1) (by omega), val_drop_succ (xs := digs n) (j := j - 1) (by omega), Nat.sub_add_cancel (by omega), hv, show (digs m).getD (j - 1) 0 = (digs n).getD (j - 1) 0 by omega]), rfl, rfl⟩, ?wk⟩
     case lt => omega
     case wk => exact Wk.sub ⟨rfl, rfl, (by first | rfl | exact int_eq (by omega) | exact int_nm (by omega)), trivial⟩ trivial
  ·refine awp_exit ?_
   refine hK7 _ (awp_seq fun K17 hK17 => awp_region rfl (o_as (Nv 0) rfl (aops_end (hK17 _ ?_))))
   refine awp_ret ?_
   refine post_ret ⟨[Nv 0], ⟨AV.le_refl _, trivial⟩, rfl, ?_⟩
   have : j = 0 := by omega
   subst this
   exact int_eq (k := .i64) (cmpN_eq hv)

theorem c_rCmp (x y : Int) : ECalls cx 18 [intR x, intR y] (.lit (.int .i64 (cmpZ x y))) := by
 refine ecalls_of_awp Try.func18 (c := _) rfl (Nat.le_of_ble_eq_true rfl) ?_
 show awp cx 27 _ (postF cx Try.f18 _) ⟨[(0, intR x), (1, intR y)], []⟩
 refine awp_seq fun K0 hK0 => awp_region rfl ?_
 refine o_box 2 [bp (x < 0), .sl 1 (ns .i64 (digs x.natAbs))] gn rfl rfl ?_
 refine o_box 3 [bp (y < 0), .sl 1 (ns .i64 (digs y.natAbs))] gn rfl rfl ?_
 refine o_as (Nv 0) rfl (aops_end (hK0 _ (awp_seq fun K1 hK1 => awp_seq fun K2 hK2 => awp_regionD rfl ?_)))
 refine o_loadA [bp (x < 0), .sl 1 (ns .i64 (digs x.natAbs))] gn f58_ rfl rfl rfl rfl rfl ?_
 refine o_ct (c_rSign x) gn f59_ rfl ?_
 refine o_loadA [bp (y < 0), .sl 1 (ns .i64 (digs y.natAbs))] gn f58_ rfl rfl rfl rfl rfl ?_
 refine o_ct (c_rSign y) gn f59_ rfl ?_
 refine o_neq (a := (sgn x)) (c := (sgn y)) gn rfl rfl ?_
 refine aops_end ⟨by kernel_rfl, ?_⟩
 refine hK2 _ ?_
 refine awp_condQ (q := (sgn x) ≠ (sgn y)) rfl (fun h1 => ?_) (fun h1 => ?_)
 ·refine awp_seq fun K3 hK3 => awp_seq fun K4 hK4 => awp_regionD rfl ?_
  refine o_loadA [bp (x < 0), .sl 1 (ns .i64 (digs x.natAbs))] gn f58_ rfl rfl rfl rfl rfl ?_
  refine o_ct (c_rSign x) gn f59_ rfl ?_
  refine o_loadA [bp (y < 0), .sl 1 (ns .i64 (digs y.natAbs))] gn f58_ rfl rfl rfl rfl rfl ?_
  refine o_ct (c_rSign y) gn f59_ rfl ?_
  refine o_lss (a := (sgn x)) (c := (sgn y)) gn rfl rfl ?_
  refine aops_end ⟨by kernel_rfl, ?_⟩
  refine hK4 _ ?_
  refine awp_condQ (q := (sgn x) < (sgn y)) rfl (fun h2 => ?_) (fun h2 => ?_)
  ·refine awp_seq fun K5 hK5 => awp_region rfl (o_as (Iv (-1)) rfl (aops_end (hK5 _ ?_)))
   refine awp_ret ?_
   refine post_ret ⟨[Iv (-1)], ⟨AV.le_refl _, trivial⟩, rfl, ?_⟩
   exact int_eq (k := .i64) (cmpZ_sgn_lt h2)
  ·refine awp_skip (hK3 _ (awp_seq fun K6 hK6 => awp_region rfl (o_as (Nv 1) rfl (aops_end (hK6 _ ?_)))))
   refine awp_ret ?_
   refine post_ret ⟨[Nv 1], ⟨AV.le_refl _, trivial⟩, rfl, ?_⟩
   exact int_eq (k := .i64) (cmpZ_sgn_gt h1 h2)
 ·refine awp_skip (hK1 _ (awp_seq fun K7 hK7 => awp_seq fun K8 hK8 => awp_region rfl ?_))
  refine o_fieldRef 0 gn f52_ rfl rfl ?_
  refine o_loadS (bp (x < 0)) gn f28_ rfl rfl rfl ?_
  refine aops_end (hK8 _ ?_)
  refine awp_condQ (q := x < 0) rfl (fun h3 => ?_) (fun h3 => ?_)
  ·refine awp_seq fun K9 hK9 => awp_region rfl ?_
   refine o_fieldRef 1 gn f49_ rfl rfl ?_
   refine o_loadS (.sl 1 (ns .i64 (digs y.natAbs))) gn f50_ rfl rfl rfl ?_
   refine o_fieldRef 1 gn f49_ rfl rfl ?_
   refine o_loadS (.sl 1 (ns .i64 (digs x.natAbs))) gn f50_ rfl rfl rfl ?_
   refine o_ct (c_rSize (y.natAbs) (x.natAbs)) gn f60_ rfl ?_
   refine o_as (Iv (cmpN (y.natAbs) (x.natAbs))) rfl (aops_end (hK9 _ ?_))
   refine awp_ret ?_
   refine post_ret ⟨[Iv (cmpN (y.natAbs) (x.natAbs))], ⟨AV.le_refl _, trivial⟩, rfl, ?_⟩
   exact int_eq (k := .i64) (cmpZ_neg h3 (Decidable.not_not.1 h1))
  ·refine awp_skip (hK7 _ (awp_seq fun K10 hK10 => awp_region rfl ?_))
   refine o_fieldRef 1 gn f49_ rfl rfl ?_
   refine o_loadS (.sl 1 (ns .i64 (digs x.natAbs))) gn f50_ rfl rfl rfl ?_
   refine o_fieldRef 1 gn f49_ rfl rfl ?_
   refine o_loadS (.sl 1 (ns .i64 (digs y.natAbs))) gn f50_ rfl rfl rfl ?_
   refine o_ct (c_rSize (x.natAbs) (y.natAbs)) gn f60_ rfl ?_
   refine o_as (Iv (cmpN (x.natAbs) (y.natAbs))) rfl (aops_end (hK10 _ ?_))
   refine awp_ret ?_
   refine post_ret ⟨[Iv (cmpN (x.natAbs) (y.natAbs))], ⟨AV.le_refl _, trivial⟩, rfl, ?_⟩
   exact int_eq (k := .i64) (cmpZ_pos h3 (Decidable.not_not.1 h1))

theorem c_rPart (xs : List Nat) (i : Nat) : ECalls cx 60 [.sl 1 (ns .i64 xs), Nv i] (Nv (xs.getD i 0)) := by
 refine ecalls_of_awp Try.func60 (c := _) rfl (Nat.le_of_ble_eq_true rfl) ?_
 show awp cx 13 _ (postF cx Try.f60 _) ⟨[(0, .sl 1 (ns .i64 xs)), (1, Nv i)], []⟩
 refine awp_seq fun K0 hK0 => awp_region rfl (o_as (Nv 0) rfl (aops_end (hK0 _ (awp_seq fun K1 hK1 => awp_seq fun K2 hK2 => awp_region rfl (o_mv (Nv i) rfl (o_mv (.sl 1 (ns .i64 xs)) rfl ?_))))))
 refine n_len xs gn f51_ rfl ?_
 refine n_lss i (xs.length) gn rfl rfl ?_
 refine aops_end (hK2 _ ?_)
 refine awp_condQ (q := i < (xs.length)) rfl (fun h1 => ?_) (fun h1 => ?_)
 ·refine awp_seq fun K3 hK3 => awp_region rfl (o_mv (.sl 1 (ns .i64 xs)) rfl (o_mv (Nv i) rfl ?_))
  refine n_index xs i gn f54_ rfl rfl (by omega) ?_
  refine n_loadI xs i gn f55_ rfl (by omega) ?_
  refine o_as (Nv (xs.getD i 0)) rfl (aops_end (hK3 _ ?_))
  refine awp_ret ?_
  refine post_ret ⟨[Nv (xs.getD i 0)], ⟨AV.le_refl _, trivial⟩, rfl, ?_⟩
  rfl
 ·refine awp_skip (hK1 _ (awp_seq fun K4 hK4 => awp_region rfl (o_as (Nv 0) rfl (aops_end (hK4 _ ?_)))))
  refine awp_ret ?_
  refine post_ret ⟨[Nv 0], ⟨AV.le_refl _, trivial⟩, rfl, ?_⟩
  exact congrArg (nm .i64) (getD_ge (by omega))

theorem c_rMore (m n : Nat) (hm : (digs m).length ≤ 1000000000) (hn : (digs n).length ≤ 1000000000) : ECalls cx 45 [.sl 1 (ns .i64 (digs m)), .sl 1 (ns .i64 (digs n))] (.sl 1 (ns .i64 (dgn (moreN m n) (m + n)))) := by
 refine ecalls_of_awp Try.func45 (c := _) rfl (Nat.le_of_ble_eq_true rfl) ?_
 show awp cx 42 _ (postF cx Try.f45 _) ⟨[(0, .sl 1 (ns .i64 (digs m))), (1, .sl 1 (ns .i64 (digs n)))], []⟩
 refine awp_bound (i := 0) rfl fun hb => ?_
 replace hb := n_bnd hb
 refine awp_bound (i := 1) rfl fun hb2 => ?_
 replace hb2 := n_bnd hb2
 refine awp_seq fun K0 hK0 => awp_region rfl (o_as Zv rfl (aops_end (hK0 _ (awp_seq fun K1 hK1 => awp_region rfl (o_as Zv rfl (aops_end (hK1 _ (awp_seq fun K2 hK2 => awp_region rfl ?_))))))))
 refine o_as (Nv 0) rfl (aops_end (hK2 _ (awp_seq fun K3 hK3 => awp_seq fun K4 hK4 => awp_region rfl (o_as (Nv 0) rfl (aops_end (hK4 _ ?_))))))
 refine awp_block ?_
 refine awp_loopR (fun κ σ => ∃ (i : Nat), ∃ (r : List Nat), ∃ (c : Nat), (r.length = i) ∧ (Dig r) ∧ (c ≤ 1) ∧ (val r + 1000000000 ^ i * c = val ((digs m).take i) + val ((digs n).take i)) ∧ (i ≤ max (digs m).length (digs n).length ∨ (i = max (digs m).length (digs n).length + 1 ∧ c = 0 ∧ 1000000000 ^ (max (digs m).length (digs n).length) ≤ m + n)) ∧ (max (digs m).length (digs n).length + 2 - i) = κ ∧ σ = ⟨[(0, .sl 1 (ns .i64 (digs m))), (1, .sl 1 (ns .i64 (digs n))), (5, .row 3), (6, Nv c), (7, Nv i)], [(3, .row 3 1 (ns .i64 r))]⟩) ⟨_, _, ⟨0, [], 0, rfl, Dig.nil, (by omega), (by simp [val]), (Or.inl (by omega)), rfl, rfl⟩, ?wk0⟩ ?rd0
 case wk0 =>
  exact Wk.trans (Wk.newNil (i := 5) (id := 502) (e := 3) (sz := 1) rfl rfl (by decide)) (Wk.trans (Wk.sub (σ' := ⟨[(0, .sl 1 (ns .i64 (digs m))), (1, .sl 1 (ns .i64 (digs n))), (5, .row 502), (6, Nv 0), (7, Nv 0)], [(502, .row 3 1 (ns .i64 ([])))]⟩) ⟨rfl, rfl, rfl, rfl, rfl, trivial⟩ ⟨rfl, trivial⟩) (Wk.trans (Wk.ren (id := 502) (id' := 3) rfl) (Wk.sub ⟨rfl, rfl, (by first | rfl | simp), (by first | rfl | exact nm_int (by omega)), (by first | rfl | exact nm_int (by omega)), trivial⟩ ⟨(by first | rfl | exact row_ns (by simp)), trivial⟩)))
 rintro κ _ ⟨i, r, c, hl, hd, hc, hv, hi, rfl, rfl⟩
 have hA := Dig.getD (digs_dig m) i
 have hB := Dig.getD (digs_dig n) i
 refine awp_seq fun K5 hK5 => awp_seq fun K6 hK6 => awp_region rfl (o_mv (Nv i) rfl (o_mv (.sl 1 (ns .i64 (digs m))) rfl ?_))
 refine n_len (digs m) gn f51_ rfl ?_
 refine n_lss i ((digs m).length) gn rfl rfl ?_
 refine o_mv (bp (i < ((digs m).length))) rfl ?_
 refine o_splitP (q := i < ((digs m).length)) 13 rfl (fun h1 => ?_) (fun h1 => ?_)
 ·refine o_skip rfl rfl (decide_eq_true h1) (o_skip rfl rfl (decide_eq_true h1) (o_skip rfl rfl (decide_eq_true h1) (o_skip rfl rfl (decide_eq_true h1) ?_)))
  refine o_pickT Tv gn rfl (decide_eq_true h1) rfl ?_
  refine o_mv Tv rfl (o_skip rfl rfl rfl (o_skip rfl rfl rfl ?_))
  refine o_pickT Tv gn rfl rfl rfl ?_
  refine aops_end (hK6 _ ?_)
  refine awp_condB (b := true) rfl (fun _ => ?_) (fun hh => absurd (hh.symm.trans rfl) (by decide))
  refine awp_skip (hK5 _ (awp_seq fun K7 hK7 => ?_))
  refine awp_block ?_
  refine awp_seq fun K8 hK8 => awp_region rfl (o_mv (.sl 1 (ns .i64 (digs m))) rfl (o_mv (Nv i) rfl ?_))
  refine o_ct (c_rPart (digs m) i) gn f61_ rfl ?_
  refine o_mv (.sl 1 (ns .i64 (digs n))) rfl (o_mv (Nv i) rfl ?_)
  refine o_ct (c_rPart (digs n) i) gn f61_ rfl ?_
  refine n_add ((digs m).getD i 0) ((digs n).getD i 0) gn rfl rfl (by simp only [topOf]; omega) ?_
  refine o_mv (Nv c) rfl ?_
  refine n_add (((digs m).getD i 0) + ((digs n).getD i 0)) c gn rfl rfl (by simp only [topOf]; omega) ?_
  refine o_as (Nv ((((digs m).getD i 0) + ((digs n).getD i 0)) + c)) rfl (aops_end (hK8 _ (awp_seq fun K9 hK9 => awp_region rfl (o_mv (.row 3) rfl (o_mv (Nv ((((digs m).getD i 0) + ((digs n).getD i 0)) + c)) rfl ?_)))))
  refine n_rem ((((digs m).getD i 0) + ((digs n).getD i 0)) + c) 1000000000 gn rfl rfl (by omega) ?_
  refine o_buildSlice 101 (ns .i64 ([((((digs m).getD i 0) + ((digs n).getD i 0)) + c) % 1000000000])) [(0, [Nv (((((digs m).getD i 0) + ((digs n).getD i 0)) + c) % 1000000000)])] gn f54_ rfl f62_ rfl rfl rfl rfl rfl rfl rfl ?_
  refine n_append 102 r ([((((digs m).getD i 0) + ((digs n).getD i 0)) + c) % 1000000000]) [(101, .row 3 1 (ns .i64 ([((((digs m).getD i 0) + ((digs n).getD i 0)) + c) % 1000000000])))] gn f54_ f62_ rfl rfl rfl rfl rfl (by simp only [List.length_append, List.length_cons, List.length_nil]; omega) (by decide) rfl rfl ?_
  refine o_as (.row 102) rfl (aops_end (hK9 _ (awp_region rfl (o_mv (Nv ((((digs m).getD i 0) + ((digs n).getD i 0)) + c)) rfl ?_))))
  refine n_quo ((((digs m).getD i 0) + ((digs n).getD i 0)) + c) 1000000000 gn rfl rfl (by omega) (by simp only [topOf]; omega) ?_
  refine o_as (Nv (((((digs m).getD i 0) + ((digs n).getD i 0)) + c) / 1000000000)) rfl (aops_end (hK7 _ (awp_region rfl (o_mv (Nv i) rfl ?_))))
  refine n_add i 1 gn rfl rfl (by simp only [topOf]; omega) ?_
  refine o_as (Nv (i + 1)) rfl (aops_end ?_)
  refine ⟨_, _, ?lt, ⟨i + 1, r ++ ([((((digs m).getD i 0) + ((digs n).getD i 0)) + c) % 1000000000]), ((((digs m).getD i 0) + ((digs n).getD i 0)) + c) / 1000000000, (by simp [hl]), (hd.snoc (Nat.mod_lt _ (by decide))), (by omega), add_step hl hv rfl, (more_hi hc hv hi (by omega)), rfl, rfl⟩, ?wk⟩
  case lt => omega
  case wk => exact Wk.trans (Wk.sub (σ' := ⟨[(0, .sl 1 (ns .i64 (digs m))), (1, .sl 1 (ns .i64 (digs n))), (5, .row 102), (6, Nv (((((digs m).getD i 0) + ((digs n).getD i 0)) + c) / 1000000000)), (7, Nv (i + 1))], [(102, .row 3 1 (ns .i64 (r ++ ([((((digs m).getD i 0) + ((digs n).getD i 0)) + c) % 1000000000]))))]⟩) ⟨rfl, rfl, rfl, rfl, rfl, trivial⟩ ⟨rfl, trivial⟩) (Wk.trans (Wk.ren (id := 102) (id' := 3) rfl) (Wk.sub ⟨rfl, rfl, (by first | rfl | simp), (by first | rfl | exact nm_int (by omega)), (by first | rfl | exact nm_int (by omega)), trivial⟩ ⟨(by first | rfl | exact row_ns (by simp)), trivial⟩))
 ·refine o_move (Nv i) (Gd.yes rfl rfl (decide_eq_false h1)) rfl (o_move (.sl 1 (ns .i64 (digs n))) (Gd.yes rfl rfl (decide_eq_false h1)) rfl ?_)
  refine n_len (digs n) (Gd.yes rfl rfl (decide_eq_false h1)) f51_ rfl ?_
  refine n_lss i ((digs n).length) (Gd.yes rfl rfl (decide_eq_false h1)) rfl rfl ?_
  refine o_pickF (bp (i < ((digs n).length))) gn rfl (decide_eq_false h1) rfl ?_
  refine o_mv (bp (i < ((digs n).length))) rfl ?_
  refine o_splitP (q := i < ((digs n).length)) 19 rfl (fun h2 => ?_) (fun h2 => ?_)
  ·refine o_skip rfl rfl (decide_eq_true h2) (o_skip rfl rfl (decide_eq_true h2) ?_)
   refine o_pickT Tv gn rfl (decide_eq_true h2) rfl ?_
   refine aops_end (hK6 _ ?_)
   refine awp_condB (b := true) rfl (fun _ => ?_) (fun hh => absurd (hh.symm.trans rfl) (by decide))
   refine awp_skip (hK5 _ (awp_seq fun K10 hK10 => ?_))
   refine awp_block ?_
   refine awp_seq fun K11 hK11 => awp_region rfl (o_mv (.sl 1 (ns .i64 (digs m))) rfl (o_mv (Nv i) rfl ?_))
   refine o_ct (c_rPart (digs m) i) gn f61_ rfl ?_
   refine o_mv (.sl 1 (ns .i64 (digs n))) rfl (o_mv (Nv i) rfl ?_)
   refine o_ct (c_rPart (digs n) i) gn f61_ rfl ?_
   refine n_add ((digs m).getD i 0) ((digs n).getD i 0) gn rfl rfl (by simp only [topOf]; omega) ?_
   refine o_mv (Nv c) rfl ?_
   refine n_add (((digs m).getD i 0) + ((digs n).getD i 0)) c gn rfl rfl (by simp only [topOf]; omega) ?_
   refine o_as (Nv ((((digs m).getD i 0) + ((digs n).getD i 0)) + c)) rfl (aops_end (hK11 _ (awp_seq fun K12 hK12 => awp_region rfl (o_mv (.row 3) rfl (o_mv (Nv ((((digs m).getD i 0) + ((digs n).getD i 0)) + c)) rfl ?_)))))
   refine n_rem ((((digs m).getD i 0) + ((digs n).getD i 0)) + c) 1000000000 gn rfl rfl (by omega) ?_
   refine o_buildSlice 101 (ns .i64 ([((((digs m).getD i 0) + ((digs n).getD i 0)) + c) % 1000000000])) [(0, [Nv (((((digs m).getD i 0) + ((digs n).getD i 0)) + c) % 1000000000)])] gn f54_ rfl f62_ rfl rfl rfl rfl rfl rfl rfl ?_
   refine n_append 102 r ([((((digs m).getD i 0) + ((digs n).getD i 0)) + c) % 1000000000]) [(101, .row 3 1 (ns .i64 ([((((digs m).getD i 0) + ((digs n).getD i 0)) + c) % 1000000000])))] gn f54_ f62_ rfl rfl rfl rfl rfl (by simp only [List.length_append, List.length_cons, List.length_nil]; omega) (by decide) rfl rfl ?_
   refine o_as (.row 102) rfl (aops_end (hK12 _ (awp_region rfl (o_mv (Nv ((((digs m).getD i 0) + ((digs n).getD i 0)) + c)) rfl ?_))))
   refine n_quo ((((digs m).getD i 0) + ((digs n).getD i 0)) + c) 1000000000 gn rfl rfl (by omega) (by simp only [topOf]; omega) ?_
   refine o_as (Nv (((((digs m).getD i 0) + ((digs n).getD i 0)) + c) / 1000000000)) rfl (aops_end (hK10 _ (awp_region rfl (o_mv (Nv i) rfl ?_))))
   refine n_add i 1 gn rfl rfl (by simp only [topOf]; omega) ?_
   refine o_as (Nv (i + 1)) rfl (aops_end ?_)
   refine ⟨_, _, ?lt, ⟨i + 1, r ++ ([((((digs m).getD i 0) + ((digs n).getD i 0)) + c) % 1000000000]), ((((digs m).getD i 0) + ((digs n).getD i 0)) + c) / 1000000000, (by simp [hl]), (hd.snoc (Nat.mod_lt _ (by decide))), (by omega), add_step hl hv rfl, (more_hi hc hv hi (by omega)), rfl, rfl⟩, ?wk⟩
   case lt => omega
   case wk => exact Wk.trans (Wk.sub (σ' := ⟨[(0, .sl 1 (ns .i64 (digs m))), (1, .sl 1 (ns .i64 (digs n))), (5, .row 102), (6, Nv (((((digs m).getD i 0) + ((digs n).getD i 0)) + c) / 1000000000)), (7, Nv (i + 1))], [(102, .row 3 1 (ns .i64 (r ++ ([((((digs m).getD i 0) + ((digs n).getD i 0)) + c) % 1000000000]))))]⟩) ⟨rfl, rfl, rfl, rfl, rfl, trivial⟩ ⟨rfl, trivial⟩) (Wk.trans (Wk.ren (id := 102) (id' := 3) rfl) (Wk.sub ⟨rfl, rfl, (by first | rfl | simp), (by first | rfl | exact nm_int (by omega)), (by first | rfl | exact nm_int (by omega)), trivial⟩ ⟨(by first | rfl | exact row_ns (by simp)), trivial⟩))
  ·refine o_move (Nv c) (Gd.yes rfl rfl (decide_eq_false h2)) rfl ?_
   refine n_gtr c 0 (Gd.yes rfl rfl (decide_eq_false h2)) rfl rfl ?_
   refine o_pickF (bp (0 < c)) gn rfl (decide_eq_false h2) rfl ?_
   refine aops_end (hK6 _ ?_)
   refine awp_condQ (q := 0 < c) rfl (fun h3 => ?_) (fun h3 => ?_)
   ·refine awp_skip (hK5 _ (awp_seq fun K13 hK13 => ?_))
    refine awp_block ?_
    refine awp_seq fun K14 hK14 => awp_region rfl (o_mv (.sl 1 (ns .i64 (digs m))) rfl (o_mv (Nv i) rfl ?_))
    refine o_ct (c_rPart (digs m) i) gn f61_ rfl ?_
    refine o_mv (.sl 1 (ns .i64 (digs n))) rfl (o_mv (Nv i) rfl ?_)
    refine o_ct (c_rPart (digs n) i) gn f61_ rfl ?_
    refine n_add ((digs m).getD i 0) ((digs n).getD i 0) gn rfl rfl (by simp only [topOf]; omega) ?_
    refine o_mv (Nv c) rfl ?_
    refine n_add (((digs m).getD i 0) + ((digs n).getD i 0)) c gn rfl rfl (by simp only [topOf]; omega) ?_
    refine o_as (Nv ((((digs m).getD i 0) + ((digs n).getD i 0)) + c)) rfl (aops_end (hK14 _ (awp_seq fun K15 hK15 => awp_region rfl (o_mv (.row 3) rfl (o_mv (Nv ((((digs m).getD i 0) + ((digs n).getD i 0)) + c)) rfl ?_)))))
    refine n_rem ((((digs m).getD i 0) + ((digs n).getD i 0)) + c) 1000000000 gn rfl rfl (by omega) ?_
    refine o_buildSlice 101 (ns .i64 ([((((digs m).getD i 0) + ((digs n).getD i 0)) + c) % 1000000000])) [(0, [Nv (((((digs m).getD i 0) + ((digs n).getD i 0)) + c) % 1000000000)])] gn f54_ rfl f62_ rfl rfl rfl rfl rfl rfl rfl ?_
    refine n_append 102 r ([((((digs m).getD i 0) + ((digs n).getD i 0)) + c) % 1000000000]) [(101, .row 3 1 (ns .i64 ([((((digs m).getD i 0) + ((digs n).getD i 0)) + c) % 1000000000])))] gn f54_ f62_ rfl rfl rfl rfl rfl (by simp only [List.length_append, List.length_cons, List.length_nil]; omega) (by decide) rfl rfl ?_
    refine o_as (.row 102) rfl (aops_end (hK15 _ (awp_region rfl (o_mv (Nv ((((digs m).getD i 0) + ((digs n).getD i 0)) + c)) rfl ?_))))
    refine n_quo ((((digs m).getD i 0) + ((digs n).getD i 0)) + c) 1000000000 gn rfl rfl (by omega) (by simp only [topOf]; omega) ?_
    refine o_as (Nv (((((digs m).getD i 0) + ((digs n).getD i 0)) + c) / 1000000000)) rfl (aops_end (hK13 _ (awp_region rfl (o_mv (Nv i) rfl ?_))))
    refine n_add i 1 gn rfl rfl (by simp only [topOf]; omega) ?_
    refine o_as (Nv (i + 1)) rfl (aops_end ?_)
    refine ⟨_, _, ?lt, ⟨i + 1, r ++ ([((((digs m).getD i 0) + ((digs n).getD i 0)) + c) % 1000000000]), ((((digs m).getD i 0) + ((digs n).getD i 0)) + c) / 1000000000, (by simp [hl]), (hd.snoc (Nat.mod_lt _ (by decide))), (by omega), add_step hl hv rfl, (more_hi hc hv hi (by omega)), rfl, rfl⟩, ?wk⟩
    case lt => omega
    case wk => exact Wk.trans (Wk.sub (σ' := ⟨[(0, .sl 1 (ns .i64 (digs m))), (1, .sl 1 (ns .i64 (digs n))), (5, .row 102), (6, Nv (((((digs m).getD i 0) + ((digs n).getD i 0)) + c) / 1000000000)), (7, Nv (i + 1))], [(102, .row 3 1 (ns .i64 (r ++ ([((((digs m).getD i 0) + ((digs n).getD i 0)) + c) % 1000000000]))))]⟩) ⟨rfl, rfl, rfl, rfl, rfl, trivial⟩ ⟨rfl, trivial⟩) (Wk.trans (Wk.ren (id := 102) (id' := 3) rfl) (Wk.sub ⟨rfl, rfl, (by first | rfl | simp), (by first | rfl | exact nm_int (by omega)), (by first | rfl | exact nm_int (by omega)), trivial⟩ ⟨(by first | rfl | exact row_ns (by simp)), trivial⟩))
   ·refine awp_exit ?_
    refine hK3 _ (awp_seq fun K16 hK16 => awp_region rfl (o_mv (.row 3) rfl (o_as (.row 3) rfl (aops_end (hK16 _ ?_)))))
    refine awp_wk (σ' := ⟨[(4, .row 3)], [(3, .row 3 1 (ns .i64 r))]⟩) (Wk.sub ⟨rfl, trivial⟩ ⟨rfl, trivial⟩) ?_
    refine awp_wk (σ' := ⟨[(4, .sl 1 (ns .i64 r))], []⟩) (Wk.freeze (id := 3) (e := 3) (sz := 1) (cs := (ns .i64 r)) rfl) ?_
    refine awp_ret ?_
    refine post_ret ⟨[.sl 1 (ns .i64 r)], ⟨AV.le_refl _, trivial⟩, rfl, ?_⟩
    have hc0 : c = 0 := by omega
    subst hc0
    exact ns_congr (more_fin hl hd (by omega) (by omega) hv (by rcases hi with h | ⟨h, _, h'⟩; exact Or.inl h; exact Or.inr ⟨h, h'⟩)).symm

theorem c_rLess (m n : Nat) (hnm : n ≤ m) (hm : (digs m).length ≤ 1000000000) (hn : (digs n).length ≤ 1000000000) : ECalls cx 46 [.sl 1 (ns .i64 (digs m)), .sl 1 (ns .i64 (digs n))] (.sl 1 (ns .i64 (dgn (digs m).length (m - n)))) := by
 refine ecalls_of_awp Try.func46 (c := _) rfl (Nat.le_of_ble_eq_true rfl) ?_
 show awp cx 34 _ (postF cx Try.f46 _) ⟨[(0, .sl 1 (ns .i64 (digs m))), (1, .sl 1 (ns .i64 (digs n)))], []⟩
 refine awp_bound (i := 0) rfl fun hb => ?_
 replace hb := n_bnd hb
 refine awp_bound (i := 1) rfl fun hb2 => ?_
 replace hb2 := n_bnd hb2
 refine awp_seq fun K0 hK0 => awp_region rfl (o_as Zv rfl (aops_end (hK0 _ (awp_seq fun K1 hK1 => awp_region rfl (o_as Zv rfl (aops_end (hK1 _ (awp_seq fun K2 hK2 => awp_region rfl ?_))))))))
 refine o_as (Nv 0) rfl (aops_end (hK2 _ (awp_seq fun K3 hK3 => awp_seq fun K4 hK4 => awp_region rfl (o_as (Nv 0) rfl (aops_end (hK4 _ ?_))))))
 refine awp_block ?_
 refine awp_loopR (fun κ σ => ∃ (i : Nat), ∃ (r : List Nat), ∃ (c : Nat), (r.length = i) ∧ (i ≤ (digs m).length) ∧ (Dig r) ∧ (c ≤ 1) ∧ (val r + val ((digs n).take i) = val ((digs m).take i) + 1000000000 ^ i * c) ∧ ((digs m).length - i) = κ ∧ σ = ⟨[(0, .sl 1 (ns .i64 (digs m))), (1, .sl 1 (ns .i64 (digs n))), (5, .row 3), (6, Nv c), (7, Nv i)], [(3, .row 3 1 (ns .i64 r))]⟩) ⟨_, _, ⟨0, [], 0, rfl, (by omega), Dig.nil, (by omega), (by simp [val]), rfl, rfl⟩, ?wk0⟩ ?rd0
 case wk0 =>
  exact Wk.trans (Wk.newNil (i := 5) (id := 502) (e := 3) (sz := 1) rfl rfl (by decide)) (Wk.trans (Wk.sub (σ' := ⟨[(0, .sl 1 (ns .i64 (digs m))), (1, .sl 1 (ns .i64 (digs n))), (5, .row 502), (6, Nv 0), (7, Nv 0)], [(502, .row 3 1 (ns .i64 ([])))]⟩) ⟨rfl, rfl, rfl, rfl, rfl, trivial⟩ ⟨rfl, trivial⟩) (Wk.trans (Wk.ren (id := 502) (id' := 3) rfl) (Wk.sub ⟨rfl, rfl, (by first | rfl | simp), (by first | rfl | exact nm_int (by omega)), (by first | rfl | exact nm_int (by omega)), trivial⟩ ⟨(by first | rfl | exact row_ns (by simp)), trivial⟩)))
 rintro κ _ ⟨i, r, c, hl, hi, hd, hc, hv, rfl, rfl⟩
 have hA := Dig.getD (digs_dig m) i
 have hB := Dig.getD (digs_dig n) i
 refine awp_seq fun K5 hK5 => awp_seq fun K6 hK6 => awp_region rfl (o_mv (Nv i) rfl (o_mv (.sl 1 (ns .i64 (digs m))) rfl ?_))
 refine n_len (digs m) gn f51_ rfl ?_
 refine n_lss i ((digs m).length) gn rfl rfl ?_
 refine aops_end (hK6 _ ?_)
 refine awp_condQ (q := i < ((digs m).length)) rfl (fun h1 => ?_) (fun h1 => ?_)
 ·refine awp_skip (hK5 _ (awp_seq fun K7 hK7 => ?_))
  refine awp_block ?_
  refine awp_seq fun K8 hK8 => awp_regionD rfl (o_mv (.sl 1 (ns .i64 (digs m))) rfl (o_mv (Nv i) rfl ?_))
  refine n_index (digs m) i gn f54_ rfl rfl (by omega) ?_
  refine n_loadI (digs m) i gn f55_ rfl (by omega) ?_
  refine o_mv (.sl 1 (ns .i64 (digs n))) rfl (o_mv (Nv i) rfl ?_)
  refine o_ct (c_rPart (digs n) i) gn f61_ rfl ?_
  refine o_sub (a := (((digs m).getD i 0 : Nat) : Int)) (c := (((digs n).getD i 0 : Nat) : Int)) gn rfl rfl (by exact wrap64 (by omega) (by omega)) ?_
  refine o_mv (Nv c) rfl ?_
  refine o_sub (a := ((((digs m).getD i 0 : Nat) : Int) - (((digs n).getD i 0 : Nat) : Int))) (c := ((c : Nat) : Int)) gn rfl rfl (by exact wrap64 (by omega) (by omega)) ?_
  refine o_as (Iv (((((digs m).getD i 0 : Nat) : Int) - (((digs n).getD i 0 : Nat) : Int)) - ((c : Nat) : Int))) rfl ?_
  refine aops_end ⟨by kernel_rfl, ?_⟩
  refine hK8 _ (awp_seq fun K9 hK9 => awp_region rfl (o_as (Nv 0) rfl (aops_end (hK9 _ ?_))))
  refine awp_seqJ (J := fun σ => ∃ (x : Nat), ∃ (c' : Nat), (x + ((digs n).getD i 0) + c = ((digs m).getD i 0) + 1000000000 * c') ∧ (x < 1000000000) ∧ (c' ≤ 1) ∧ True ∧ σ = ⟨[(0, .sl 1 (ns .i64 (digs m))), (1, .sl 1 (ns .i64 (digs n))), (5, .row 3), (6, Nv c'), (7, Nv i), (8, Nv x)], [(3, .row 3 1 (ns .i64 r))]⟩) ?ja1 ?jb1
  case ja1 =>
   refine awp_seq fun K10 hK10 => awp_region rfl (o_mv (Iv (((((digs m).getD i 0 : Nat) : Int) - (((digs n).getD i 0 : Nat) : Int)) - ((c : Nat) : Int))) rfl ?_)
   refine o_lss (a := (((((digs m).getD i 0 : Nat) : Int) - (((digs n).getD i 0 : Nat) : Int)) - ((c : Nat) : Int))) (c := ((0 : Nat) : Int)) gn rfl rfl ?_
   refine aops_end (hK10 _ ?_)
   refine awp_condQ (q := (((((digs m).getD i 0 : Nat) : Int) - (((digs n).getD i 0 : Nat) : Int)) - ((c : Nat) : Int)) < ((0 : Nat) : Int)) rfl (fun h2 => ?_) (fun h2 => ?_)
   ·refine awp_seq fun K11 hK11 => awp_region rfl (o_mv (Iv (((((digs m).getD i 0 : Nat) : Int) - (((digs n).getD i 0 : Nat) : Int)) - ((c : Nat) : Int))) rfl ?_)
    refine o_add (a := (((((digs m).getD i 0 : Nat) : Int) - (((digs n).getD i 0 : Nat) : Int)) - ((c : Nat) : Int))) (c := ((1000000000 : Nat) : Int)) gn rfl rfl (by exact wrap64 (by omega) (by omega)) ?_
    refine o_as (Iv ((((((digs m).getD i 0 : Nat) : Int) - (((digs n).getD i 0 : Nat) : Int)) - ((c : Nat) : Int)) + ((1000000000 : Nat) : Int))) rfl (aops_end (hK11 _ (awp_region rfl (o_as (Nv 1) rfl (aops_end ?_)))))
    exact ⟨_, ⟨((digs m).getD i 0) + 1000000000 - ((digs n).getD i 0) - c, 1, (by omega), (by omega), (by omega), trivial, rfl⟩, Wk.sub ⟨rfl, rfl, rfl, (by first | rfl | exact nm_int (by omega)), rfl, (by first | rfl | exact nm_int (by omega)), trivial⟩ ⟨rfl, trivial⟩⟩
   ·refine awp_skip ?_
    exact ⟨_, ⟨((digs m).getD i 0) - ((digs n).getD i 0) - c, 0, (by omega), (by omega), (by omega), trivial, rfl⟩, Wk.sub ⟨rfl, rfl, rfl, (by first | rfl | exact nm_int (by omega)), rfl, (by first | rfl | exact nm_int (by omega)), trivial⟩ ⟨rfl, trivial⟩⟩
  rintro _ ⟨x, c', hs, hx, hc', -, rfl⟩
  refine awp_region rfl (o_mv (.row 3) rfl (o_mv (Nv x) rfl ?_))
  refine o_buildSlice 201 (ns .i64 ([x])) [(0, [Nv x])] gn f54_ rfl f62_ rfl rfl rfl rfl rfl rfl rfl ?_
  refine n_append 202 r ([x]) [(201, .row 3 1 (ns .i64 ([x])))] gn f54_ f62_ rfl rfl rfl rfl rfl (by simp only [List.length_append, List.length_cons, List.length_nil]; omega) (by decide) rfl rfl ?_
  refine o_as (.row 202) rfl (aops_end (hK7 _ (awp_region rfl (o_mv (Nv i) rfl ?_))))
  refine n_add i 1 gn rfl rfl (by simp only [topOf]; omega) ?_
  refine o_as (Nv (i + 1)) rfl (aops_end ?_)
  refine ⟨_, _, ?lt, ⟨i + 1, r ++ ([x]), c', (by simp [hl]), (by omega), hd.snoc hx, hc', sub_step hl hv hs, rfl, rfl⟩, ?wk⟩
  case lt => omega
  case wk => exact Wk.trans (Wk.sub (σ' := ⟨[(0, .sl 1 (ns .i64 (digs m))), (1, .sl 1 (ns .i64 (digs n))), (5, .row 202), (6, Nv c'), (7, Nv (i + 1))], [(202, .row 3 1 (ns .i64 (r ++ ([x]))))]⟩) ⟨rfl, rfl, rfl, rfl, rfl, trivial⟩ ⟨rfl, trivial⟩) (Wk.trans (Wk.ren (id := 202) (id' := 3) rfl) (Wk.sub ⟨rfl, rfl, (by first | rfl | simp), (by first | rfl | exact nm_int (by omega)), (by first | rfl | exact nm_int (by omega)), trivial⟩ ⟨(by first | rfl | exact row_ns (by simp)), trivial⟩))
 ·refine awp_exit ?_
  refine hK3 _ (awp_seq fun K12 hK12 => awp_region rfl (o_mv (.row 3) rfl (o_as (.row 3) rfl (aops_end (hK12 _ ?_)))))
  refine awp_wk (σ' := ⟨[(4, .row 3)], [(3, .row 3 1 (ns .i64 r))]⟩) (Wk.sub ⟨rfl, trivial⟩ ⟨rfl, trivial⟩) ?_
  refine awp_wk (σ' := ⟨[(4, .sl 1 (ns .i64 r))], []⟩) (Wk.freeze (id := 3) (e := 3) (sz := 1) (cs := (ns .i64 r)) rfl) ?_
  refine awp_ret ?_
  refine post_ret ⟨[.sl 1 (ns .i64 r)], ⟨AV.le_refl _, trivial⟩, rfl, ?_⟩
  have hil : i = (digs m).length := by omega
  subst hil
  exact ns_congr (less_fin hl hd hnm hv).symm

theorem c_rAdd (x y : Int) (hx : (digs x.natAbs).length ≤ 1000000000) (hy : (digs y.natAbs).length ≤ 1000000000) : ECalls cx 23 [intR x, intR y] (intR (x + y)) := by
 refine ecalls_of_awp Try.func23 (c := _) rfl (Nat.le_of_ble_eq_true rfl) ?_
 show awp cx 40 _ (postF cx Try.f23 _) ⟨[(0, intR x), (1, intR y)], []⟩
 refine awp_seq fun K0 hK0 => awp_region rfl ?_
 refine o_box 2 [bp (x < 0), .sl 1 (ns .i64 (digs x.natAbs))] gn rfl rfl ?_
 refine o_box 3 [bp (y < 0), .sl 1 (ns .i64 (digs y.natAbs))] gn rfl rfl ?_
 refine o_alloc 4 [Fv, Zv] gn f53_ rfl rfl rfl ?_
 refine aops_end (hK0 _ (awp_seq fun K1 hK1 => awp_seq fun K2 hK2 => awp_region rfl ?_))
 refine o_fieldRef 0 gn f52_ rfl rfl ?_
 refine o_loadS (bp (x < 0)) gn f28_ rfl rfl rfl ?_
 refine o_fieldRef 0 gn f52_ rfl rfl ?_
 refine o_loadS (bp (y < 0)) gn f28_ rfl rfl rfl ?_
 refine o_eqlB (a := (decide (x < 0))) (c := (decide (y < 0))) gn rfl rfl f29_ ?_
 refine aops_end (hK2 _ ?_)
 refine awp_condQ (q := (decide (x < 0)) = (decide (y < 0))) rfl (fun h1 => ?_) (fun h1 => ?_)
 ·refine awp_seq fun K3 hK3 => awp_regionD rfl ?_
  refine o_fieldRef 0 gn f52_ rfl rfl ?_
  refine o_loadS (bp (x < 0)) gn f28_ rfl rfl rfl ?_
  refine o_fieldRef 1 gn f49_ rfl rfl ?_
  refine o_loadS (.sl 1 (ns .i64 (digs x.natAbs))) gn f50_ rfl rfl rfl ?_
  refine o_fieldRef 1 gn f49_ rfl rfl ?_
  refine o_loadS (.sl 1 (ns .i64 (digs y.natAbs))) gn f50_ rfl rfl rfl ?_
  refine o_ct (c_rMore (x.natAbs) (y.natAbs) (by omega) (by omega)) gn f63_ rfl ?_
  refine o_ct (c_rTrim (decide (x < 0)) (dgn (moreN (x.natAbs) (y.natAbs)) (x.natAbs + y.natAbs)) (by first | assumption | exact dgn_dig _ _ | exact digs_dig _ | exact Dig.snoc (by assumption) (by assumption) | exact Dig.cons (by omega) (digs_dig _))) gn f64_ rfl ?_
  refine o_store [(4, oZ 31 .i64 (sg (decide (x < 0)) (val (dgn (moreN (x.natAbs) (y.natAbs)) (x.natAbs + y.natAbs))))), (3, oZ 31 .i64 y), (2, oZ 31 .i64 x)] gn f57_ rfl rfl rfl rfl rfl rfl ?_
  refine aops_end ⟨by kernel_rfl, ?_⟩
  refine hK3 _ ?_
  refine awp_ret ?_
  refine post_ret ⟨[intR (sg (decide (x < 0)) (val (dgn (moreN (x.natAbs) (y.natAbs)) (x.natAbs + y.natAbs))))], ⟨⟨4, oZ 31 .i64 (sg (decide (x < 0)) (val (dgn (moreN (x.natAbs) (y.natAbs)) (x.natAbs + y.natAbs)))), rfl, rfl, rfl, Or.inl ⟨f58_, AV.le_refl _⟩⟩, trivial⟩, rfl, ?_⟩
  refine congrArg (intK .i64) ?_
  rw [val_more]
  exact sg_add h1
 ·refine awp_skip (hK1 _ (awp_seq fun K4 hK4 => awp_seq fun K5 hK5 => awp_region rfl ?_))
  refine o_fieldRef 1 gn f49_ rfl rfl ?_
  refine o_loadS (.sl 1 (ns .i64 (digs x.natAbs))) gn f50_ rfl rfl rfl ?_
  refine o_fieldRef 1 gn f49_ rfl rfl ?_
  refine o_loadS (.sl 1 (ns .i64 (digs y.natAbs))) gn f50_ rfl rfl rfl ?_
  refine o_ct (c_rSize (x.natAbs) (y.natAbs)) gn f60_ rfl ?_
  refine o_geq (a := (cmpN (x.natAbs) (y.natAbs))) (c := ((0 : Nat) : Int)) gn rfl rfl ?_
  refine aops_end (hK5 _ ?_)
  refine awp_condQ (q := ((0 : Nat) : Int) ≤ (cmpN (x.natAbs) (y.natAbs))) rfl (fun h2 => ?_) (fun h2 => ?_)
  ·have hc := cmpN_ge h2
   refine awp_seq fun K6 hK6 => awp_regionD rfl ?_
   refine o_fieldRef 0 gn f52_ rfl rfl ?_
   refine o_loadS (bp (x < 0)) gn f28_ rfl rfl rfl ?_
   refine o_fieldRef 1 gn f49_ rfl rfl ?_
   refine o_loadS (.sl 1 (ns .i64 (digs x.natAbs))) gn f50_ rfl rfl rfl ?_
   refine o_fieldRef 1 gn f49_ rfl rfl ?_
   refine o_loadS (.sl 1 (ns .i64 (digs y.natAbs))) gn f50_ rfl rfl rfl ?_
   refine o_ct (c_rLess (x.natAbs) (y.natAbs) (by omega) (by omega) (by omega)) gn f65_ rfl ?_
   refine o_ct (c_rTrim (decide (x < 0)) (dgn (digs (x.natAbs)).length (x.natAbs - y.natAbs)) (by first | assumption | exact dgn_dig _ _ | exact digs_dig _ | exact Dig.snoc (by assumption) (by assumption) | exact Dig.cons (by omega) (digs_dig _))) gn f64_ rfl ?_
   refine o_store [(4, oZ 31 .i64 (sg (decide (x < 0)) (val (dgn (digs (x.natAbs)).length (x.natAbs - y.natAbs))))), (3, oZ 31 .i64 y), (2, oZ 31 .i64 x)] gn f57_ rfl rfl rfl rfl rfl rfl ?_
   refine aops_end ⟨by kernel_rfl, ?_⟩
   refine hK6 _ ?_
   refine awp_ret ?_
   refine post_ret ⟨[intR (sg (decide (x < 0)) (val (dgn (digs (x.natAbs)).length (x.natAbs - y.natAbs))))], ⟨⟨4, oZ 31 .i64 (sg (decide (x < 0)) (val (dgn (digs (x.natAbs)).length (x.natAbs - y.natAbs)))), rfl, rfl, rfl, Or.inl ⟨f58_, AV.le_refl _⟩⟩, trivial⟩, rfl, ?_⟩
   refine congrArg (intK .i64) ?_
   rw [val_minus]
   exact sg_sub1 h1 hc
  ·have hc := cmpN_ng h2
   refine awp_skip (hK4 _ (awp_seq fun K7 hK7 => awp_regionD rfl ?_))
   refine o_fieldRef 0 gn f52_ rfl rfl ?_
   refine o_loadS (bp (y < 0)) gn f28_ rfl rfl rfl ?_
   refine o_fieldRef 1 gn f49_ rfl rfl ?_
   refine o_loadS (.sl 1 (ns .i64 (digs y.natAbs))) gn f50_ rfl rfl rfl ?_
   refine o_fieldRef 1 gn f49_ rfl rfl ?_
   refine o_loadS (.sl 1 (ns .i64 (digs x.natAbs))) gn f50_ rfl rfl rfl ?_
   refine o_ct (c_rLess (y.natAbs) (x.natAbs) (by omega) (by omega) (by omega)) gn f65_ rfl ?_
   refine o_ct (c_rTrim (decide (y < 0)) (dgn (digs (y.natAbs)).length (y.natAbs - x.natAbs)) (by first | assumption | exact dgn_dig _ _ | exact digs_dig _ | exact Dig.snoc (by assumption) (by assumption) | exact Dig.cons (by omega) (digs_dig _))) gn f64_ rfl ?_
   refine o_store [(4, oZ 31 .i64 (sg (decide (y < 0)) (val (dgn (digs (y.natAbs)).length (y.natAbs - x.natAbs))))), (3, oZ 31 .i64 y), (2, oZ 31 .i64 x)] gn f57_ rfl rfl rfl rfl rfl rfl ?_
   refine aops_end ⟨by kernel_rfl, ?_⟩
   refine hK7 _ ?_
   refine awp_ret ?_
   refine post_ret ⟨[intR (sg (decide (y < 0)) (val (dgn (digs (y.natAbs)).length (y.natAbs - x.natAbs))))], ⟨⟨4, oZ 31 .i64 (sg (decide (y < 0)) (val (dgn (digs (y.natAbs)).length (y.natAbs - x.natAbs)))), rfl, rfl, rfl, Or.inl ⟨f58_, AV.le_refl _⟩⟩, trivial⟩, rfl, ?_⟩
   refine congrArg (intK .i64) ?_
   rw [val_minus]
   exact sg_sub2 h1 hc

theorem c_rSub (x y : Int) (hx : (digs x.natAbs).length ≤ 1000000000) (hy : (digs y.natAbs).length ≤ 1000000000) : ECalls cx 9 [intR x, intR y] (intR (x - y)) := by
 refine ecalls_of_awp Try.func9 (c := _) rfl (Nat.le_of_ble_eq_true rfl) ?_
 show awp cx 9 _ (postF cx Try.f9 _) ⟨[(0, intR x), (1, intR y)], []⟩
 refine awp_seq fun K0 hK0 => awp_region rfl ?_
 refine o_box 2 [bp (x < 0), .sl 1 (ns .i64 (digs x.natAbs))] gn rfl rfl ?_
 refine o_box 3 [bp (y < 0), .sl 1 (ns .i64 (digs y.natAbs))] gn rfl rfl ?_
 refine o_alloc 4 [Fv, Zv] gn f53_ rfl rfl rfl ?_
 refine aops_end (hK0 _ (awp_seq fun K1 hK1 => awp_regionD rfl ?_))
 refine o_loadA [bp (x < 0), .sl 1 (ns .i64 (digs x.natAbs))] gn f58_ rfl rfl rfl rfl rfl ?_
 refine o_loadA [bp (y < 0), .sl 1 (ns .i64 (digs y.natAbs))] gn f58_ rfl rfl rfl rfl rfl ?_
 refine o_ct (c_rMinus y) gn f66_ rfl ?_
 refine o_ct (c_rAdd x (-y) (by first | omega | assumption | (simp only [Int.natAbs_neg]; omega)) (by first | omega | assumption | (simp only [Int.natAbs_neg]; omega))) gn f67_ rfl ?_
 refine o_store [(4, oZ 31 .i64 (x + (-y))), (3, oZ 31 .i64 y), (2, oZ 31 .i64 x)] gn f57_ rfl rfl rfl rfl rfl rfl ?_
 refine aops_end ⟨by kernel_rfl, ?_⟩
 refine hK1 _ ?_
 refine awp_ret ?_
 refine post_ret ⟨[intR (x + (-y))], ⟨⟨4, oZ 31 .i64 (x + (-y)), rfl, rfl, rfl, Or.inl ⟨f58_, AV.le_refl _⟩⟩, trivial⟩, rfl, ?_⟩
 exact congrArg (intK .i64) Int.sub_eq_add_neg

end Go.Proofs.Ytaeknciienkijaa

namespace Go.Proofs.Ytaeknciienkijaa
open Go Go.Ab Go.Mth
theorem f68_ : tySize cx.P 3 = some 1 := by kernel_rfl
theorem c_rOf (i : Int) (h0 : -4611686018427387904 ≤ i) (h1' : i ≤ 4611686018427387904) : ECalls cx 10 [Iv i] (intR i) := by
 refine ecalls_of_awp Try.func10 (c := _) rfl (Nat.le_of_ble_eq_true rfl) ?_
 show awp cx 22 _ (postF cx Try.f10 _) ⟨[(0, Iv i)], []⟩
 refine awp_seq fun K0 hK0 => awp_region rfl ?_
 refine o_alloc 2 [Fv, Zv] gn f53_ rfl rfl rfl ?_
 refine aops_end (hK0 _ (awp_seq fun K1 hK1 => awp_region rfl (o_mv (Iv i) rfl ?_)))
 refine o_lss (a := i) (c := ((0 : Nat) : Int)) gn rfl rfl ?_
 refine o_as (bp (i < ((0 : Nat) : Int))) rfl (aops_end (hK1 _ ?_))
 refine awp_seqJ (J := fun σ => True ∧ σ = ⟨[(0, Nv i.natAbs), (3, bp (i < 0)), (2, .ref 2 0)], [(2, .var 31 [Fv, Zv])]⟩) ?ja0 ?jb0
 case ja0 =>
  refine awp_seq fun K2 hK2 => awp_region rfl (o_mv (bp (i < ((0 : Nat) : Int))) rfl (aops_end (hK2 _ ?_)))
  refine awp_condQ (q := i < ((0 : Nat) : Int)) rfl (fun h1 => ?_) (fun h1 => ?_)
  ·refine awp_region rfl (o_mv (Iv i) rfl ?_)
   refine o_neg (a := i) gn rfl (by exact wrap64 (by omega) (by omega)) ?_
   refine o_as (Iv (-(i))) rfl (aops_end ?_)
   exact ⟨_, ⟨trivial, rfl⟩, Wk.sub ⟨(by first | rfl | exact nm_int (by omega)), (by first | rfl | exact bp_congr (by first | omega | simp) | exact bl_bp (by first | omega | simp)), rfl, trivial⟩ ⟨rfl, trivial⟩⟩
  ·refine awp_skip ?_
   exact ⟨_, ⟨trivial, rfl⟩, Wk.sub ⟨(by first | rfl | exact nm_int (by omega)), (by first | rfl | exact bp_congr (by first | omega | simp) | exact bl_bp (by first | omega | simp)), rfl, trivial⟩ ⟨rfl, trivial⟩⟩
 rintro _ ⟨-, rfl⟩
 refine awp_seq fun K3 hK3 => awp_region rfl (o_as Zv rfl (aops_end (hK3 _ (awp_seq fun K4 hK4 => ?_))))
 refine awp_block ?_
 refine awp_loopR (fun κ σ => ∃ (x : Nat), ∃ (r : List Nat), (x ≤ 4611686018427387904) ∧ (r ++ digs x = digs i.natAbs) ∧ x = κ ∧ σ = ⟨[(2, .ref 2 0), (4, .row 3), (0, Nv x), (3, bp (i < 0))], [(2, .var 31 [Fv, Zv]), (3, .row 3 1 (ns .i64 r))]⟩) ⟨_, _, ⟨i.natAbs, [], (by omega), rfl, rfl, rfl⟩, ?wk1⟩ ?rd1
 case wk1 =>
  exact Wk.trans (Wk.newNil (i := 4) (id := 601) (e := 3) (sz := 1) rfl rfl (by decide)) (Wk.trans (Wk.sub (σ' := ⟨[(2, .ref 2 0), (4, .row 601), (0, Nv i.natAbs), (3, bp (i < 0))], [(2, .var 31 [Fv, Zv]), (601, .row 3 1 (ns .i64 ([])))]⟩) ⟨rfl, rfl, rfl, rfl, trivial⟩ ⟨rfl, rfl, trivial⟩) (Wk.trans (Wk.ren (id := 601) (id' := 3) rfl) (Wk.sub ⟨rfl, (by first | rfl | simp), (by first | rfl | exact nm_int (by omega)), rfl, trivial⟩ ⟨rfl, (by first | rfl | exact row_ns (by simp)), trivial⟩)))
 rintro κ _ ⟨x, r, hx, hr, rfl, rfl⟩
 have hlen := fun h => of_len hr h (by omega)
 refine awp_seq fun K5 hK5 => awp_seq fun K6 hK6 => awp_region rfl (o_mv (Nv x) rfl ?_)
 refine n_gtr x 0 gn rfl rfl ?_
 refine aops_end (hK6 _ ?_)
 refine awp_condQ (q := 0 < x) rfl (fun h2 => ?_) (fun h2 => ?_)
 ·refine awp_skip (hK5 _ ?_)
  refine awp_block ?_
  refine awp_seq fun K7 hK7 => awp_region rfl (o_mv (.row 3) rfl (o_mv (Nv x) rfl ?_))
  refine n_rem x 1000000000 gn rfl rfl (by omega) ?_
  refine o_buildSlice 201 (ns .i64 ([x % 1000000000])) [(0, [Nv (x % 1000000000)])] gn f54_ rfl f62_ rfl rfl rfl rfl rfl rfl rfl ?_
  refine n_append 202 r ([x % 1000000000]) [(201, .row 3 1 (ns .i64 ([x % 1000000000]))), (2, .var 31 [Fv, Zv])] gn f54_ f62_ rfl rfl rfl rfl rfl (by have hl' := hlen (by assumption); simp only [List.length_append, List.length_cons, List.length_nil]; omega) (by decide) rfl rfl ?_
  refine o_as (.row 202) rfl (aops_end (hK7 _ (awp_region rfl (o_mv (Nv x) rfl ?_))))
  refine n_quo x 1000000000 gn rfl rfl (by omega) (by simp only [topOf]; omega) ?_
  refine o_as (Nv (x / 1000000000)) rfl (aops_end ?_)
  refine ⟨_, _, ?lt, ⟨x / 1000000000, r ++ ([x % 1000000000]), (by omega), (of_step hr (by assumption)), rfl, rfl⟩, ?wk⟩
  case lt => omega
  case wk => exact Wk.trans (Wk.sub (σ' := ⟨[(2, .ref 2 0), (4, .row 202), (0, Nv (x / 1000000000)), (3, bp (i < 0))], [(2, .var 31 [Fv, Zv]), (202, .row 3 1 (ns .i64 (r ++ ([x % 1000000000]))))]⟩) ⟨rfl, rfl, rfl, rfl, trivial⟩ ⟨rfl, rfl, trivial⟩) (Wk.trans (Wk.ren (id := 202) (id' := 3) rfl) (Wk.sub ⟨rfl, (by first | rfl | simp), (by first | rfl | exact nm_int (by omega)), rfl, trivial⟩ ⟨rfl, (by first | rfl | exact row_ns (by simp)), trivial⟩))
 ·refine awp_exit ?_
  refine hK4 _ (awp_seq fun K8 hK8 => awp_region rfl (o_mv (bp (i < 0)) rfl (o_mv (.row 3) rfl ?_)))
  refine o_build [bp (i < 0), .row 3] [(0, [bp (i < 0)]), (1, [.row 3])] gn f56_ f53_ rfl rfl rfl ?_
  refine o_store [(2, .var 31 [bp (i < 0), .row 3]), (3, .row 3 1 (ns .i64 r))] gn f57_ rfl rfl rfl rfl rfl rfl ?_
  refine aops_end (hK8 _ ?_)
  refine awp_wk (σ' := ⟨[(2, .ref 2 0)], [(2, .var 31 [bp (i < 0), .row 3]), (3, .row 3 1 (ns .i64 r))]⟩) (Wk.sub ⟨rfl, trivial⟩ ⟨rfl, rfl, trivial⟩) ?_
  refine awp_wk (σ' := ⟨[(2, .ref 2 0)], [(2, .var 31 [bp (i < 0), .sl 1 (ns .i64 r)])]⟩) (Wk.freeze (id := 3) (e := 3) (sz := 1) (cs := (ns .i64 r)) rfl) ?_
  refine awp_ret ?_
  refine post_ret ⟨[.agg [bp (i < 0), .sl 1 (ns .i64 r)]], ⟨⟨2, .var 31 [bp (i < 0), .sl 1 (ns .i64 r)], rfl, rfl, rfl, Or.inl ⟨f58_, AV.le_refl _⟩⟩, trivial⟩, rfl, ?_⟩
  refine (intK_eq (k := .i64) (bp_congr (by omega)) (of_end hr (by assumption))).symm

theorem c_rMul (x y : Int) (hx : (digs x.natAbs).length ≤ 1000000000) (hy : (digs y.natAbs).length ≤ 1000000000) : ECalls cx 44 [intR x, intR y] (intR (x * y)) := by
 refine ecalls_of_awp Try.func44 (c := _) rfl (Nat.le_of_ble_eq_true rfl) ?_
 show awp cx 72 _ (postF cx Try.f44 _) ⟨[(0, intR x), (1, intR y)], []⟩
 refine awp_seq fun K0 hK0 => awp_region rfl ?_
 refine o_box 2 [bp (x < 0), .sl 1 (ns .i64 (digs x.natAbs))] gn rfl rfl ?_
 refine o_box 3 [bp (y < 0), .sl 1 (ns .i64 (digs y.natAbs))] gn rfl rfl ?_
 refine o_alloc 4 [Fv, Zv] gn f53_ rfl rfl rfl ?_
 refine aops_end (hK0 _ (awp_seq fun K1 hK1 => awp_region rfl ?_))
 refine o_fieldRef 1 gn f49_ rfl rfl ?_
 refine o_loadS (.sl 1 (ns .i64 (digs x.natAbs))) gn f50_ rfl rfl rfl ?_
 refine n_len (digs x.natAbs) gn f51_ rfl ?_
 refine o_fieldRef 1 gn f49_ rfl rfl ?_
 refine o_loadS (.sl 1 (ns .i64 (digs y.natAbs))) gn f50_ rfl rfl rfl ?_
 refine n_len (digs y.natAbs) gn f51_ rfl ?_
 refine n_add ((digs x.natAbs).length) ((digs y.natAbs).length) gn rfl rfl (by simp only [topOf]; omega) ?_
 refine n_add (((digs x.natAbs).length) + ((digs y.natAbs).length)) 1 gn rfl rfl (by simp only [topOf]; omega) ?_
 refine n_make 5 ((((digs x.natAbs).length) + ((digs y.natAbs).length)) + 1) gn f54_ f62_ rfl rfl (by omega) rfl rfl ?_
 refine o_as (.row 5) rfl (aops_end (hK1 _ (awp_seq fun K2 hK2 => awp_seq fun K3 hK3 => awp_region rfl (o_as (Nv 0) rfl (aops_end (hK3 _ ?_))))))
 refine awp_block ?_
 refine awp_loopR (fun κ σ => ∃ (i : Nat), ∃ (o : List Nat), (o.length = (digs x.natAbs).length + (digs y.natAbs).length + 1) ∧ (Dig o) ∧ (i ≤ (digs x.natAbs).length) ∧ (val o = val ((digs x.natAbs).take i) * y.natAbs) ∧ ((digs x.natAbs).length - i) = κ ∧ σ = ⟨[(2, .ref 2 0), (3, .ref 3 0), (4, .ref 4 0), (5, .row 5), (6, Nv i)], [(2, oZ 31 .i64 x), (3, oZ 31 .i64 y), (4, .var 31 [Fv, Zv]), (5, .row 3 1 (ns .i64 o))]⟩) ⟨_, _, ⟨0, List.replicate ((digs x.natAbs).length + (digs y.natAbs).length + 1) 0, (by simp), Dig.repl _, (by omega), (by rw [val_repl]; simp [val]), rfl, rfl⟩, ?wk0⟩ ?rd0
 case wk0 =>
  exact Wk.sub ⟨rfl, rfl, rfl, rfl, (by first | rfl | exact nm_int (by omega)), trivial⟩ ⟨rfl, rfl, rfl, (by first | rfl | exact row_ns (by simp)), trivial⟩
 rintro κ _ ⟨i, o, hl, hd, hi, hv, rfl, rfl⟩
 refine awp_seq fun K4 hK4 => awp_seq fun K5 hK5 => awp_region rfl (o_mv (Nv i) rfl ?_)
 refine o_fieldRef 1 gn f49_ rfl rfl ?_
 refine o_loadS (.sl 1 (ns .i64 (digs x.natAbs))) gn f50_ rfl rfl rfl ?_
 refine n_len (digs x.natAbs) gn f51_ rfl ?_
 refine n_lss i ((digs x.natAbs).length) gn rfl rfl ?_
 refine aops_end (hK5 _ ?_)
 refine awp_condQ (q := i < ((digs x.natAbs).length)) rfl (fun h1 => ?_) (fun h1 => ?_)
 ·refine awp_skip (hK4 _ (awp_seq fun K6 hK6 => ?_))
  refine awp_block ?_
  refine awp_seq fun K7 hK7 => awp_region rfl (o_as (Nv 0) rfl (aops_end (hK7 _ (awp_seq fun K8 hK8 => awp_region rfl (o_as (Nv 0) rfl (aops_end (hK8 _ ?_)))))))
  refine awp_block ?_
  refine awp_loopR (fun κ σ => ∃ (k : Nat), ∃ (c : Nat), ∃ (o : List Nat), (o.length = (digs x.natAbs).length + (digs y.natAbs).length + 1) ∧ (Dig o) ∧ (k ≤ (digs y.natAbs).length + 1) ∧ (c < 1000000000) ∧ (val o + 1000000000 ^ (i + k) * c = val ((digs x.natAbs).take i) * y.natAbs + 1000000000 ^ i * ((digs x.natAbs).getD i 0 * val ((digs y.natAbs).take k))) ∧ ((digs y.natAbs).length + 2 - k) = κ ∧ σ = ⟨[(2, .ref 2 0), (3, .ref 3 0), (4, .ref 4 0), (5, .row 5), (6, Nv i), (7, Nv c), (8, Nv k)], [(2, oZ 31 .i64 x), (3, oZ 31 .i64 y), (4, .var 31 [Fv, Zv]), (5, .row 3 1 (ns .i64 o))]⟩) ⟨_, _, ⟨0, 0, _, hl, hd, (by omega), (by omega), (by simp only [Nat.mul_zero, Nat.add_zero, hv, List.take_zero, val]), rfl, rfl⟩, ?wk1⟩ ?rd1
  case wk1 =>
   exact Wk.sub ⟨rfl, rfl, rfl, rfl, rfl, (by first | rfl | exact nm_int (by omega)), (by first | rfl | exact nm_int (by omega)), trivial⟩ ⟨rfl, rfl, rfl, rfl, trivial⟩
  rintro κ _ ⟨k, c, o, hl2, hd2, hk, hc, hv2, rfl, rfl⟩
  have hA := (digs_dig x.natAbs).mulb (digs_dig y.natAbs) i k
  have hO := hd2.getD (i + k)
  have hkc := mul_k hv2
  refine awp_seq fun K9 hK9 => awp_seq fun K10 hK10 => awp_region rfl (o_mv (Nv k) rfl ?_)
  refine o_fieldRef 1 gn f49_ rfl rfl ?_
  refine o_loadS (.sl 1 (ns .i64 (digs y.natAbs))) gn f50_ rfl rfl rfl ?_
  refine n_len (digs y.natAbs) gn f51_ rfl ?_
  refine n_lss k ((digs y.natAbs).length) gn rfl rfl ?_
  refine o_mv (bp (k < ((digs y.natAbs).length))) rfl ?_
  refine o_splitP (q := k < ((digs y.natAbs).length)) 31 rfl (fun h2 => ?_) (fun h2 => ?_)
  ·refine o_skip rfl rfl (decide_eq_true h2) (o_skip rfl rfl (decide_eq_true h2) ?_)
   refine o_pickT Tv gn rfl (decide_eq_true h2) rfl ?_
   refine aops_end (hK10 _ ?_)
   refine awp_condB (b := true) rfl (fun _ => ?_) (fun hh => absurd (hh.symm.trans rfl) (by decide))
   refine awp_skip (hK9 _ (awp_seq fun K11 hK11 => ?_))
   refine awp_block ?_
   refine awp_seq fun K12 hK12 => awp_regionD rfl (o_mv (.row 5) rfl (o_mv (Nv i) rfl (o_mv (Nv k) rfl ?_)))
   refine n_add i k gn rfl rfl (by simp only [topOf]; omega) ?_
   refine n_indexRow o (i + k) gn f54_ rfl rfl rfl (by first | omega | (have := hkc (by assumption); omega)) ?_
   refine n_loadRow o (i + k) gn f55_ rfl rfl (by first | omega | (have := hkc (by assumption); omega)) ?_
   refine o_fieldRef 1 gn f49_ rfl rfl ?_
   refine o_loadS (.sl 1 (ns .i64 (digs x.natAbs))) gn f50_ rfl rfl rfl ?_
   refine o_mv (Nv i) rfl ?_
   refine n_index (digs x.natAbs) i gn f54_ rfl rfl (by omega) ?_
   refine n_loadI (digs x.natAbs) i gn f55_ rfl (by omega) ?_
   refine o_fieldRef 1 gn f49_ rfl rfl ?_
   refine o_loadS (.sl 1 (ns .i64 (digs y.natAbs))) gn f50_ rfl rfl rfl ?_
   refine o_mv (Nv k) rfl ?_
   refine o_ct (c_rPart (digs y.natAbs) k) gn f61_ rfl ?_
   refine n_mul ((digs x.natAbs).getD i 0) ((digs y.natAbs).getD k 0) gn rfl rfl (by simp only [topOf]; omega) ?_
   refine n_add (o.getD (i + k) 0) (((digs x.natAbs).getD i 0) * ((digs y.natAbs).getD k 0)) gn rfl rfl (by simp only [topOf]; omega) ?_
   refine o_mv (Nv c) rfl ?_
   refine n_add ((o.getD (i + k) 0) + (((digs x.natAbs).getD i 0) * ((digs y.natAbs).getD k 0))) c gn rfl rfl (by simp only [topOf]; omega) ?_
   refine o_as (Nv (((o.getD (i + k) 0) + (((digs x.natAbs).getD i 0) * ((digs y.natAbs).getD k 0))) + c)) rfl ?_
   refine aops_end ⟨by kernel_rfl, ?_⟩
   refine hK12 _ (awp_seq fun K13 hK13 => awp_region rfl (o_mv (.row 5) rfl (o_mv (Nv i) rfl (o_mv (Nv k) rfl ?_))))
   refine n_add i k gn rfl rfl (by simp only [topOf]; omega) ?_
   refine o_mv (Nv (((o.getD (i + k) 0) + (((digs x.natAbs).getD i 0) * ((digs y.natAbs).getD k 0))) + c)) rfl ?_
   refine n_rem (((o.getD (i + k) 0) + (((digs x.natAbs).getD i 0) * ((digs y.natAbs).getD k 0))) + c) 1000000000 gn rfl rfl (by omega) ?_
   refine n_indexRow o (i + k) gn f54_ rfl rfl rfl (by first | omega | (have := hkc (by assumption); omega)) ?_
   refine n_storeRow o (i + k) ((((o.getD (i + k) 0) + (((digs x.natAbs).getD i 0) * ((digs y.natAbs).getD k 0))) + c) % 1000000000) [(2, oZ 31 .i64 x), (3, oZ 31 .i64 y), (4, .var 31 [Fv, Zv]), (5, .row 3 1 (ns .i64 (o.set (i + k) ((((o.getD (i + k) 0) + (((digs x.natAbs).getD i 0) * ((digs y.natAbs).getD k 0))) + c) % 1000000000))))] gn f68_ rfl rfl rfl (by first | omega | (have := hkc (by assumption); omega)) rfl ?_
   refine aops_end (hK13 _ (awp_region rfl (o_mv (Nv (((o.getD (i + k) 0) + (((digs x.natAbs).getD i 0) * ((digs y.natAbs).getD k 0))) + c)) rfl ?_)))
   refine n_quo (((o.getD (i + k) 0) + (((digs x.natAbs).getD i 0) * ((digs y.natAbs).getD k 0))) + c) 1000000000 gn rfl rfl (by omega) (by simp only [topOf]; omega) ?_
   refine o_as (Nv ((((o.getD (i + k) 0) + (((digs x.natAbs).getD i 0) * ((digs y.natAbs).getD k 0))) + c) / 1000000000)) rfl (aops_end (hK11 _ (awp_region rfl (o_mv (Nv k) rfl ?_))))
   refine n_add k 1 gn rfl rfl (by simp only [topOf]; omega) ?_
   refine o_as (Nv (k + 1)) rfl (aops_end ?_)
   refine ⟨_, _, ?lt, ⟨k + 1, (((o.getD (i + k) 0) + (((digs x.natAbs).getD i 0) * ((digs y.natAbs).getD k 0))) + c) / 1000000000, o.set (i + k) ((((o.getD (i + k) 0) + (((digs x.natAbs).getD i 0) * ((digs y.natAbs).getD k 0))) + c) % 1000000000), (by simp only [List.length_set]; exact hl2), (hd2.set (Nat.mod_lt _ (by decide))), (by omega), (by omega), (mul_step (by omega) hv2 rfl), rfl, rfl⟩, ?wk⟩
   case lt => omega
   case wk => exact Wk.sub ⟨rfl, rfl, rfl, rfl, rfl, (by first | rfl | exact nm_int (by omega)), (by first | rfl | exact nm_int (by omega)), trivial⟩ ⟨rfl, rfl, rfl, (by first | rfl | exact row_ns (by simp)), trivial⟩
  ·refine o_move (Nv c) (Gd.yes rfl rfl (decide_eq_false h2)) rfl ?_
   refine n_gtr c 0 (Gd.yes rfl rfl (decide_eq_false h2)) rfl rfl ?_
   refine o_pickF (bp (0 < c)) gn rfl (decide_eq_false h2) rfl ?_
   refine aops_end (hK10 _ ?_)
   refine awp_condQ (q := 0 < c) rfl (fun h3 => ?_) (fun h3 => ?_)
   ·refine awp_skip (hK9 _ (awp_seq fun K14 hK14 => ?_))
    refine awp_block ?_
    refine awp_seq fun K15 hK15 => awp_regionD rfl (o_mv (.row 5) rfl (o_mv (Nv i) rfl (o_mv (Nv k) rfl ?_)))
    refine n_add i k gn rfl rfl (by simp only [topOf]; omega) ?_
    refine n_indexRow o (i + k) gn f54_ rfl rfl rfl (by first | omega | (have := hkc (by assumption); omega)) ?_
    refine n_loadRow o (i + k) gn f55_ rfl rfl (by first | omega | (have := hkc (by assumption); omega)) ?_
    refine o_fieldRef 1 gn f49_ rfl rfl ?_
    refine o_loadS (.sl 1 (ns .i64 (digs x.natAbs))) gn f50_ rfl rfl rfl ?_
    refine o_mv (Nv i) rfl ?_
    refine n_index (digs x.natAbs) i gn f54_ rfl rfl (by omega) ?_
    refine n_loadI (digs x.natAbs) i gn f55_ rfl (by omega) ?_
    refine o_fieldRef 1 gn f49_ rfl rfl ?_
    refine o_loadS (.sl 1 (ns .i64 (digs y.natAbs))) gn f50_ rfl rfl rfl ?_
    refine o_mv (Nv k) rfl ?_
    refine o_ct (c_rPart (digs y.natAbs) k) gn f61_ rfl ?_
    refine n_mul ((digs x.natAbs).getD i 0) ((digs y.natAbs).getD k 0) gn rfl rfl (by simp only [topOf]; omega) ?_
    refine n_add (o.getD (i + k) 0) (((digs x.natAbs).getD i 0) * ((digs y.natAbs).getD k 0)) gn rfl rfl (by simp only [topOf]; omega) ?_
    refine o_mv (Nv c) rfl ?_
    refine n_add ((o.getD (i + k) 0) + (((digs x.natAbs).getD i 0) * ((digs y.natAbs).getD k 0))) c gn rfl rfl (by simp only [topOf]; omega) ?_
    refine o_as (Nv (((o.getD (i + k) 0) + (((digs x.natAbs).getD i 0) * ((digs y.natAbs).getD k 0))) + c)) rfl ?_
    refine aops_end ⟨by kernel_rfl, ?_⟩
    refine hK15 _ (awp_seq fun K16 hK16 => awp_region rfl (o_mv (.row 5) rfl (o_mv (Nv i) rfl (o_mv (Nv k) rfl ?_))))
    refine n_add i k gn rfl rfl (by simp only [topOf]; omega) ?_
    refine o_mv (Nv (((o.getD (i + k) 0) + (((digs x.natAbs).getD i 0) * ((digs y.natAbs).getD k 0))) + c)) rfl ?_
    refine n_rem (((o.getD (i + k) 0) + (((digs x.natAbs).getD i 0) * ((digs y.natAbs).getD k 0))) + c) 1000000000 gn rfl rfl (by omega) ?_
    refine n_indexRow o (i + k) gn f54_ rfl rfl rfl (by first | omega | (have := hkc (by assumption); omega)) ?_
    refine n_storeRow o (i + k) ((((o.getD (i + k) 0) + (((digs x.natAbs).getD i 0) * ((digs y.natAbs).getD k 0))) + c) % 1000000000) [(2, oZ 31 .i64 x), (3, oZ 31 .i64 y), (4, .var 31 [Fv, Zv]), (5, .row 3 1 (ns .i64 (o.set (i + k) ((((o.getD (i + k) 0) + (((digs x.natAbs).getD i 0) * ((digs y.natAbs).getD k 0))) + c) % 1000000000))))] gn f68_ rfl rfl rfl (by first | omega | (have := hkc (by assumption); omega)) rfl ?_
    refine aops_end (hK16 _ (awp_region rfl (o_mv (Nv (((o.getD (i + k) 0) + (((digs x.natAbs).getD i 0) * ((digs y.natAbs).getD k 0))) + c)) rfl ?_)))
    refine n_quo (((o.getD (i + k) 0) + (((digs x.natAbs).getD i 0) * ((digs y.natAbs).getD k 0))) + c) 1000000000 gn rfl rfl (by omega) (by simp only [topOf]; omega) ?_
    refine o_as (Nv ((((o.getD (i + k) 0) + (((digs x.natAbs).getD i 0) * ((digs y.natAbs).getD k 0))) + c) / 1000000000)) rfl (aops_end (hK14 _ (awp_region rfl (o_mv (Nv k) rfl ?_))))
    refine n_add k 1 gn rfl rfl (by simp only [topOf]; omega) ?_
    refine o_as (Nv (k + 1)) rfl (aops_end ?_)
    refine ⟨_, _, ?lt, ⟨k + 1, (((o.getD (i + k) 0) + (((digs x.natAbs).getD i 0) * ((digs y.natAbs).getD k 0))) + c) / 1000000000, o.set (i + k) ((((o.getD (i + k) 0) + (((digs x.natAbs).getD i 0) * ((digs y.natAbs).getD k 0))) + c) % 1000000000), (by simp only [List.length_set]; exact hl2), (hd2.set (Nat.mod_lt _ (by decide))), (by have := hkc (by assumption); omega), (by omega), (mul_step (by have := hkc (by assumption); omega) hv2 rfl), rfl, rfl⟩, ?wk⟩
    case lt => omega
    case wk => exact Wk.sub ⟨rfl, rfl, rfl, rfl, rfl, (by first | rfl | exact nm_int (by omega)), (by first | rfl | exact nm_int (by omega)), trivial⟩ ⟨rfl, rfl, rfl, (by first | rfl | exact row_ns (by simp)), trivial⟩
   ·refine awp_exit ?_
    refine hK6 _ (awp_region rfl (o_mv (Nv i) rfl ?_))
    refine n_add i 1 gn rfl rfl (by simp only [topOf]; omega) ?_
    refine o_as (Nv (i + 1)) rfl (aops_end ?_)
    refine ⟨_, _, ?lt, ⟨i + 1, o, hl2, hd2, (by omega), (mul_end (k := k) (by omega) (by rw [show c = 0 by omega] at hv2; exact hv2)), rfl, rfl⟩, ?wk⟩
    case lt => omega
    case wk => exact Wk.sub ⟨rfl, rfl, rfl, rfl, (by first | rfl | exact nm_int (by omega)), trivial⟩ ⟨rfl, rfl, rfl, rfl, trivial⟩
 ·refine awp_exit ?_
  refine hK2 _ (awp_seq fun K17 hK17 => awp_region rfl ?_)
  refine o_fieldRef 0 gn f52_ rfl rfl ?_
  refine o_loadS (bp (x < 0)) gn f28_ rfl rfl rfl ?_
  refine o_fieldRef 0 gn f52_ rfl rfl ?_
  refine o_loadS (bp (y < 0)) gn f28_ rfl rfl rfl ?_
  refine o_neqB (a := (decide (x < 0))) (c := (decide (y < 0))) gn rfl rfl f29_ ?_
  refine o_mv (.row 5) rfl ?_
  refine o_callG [(5, 1, ns .i64 o)] [bp ((decide (x < 0)) ≠ (decide (y < 0))), .sl 1 (ns .i64 o)] _ (intR (sg (decide ((decide (x < 0)) ≠ (decide (y < 0)))) (val o))) [(2, oZ 31 .i64 x), (3, oZ 31 .i64 y), (4, .var 31 [Fv, Zv])] gn f64_ rfl ⟨⟨_, rfl⟩, trivial⟩ rfl rfl (LeL.cons (AV.le_refl _) (LeL.cons (AV.le_refl _) LeL.nil)) (c_rTrim (decide ((decide (x < 0)) ≠ (decide (y < 0)))) o (by first | assumption | exact dgn_dig _ _ | exact digs_dig _ | exact Dig.snoc (by assumption) (by assumption) | exact Dig.cons (by omega) (digs_dig _))) rfl ?_
  refine o_store [(2, oZ 31 .i64 x), (3, oZ 31 .i64 y), (4, oZ 31 .i64 (sg (decide ((decide (x < 0)) ≠ (decide (y < 0)))) (val o)))] gn f57_ rfl rfl rfl rfl rfl rfl ?_
  refine aops_end (hK17 _ ?_)
  refine awp_ret ?_
  refine post_ret ⟨[intR (sg (decide ((decide (x < 0)) ≠ (decide (y < 0)))) (val o))], ⟨⟨4, oZ 31 .i64 (sg (decide ((decide (x < 0)) ≠ (decide (y < 0)))) (val o)), rfl, rfl, rfl, Or.inl ⟨f58_, AV.le_refl _⟩⟩, trivial⟩, rfl, ?_⟩
  refine congrArg (intK .i64) ?_
  rw [hv, val_take_all (by omega), val_digs]
  exact sg_mul x y

end Go.Proofs.Ytaeknciienkijaa

namespace Go.Proofs.Ytaeknciienkijaa
open Go Go.Ab Go.Mth
theorem f69_ : callable cx.P 10 = true := by kernel_rfl
theorem c_rQR (z : Int) (d : Nat) (hd0 : 0 < d) (hd2 : d ≤ 2147483647) (hz : (digs z.natAbs).length ≤ 1000000000) : ECalls cx 43 [intR z, Nv d] (.tup [(intR (z / (d : Int))), .lit (.int .i64 (z % (d : Int)))]) := by
 refine ecalls_of_awp Try.func43 (c := _) rfl (Nat.le_of_ble_eq_true rfl) ?_
 show awp cx 58 _ (postF cx Try.f43 _) ⟨[(0, intR z), (1, Nv d)], []⟩
 refine awp_seq fun K0 hK0 => awp_region rfl ?_
 refine o_box 2 [bp (z < 0), .sl 1 (ns .i64 (digs z.natAbs))] gn rfl rfl ?_
 refine o_alloc 3 [Fv, Zv] gn f53_ rfl rfl rfl ?_
 refine o_as (Nv 0) rfl (aops_end (hK0 _ (awp_seq fun K1 hK1 => awp_region rfl ?_)))
 refine o_fieldRef 1 gn f49_ rfl rfl ?_
 refine o_loadS (.sl 1 (ns .i64 (digs z.natAbs))) gn f50_ rfl rfl rfl ?_
 refine n_len (digs z.natAbs) gn f51_ rfl ?_
 refine n_make 4 ((digs z.natAbs).length) gn f54_ f62_ rfl rfl (by omega) rfl rfl ?_
 refine o_as (.row 4) rfl (aops_end (hK1 _ (awp_seq fun K2 hK2 => awp_region rfl (o_as (Nv 0) rfl (aops_end (hK2 _ (awp_seq fun K3 hK3 => awp_seq fun K4 hK4 => awp_region rfl ?_)))))))
 refine o_fieldRef 1 gn f49_ rfl rfl ?_
 refine o_loadS (.sl 1 (ns .i64 (digs z.natAbs))) gn f50_ rfl rfl rfl ?_
 refine n_len (digs z.natAbs) gn f51_ rfl ?_
 refine o_sub (a := (((digs z.natAbs).length : Nat) : Int)) (c := ((1 : Nat) : Int)) gn rfl rfl (by exact wrap64 (by omega) (by omega)) ?_
 refine o_as (Iv ((((digs z.natAbs).length : Nat) : Int) - ((1 : Nat) : Int))) rfl (aops_end (hK4 _ ?_))
 refine awp_block ?_
 refine awp_loopR (fun κ σ => ∃ (j : Nat), ∃ (o : List Nat), ∃ (r : Nat), (j ≤ (digs z.natAbs).length) ∧ (o.length = (digs z.natAbs).length) ∧ (Dig o) ∧ (r < d) ∧ (val ((digs z.natAbs).drop j) = d * val (o.drop j) + r) ∧ j = κ ∧ σ = ⟨[(1, Nv d), (2, .ref 2 0), (4, .ref 3 0), (6, .row 4), (7, Nv r), (8, (Iv ((j : Int) - 1)))], [(2, oZ 31 .i64 z), (3, .var 31 [Fv, Zv]), (4, .row 3 1 (ns .i64 o))]⟩) ⟨_, _, ⟨(digs z.natAbs).length, List.replicate (digs z.natAbs).length 0, 0, Nat.le_refl _, (by simp), Dig.repl _, hd0, (by rw [val_drop_all (Nat.le_refl _), val_drop_all (by simp)]; simp), rfl, rfl⟩, ?wk0⟩ ?rd0
 case wk0 =>
  exact Wk.sub ⟨rfl, rfl, rfl, rfl, (by first | rfl | exact nm_int (by omega)), (by first | rfl | exact int_eq (by omega) | exact int_nm (by omega)), trivial⟩ ⟨rfl, rfl, (by first | rfl | exact row_ns (by simp)), trivial⟩
 rintro κ _ ⟨j, o, r, hj, hl, hd, hr, hv, rfl, rfl⟩
 have hA := (digs_dig z.natAbs).getD (j - 1)
 refine awp_seq fun K5 hK5 => awp_seq fun K6 hK6 => awp_region rfl (o_mv (Iv ((j : Int) - 1)) rfl ?_)
 refine o_geq (a := ((j : Int) - 1)) (c := ((0 : Nat) : Int)) gn rfl rfl ?_
 refine aops_end (hK6 _ ?_)
 refine awp_condQ (q := ((0 : Nat) : Int) ≤ ((j : Int) - 1)) rfl (fun h1 => ?_) (fun h1 => ?_)
 ·refine awp_wk (Wk.slot (i := 8) (y := (Nv (j - 1))) (AV.le_eq (by exact nm_int (by omega)))) ?_
  refine awp_skip (hK5 _ (awp_seq fun K7 hK7 => ?_))
  refine awp_block ?_
  refine awp_seq fun K8 hK8 => awp_region rfl (o_mv (Nv r) rfl ?_)
  refine n_mul r 1000000000 gn rfl rfl (by simp only [topOf]; omega) ?_
  refine o_fieldRef 1 gn f49_ rfl rfl ?_
  refine o_loadS (.sl 1 (ns .i64 (digs z.natAbs))) gn f50_ rfl rfl rfl ?_
  refine o_mv (Nv (j - 1)) rfl ?_
  refine n_index (digs z.natAbs) (j - 1) gn f54_ rfl rfl (by omega) ?_
  refine n_loadI (digs z.natAbs) (j - 1) gn f55_ rfl (by omega) ?_
  refine n_add (r * 1000000000) ((digs z.natAbs).getD (j - 1) 0) gn rfl rfl (by simp only [topOf]; omega) ?_
  refine o_as (Nv ((r * 1000000000) + ((digs z.natAbs).getD (j - 1) 0))) rfl (aops_end (hK8 _ (awp_seq fun K9 hK9 => awp_region rfl (o_mv (.row 4) rfl (o_mv (Nv (j - 1)) rfl (o_mv (Nv ((r * 1000000000) + ((digs z.natAbs).getD (j - 1) 0))) rfl (o_mv (Nv d) rfl ?_)))))))
  refine n_quo ((r * 1000000000) + ((digs z.natAbs).getD (j - 1) 0)) d gn rfl rfl (by omega) (by simp only [topOf]; have := div_dig hr hA rfl; omega) ?_
  refine n_indexRow o (j - 1) gn f54_ rfl rfl rfl (by omega) ?_
  refine n_storeRow o (j - 1) (((r * 1000000000) + ((digs z.natAbs).getD (j - 1) 0)) / d) [(2, oZ 31 .i64 z), (3, .var 31 [Fv, Zv]), (4, .row 3 1 (ns .i64 (o.set (j - 1) (((r * 1000000000) + ((digs z.natAbs).getD (j - 1) 0)) / d))))] gn f68_ rfl rfl rfl (by omega) rfl ?_
  refine aops_end (hK9 _ (awp_region rfl (o_mv (Nv ((r * 1000000000) + ((digs z.natAbs).getD (j - 1) 0))) rfl (o_mv (Nv d) rfl ?_))))
  refine n_rem ((r * 1000000000) + ((digs z.natAbs).getD (j - 1) 0)) d gn rfl rfl (by omega) ?_
  refine o_as (Nv (((r * 1000000000) + ((digs z.natAbs).getD (j - 1) 0)) % d)) rfl (aops_end (hK7 _ (awp_region rfl (o_mv (Nv (j - 1)) rfl ?_))))
  refine o_sub (a := ((j - 1 : Nat) : Int)) (c := ((1 : Nat) : Int)) gn rfl rfl (by exact wrap64 (by omega) (by omega)) ?_
  refine o_as (Iv (((j - 1 : Nat) : Int) - ((1 : Nat) : Int))) rfl (aops_end ?_)
  refine ⟨_, _, ?lt, ⟨j - 1, o.set (j - 1) (((r * 1000000000) + ((digs z.natAbs).getD (j - 1) 0)) / d), ((r * 1000000000) + ((digs z.natAbs).getD (j - 1) 0)) % d, (by omega), (by simp only [List.length_set]; exact hl), hd.set (div_dig hr hA rfl), Nat.mod_lt _ hd0, (div_step (by omega) hl hd0 (by rw [Nat.sub_add_cancel (by omega)]; exact hv) rfl), rfl, rfl⟩, ?wk⟩
  case lt => omega
  case wk => exact Wk.sub ⟨rfl, rfl, rfl, rfl, (by first | rfl | exact nm_int (by omega)), (by first | rfl | exact int_eq (by omega) | exact int_nm (by omega)), trivial⟩ ⟨rfl, rfl, (by first | rfl | exact row_ns (by simp)), trivial⟩
 ·have hj0 : j = 0 := by omega
  have hv0 := hv
  rw [hj0] at hv0
  have hE := div_end hr hv0
  have hq := hE.1
  have hq1 := len_div hE.1 hz false
  have hq2 := len_one
  refine awp_exit ?_
  refine hK3 _ (awp_seq fun K10 hK10 => awp_region rfl (o_mv (.row 4) rfl ?_))
  refine o_callG [(4, 1, ns .i64 o)] [Fv, .sl 1 (ns .i64 o)] _ (intR (sg false (val o))) [(2, oZ 31 .i64 z), (3, .var 31 [Fv, Zv])] gn f64_ rfl ⟨⟨_, rfl⟩, trivial⟩ rfl rfl (LeL.cons (AV.le_refl _) (LeL.cons (AV.le_refl _) LeL.nil)) (c_rTrim false o (by first | assumption | exact dgn_dig _ _ | exact digs_dig _ | exact Dig.snoc (by assumption) (by assumption) | exact Dig.cons (by omega) (digs_dig _))) rfl ?_
  refine o_alloc 101 [Fv, Zv] gn f53_ rfl rfl rfl ?_
  refine o_store [(101, oZ 31 .i64 (sg false (val o))), (2, oZ 31 .i64 z), (3, .var 31 [Fv, Zv])] gn f57_ rfl rfl rfl rfl rfl rfl ?_
  refine aops_end (hK10 _ (awp_seq fun K11 hK11 => awp_seq fun K12 hK12 => awp_region rfl ?_))
  refine o_fieldRef 0 gn f52_ rfl rfl ?_
  refine o_loadS (bp (z < 0)) gn f28_ rfl rfl rfl ?_
  refine o_notP (q := z < 0) gn rfl ?_
  refine aops_end (hK12 _ ?_)
  refine awp_condQ (q := ¬ (z < 0)) rfl (fun h2 => ?_) (fun h2 => ?_)
  ·refine awp_seq fun K13 hK13 => awp_region rfl ?_
   refine o_loadA [bp ((sg false (val o)) < 0), .sl 1 (ns .i64 (digs (sg false (val o)).natAbs))] gn f58_ rfl rfl rfl rfl rfl ?_
   refine o_mv (Nv r) rfl ?_
   refine o_store [(101, oZ 31 .i64 (sg false (val o))), (2, oZ 31 .i64 z), (3, oZ 31 .i64 (sg false (val o)))] gn f57_ rfl rfl rfl rfl rfl rfl ?_
   refine o_as (Nv r) rfl (aops_end (hK13 _ ?_))
   refine awp_ret ?_
   refine post_ret ⟨[intR (sg false (val o)), Nv r], ⟨⟨3, oZ 31 .i64 (sg false (val o)), rfl, rfl, rfl, Or.inl ⟨f58_, AV.le_refl _⟩⟩, AV.le_refl _, trivial⟩, rfl, ?_⟩
   have e := part1 h2 hd0 hE.1 hE.2
   exact tup_eq2 (congrArg (intK .i64) e.1) (int_eq e.2)
  ·refine awp_skip (hK11 _ (awp_seq fun K14 hK14 => awp_seq fun K15 hK15 => awp_region rfl (o_mv (Nv r) rfl ?_)))
   refine n_eql r 0 gn rfl rfl ?_
   refine aops_end (hK15 _ ?_)
   refine awp_condQ (q := r = 0) rfl (fun h3 => ?_) (fun h3 => ?_)
   ·refine awp_seq fun K16 hK16 => awp_region rfl ?_
    refine o_loadA [bp ((sg false (val o)) < 0), .sl 1 (ns .i64 (digs (sg false (val o)).natAbs))] gn f58_ rfl rfl rfl rfl rfl ?_
    refine o_ct (c_rMinus (sg false (val o))) gn f66_ rfl ?_
    refine o_store [(101, oZ 31 .i64 (sg false (val o))), (2, oZ 31 .i64 z), (3, oZ 31 .i64 (-(sg false (val o))))] gn f57_ rfl rfl rfl rfl rfl rfl ?_
    refine o_as (Nv 0) rfl (aops_end (hK16 _ ?_))
    refine awp_ret ?_
    refine post_ret ⟨[intR (-(sg false (val o))), Nv 0], ⟨⟨3, oZ 31 .i64 (-(sg false (val o))), rfl, rfl, rfl, Or.inl ⟨f58_, AV.le_refl _⟩⟩, AV.le_refl _, trivial⟩, rfl, ?_⟩
    have e := part2 (Decidable.not_not.1 h2) hd0 hE.1 hE.2 h3
    exact tup_eq2 (congrArg (intK .i64) (e.1.trans (by simp [sg]))) (int_eq e.2)
   ·refine awp_skip (hK14 _ (awp_seq fun K17 hK17 => awp_regionD rfl ?_))
    refine o_loadA [bp ((sg false (val o)) < 0), .sl 1 (ns .i64 (digs (sg false (val o)).natAbs))] gn f58_ rfl rfl rfl rfl rfl ?_
    refine o_ct (c_rOf (1 : Int) (by first | decide | omega) (by first | decide | omega)) gn f69_ rfl ?_
    refine o_ct (c_rAdd (sg false (val o)) (1 : Int) (by first | omega | assumption | (simp only [Int.natAbs_neg]; omega)) (by first | omega | assumption | (simp only [Int.natAbs_neg]; omega))) gn f67_ rfl ?_
    refine o_ct (c_rMinus ((sg false (val o)) + (1 : Int))) gn f66_ rfl ?_
    refine o_mv (Nv d) rfl (o_mv (Nv r) rfl ?_)
    refine o_sub (a := ((d : Nat) : Int)) (c := ((r : Nat) : Int)) gn rfl rfl (by exact wrap64 (by omega) (by omega)) ?_
    refine o_store [(101, oZ 31 .i64 (sg false (val o))), (2, oZ 31 .i64 z), (3, (oZ 31 .i64 (-((sg false (val o)) + (1 : Int)))))] gn f57_ rfl rfl rfl rfl rfl rfl ?_
    refine o_as (Iv (((d : Nat) : Int) - ((r : Nat) : Int))) rfl ?_
    refine aops_end ⟨by kernel_rfl, ?_⟩
    refine hK17 _ ?_
    refine awp_ret ?_
    refine post_ret ⟨[(intR (-((sg false (val o)) + (1 : Int)))), (Iv (((d : Nat) : Int) - ((r : Nat) : Int)))], ⟨⟨3, (oZ 31 .i64 (-((sg false (val o)) + (1 : Int)))), rfl, rfl, rfl, Or.inl ⟨f58_, AV.le_refl _⟩⟩, AV.le_refl _, trivial⟩, rfl, ?_⟩
    have e := part3 (Decidable.not_not.1 h2) hd0 hE.1 hE.2 h3
    exact tup_eq2 (congrArg (intK .i64) (e.1.trans (by simp [sg]; omega))) (int_eq e.2)

theorem c_rDigits (z : Int) (hz : (digs z.natAbs).length ≤ 1000000000) : ECalls cx 42 [intR z] (Nv (ndig z.natAbs)) := by
 refine ecalls_of_awp Try.func42 (c := _) rfl (Nat.le_of_ble_eq_true rfl) ?_
 show awp cx 29 _ (postF cx Try.f42 _) ⟨[(0, intR z)], []⟩
 refine awp_seq fun K0 hK0 => awp_region rfl ?_
 refine o_box 2 [bp (z < 0), .sl 1 (ns .i64 (digs z.natAbs))] gn rfl rfl ?_
 refine o_as (Nv 0) rfl (aops_end (hK0 _ (awp_seq fun K1 hK1 => awp_seq fun K2 hK2 => awp_region rfl ?_)))
 refine o_fieldRef 1 gn f49_ rfl rfl ?_
 refine o_loadS (.sl 1 (ns .i64 (digs z.natAbs))) gn f50_ rfl rfl rfl ?_
 refine n_len (digs z.natAbs) gn f51_ rfl ?_
 refine n_eql ((digs z.natAbs).length) 0 gn rfl rfl ?_
 refine aops_end (hK2 _ ?_)
 refine awp_condQ (q := ((digs z.natAbs).length) = 0) rfl (fun h1 => ?_) (fun h1 => ?_)
 ·refine awp_seq fun K3 hK3 => awp_region rfl (o_as (Nv 1) rfl (aops_end (hK3 _ ?_)))
  refine awp_ret ?_
  refine post_ret ⟨[Nv 1], ⟨AV.le_refl _, trivial⟩, rfl, ?_⟩
  refine congrArg (nm .i64) ?_
  unfold ndig
  rw [if_pos (digs_len_zero.1 h1)]
 ·have ht := ndig_top (n := z.natAbs) (by rcases Nat.eq_zero_or_pos z.natAbs with e | e; exact absurd (digs_len_zero.2 e) h1; exact e)
  have htl := (digs_dig z.natAbs).getD ((digs z.natAbs).length - 1)
  have ht9 := decs_len_lt (n := (digs z.natAbs).getD ((digs z.natAbs).length - 1) 0) (k := 9) htl
  refine awp_skip (hK1 _ (awp_seq fun K4 hK4 => awp_region rfl ?_))
  refine o_fieldRef 1 gn f49_ rfl rfl ?_
  refine o_loadS (.sl 1 (ns .i64 (digs z.natAbs))) gn f50_ rfl rfl rfl ?_
  refine n_len (digs z.natAbs) gn f51_ rfl ?_
  refine n_sub ((digs z.natAbs).length) 1 gn rfl rfl (by omega) (by simp only [topOf]; omega) ?_
  refine n_mul 9 (((digs z.natAbs).length) - 1) gn rfl rfl (by simp only [topOf]; omega) ?_
  refine o_as (Nv (9 * (((digs z.natAbs).length) - 1))) rfl (aops_end (hK4 _ (awp_seq fun K5 hK5 => awp_seq fun K6 hK6 => awp_region rfl ?_)))
  refine o_fieldRef 1 gn f49_ rfl rfl ?_
  refine o_loadS (.sl 1 (ns .i64 (digs z.natAbs))) gn f50_ rfl rfl rfl ?_
  refine o_fieldRef 1 gn f49_ rfl rfl ?_
  refine o_loadS (.sl 1 (ns .i64 (digs z.natAbs))) gn f50_ rfl rfl rfl ?_
  refine n_len (digs z.natAbs) gn f51_ rfl ?_
  refine n_sub ((digs z.natAbs).length) 1 gn rfl rfl (by omega) (by simp only [topOf]; omega) ?_
  refine n_index (digs z.natAbs) (((digs z.natAbs).length) - 1) gn f54_ rfl rfl (by omega) ?_
  refine n_loadI (digs z.natAbs) (((digs z.natAbs).length) - 1) gn f55_ rfl (by omega) ?_
  refine o_as (Nv ((digs z.natAbs).getD (((digs z.natAbs).length) - 1) 0)) rfl (aops_end (hK6 _ ?_))
  refine awp_block ?_
  refine awp_loopR (fun κ σ => ∃ (p : Nat), ∃ (q : Nat), (q < 1000000000) ∧ (p + (decs q).length = 9 * ((digs z.natAbs).length - 1) + (decs ((digs z.natAbs).getD ((digs z.natAbs).length - 1) 0)).length) ∧ q = κ ∧ σ = ⟨[(1, .ref 2 0), (3, Nv p), (4, Nv q)], [(2, oZ 31 .i64 z)]⟩) ⟨_, _, ⟨9 * ((digs z.natAbs).length - 1), (digs z.natAbs).getD ((digs z.natAbs).length - 1) 0, htl, rfl, rfl, rfl⟩, ?wk0⟩ ?rd0
  case wk0 =>
   exact Wk.sub ⟨rfl, (by first | rfl | exact nm_int (by omega)), (by first | rfl | exact nm_int (by omega)), trivial⟩ ⟨rfl, trivial⟩
  rintro κ _ ⟨p, q, hq, hp, rfl, rfl⟩
  refine awp_seq fun K7 hK7 => awp_seq fun K8 hK8 => awp_region rfl (o_mv (Nv q) rfl ?_)
  refine n_gtr q 0 gn rfl rfl ?_
  refine aops_end (hK8 _ ?_)
  refine awp_condQ (q := 0 < q) rfl (fun h2 => ?_) (fun h2 => ?_)
  ·refine awp_skip (hK7 _ (awp_seq fun K9 hK9 => ?_))
   refine awp_block ?_
   refine awp_region rfl (o_mv (Nv p) rfl ?_)
   refine n_add p 1 gn rfl rfl (by simp only [topOf]; omega) ?_
   refine o_as (Nv (p + 1)) rfl (aops_end (hK9 _ (awp_region rfl (o_mv (Nv q) rfl ?_))))
   refine n_quo q 10 gn rfl rfl (by omega) (by simp only [topOf]; omega) ?_
   refine o_as (Nv (q / 10)) rfl (aops_end ?_)
   refine ⟨_, _, ?lt, ⟨p + 1, q / 10, (by omega), (by rw [decs_pos (by assumption)] at hp; simp only [List.length_cons] at hp; omega), rfl, rfl⟩, ?wk⟩
   case lt => omega
   case wk => exact Wk.sub ⟨rfl, (by first | rfl | exact nm_int (by omega)), (by first | rfl | exact nm_int (by omega)), trivial⟩ ⟨rfl, trivial⟩
  ·refine awp_exit ?_
   refine hK5 _ (awp_seq fun K10 hK10 => awp_region rfl (o_mv (Nv p) rfl (o_as (Nv p) rfl (aops_end (hK10 _ ?_)))))
   refine awp_ret ?_
   refine post_ret ⟨[Nv p], ⟨AV.le_refl _, trivial⟩, rfl, ?_⟩
   refine congrArg (nm .i64) ?_
   unfold ndig
   rw [if_neg (fun e => h1 (digs_len_zero.2 e)), ht, ← hp, show q = 0 by omega, decs_zero]
   rfl

end Go.Proofs.Ytaeknciienkijaa

namespace Go.Proofs.Ytaeknciienkijaa
open Go Go.Ab Go.Mth
theorem c_rText (z : Int) (hz : (digs z.natAbs).length ≤ 1000000000) : ECalls cx 14 [intR z] (.lit (.string (txt z))) := by
 refine ecalls_of_awp Try.func14 (c := _) rfl (Nat.le_of_ble_eq_true rfl) ?_
 show awp cx 71 _ (postF cx Try.f14 _) ⟨[(0, intR z)], []⟩
 refine awp_seq fun K0 hK0 => awp_region rfl ?_
 refine o_box 2 [bp (z < 0), .sl 1 (ns .i64 (digs z.natAbs))] gn rfl rfl ?_
 refine o_as (Sv Ev) rfl (aops_end (hK0 _ (awp_seq fun K1 hK1 => awp_seq fun K2 hK2 => awp_region rfl ?_)))
 refine o_fieldRef 1 gn f49_ rfl rfl ?_
 refine o_loadS (.sl 1 (ns .i64 (digs z.natAbs))) gn f50_ rfl rfl rfl ?_
 refine n_len (digs z.natAbs) gn f51_ rfl ?_
 refine n_eql ((digs z.natAbs).length) 0 gn rfl rfl ?_
 refine aops_end (hK2 _ ?_)
 refine awp_condQ (q := ((digs z.natAbs).length) = 0) rfl (fun h1 => ?_) (fun h1 => ?_)
 ·refine awp_seq fun K3 hK3 => awp_region rfl (o_as (Sv ({data := #[48]} : ByteArray)) rfl (aops_end (hK3 _ ?_)))
  refine awp_ret ?_
  refine post_ret ⟨[(Sv ({data := #[48]} : ByteArray))], ⟨AV.le_refl _, trivial⟩, rfl, ?_⟩
  rw [show z = 0 by have := digs_len_zero.1 h1; omega]
  rfl
 ·have hz0 : z.natAbs ≠ 0 := fun e => h1 (digs_len_zero.2 e)
  have hdl := decs_len_le z.natAbs
  refine awp_skip (hK1 _ (awp_seq fun K4 hK4 => awp_region rfl (o_as Zv rfl (aops_end (hK4 _ (awp_seq fun K5 hK5 => awp_seq fun K6 hK6 => awp_region rfl (o_as (Nv 0) rfl (aops_end ?_))))))))
  refine hK6 _ ?_
  refine awp_block ?_
  refine awp_loopR (fun κ σ => ∃ (i : Nat), ∃ (bk : List Nat), (i ≤ (digs z.natAbs).length) ∧ (bk ++ decs (val ((digs z.natAbs).drop i)) = decs z.natAbs) ∧ ((digs z.natAbs).length - i) = κ ∧ σ = ⟨[(1, .ref 2 0), (3, .row 3), (4, Nv i)], [(2, oZ 31 .i64 z), (3, .row 5 1 (ns .u8 bk))]⟩) ⟨_, _, ⟨0, [], (by omega), (by simp [val_digs]), rfl, rfl⟩, ?wk0⟩ ?rd0
  case wk0 =>
   exact Wk.trans (Wk.newNil (i := 3) (id := 503) (e := 5) (sz := 1) rfl rfl (by decide)) (Wk.trans (Wk.sub (σ' := ⟨[(1, .ref 2 0), (3, .row 503), (4, Nv 0)], [(2, oZ 31 .i64 z), (503, .row 5 1 (ns .u8 ([])))]⟩) ⟨rfl, rfl, rfl, trivial⟩ ⟨rfl, rfl, trivial⟩) (Wk.trans (Wk.ren (id := 503) (id' := 3) rfl) (Wk.sub ⟨rfl, (by first | rfl | simp), (by first | rfl | exact nm_int (by omega)), trivial⟩ ⟨rfl, (by first | rfl | exact row_ns (by simp)), trivial⟩)))
  rintro κ _ ⟨i, bk, hi, hv, rfl, rfl⟩
  have hA := (digs_dig z.natAbs).getD i
  refine awp_seq fun K7 hK7 => awp_seq fun K8 hK8 => awp_region rfl (o_mv (Nv i) rfl ?_)
  refine o_fieldRef 1 gn f49_ rfl rfl ?_
  refine o_loadS (.sl 1 (ns .i64 (digs z.natAbs))) gn f50_ rfl rfl rfl ?_
  refine n_len (digs z.natAbs) gn f51_ rfl ?_
  refine n_lss i ((digs z.natAbs).length) gn rfl rfl ?_
  refine aops_end (hK8 _ ?_)
  refine awp_condQ (q := i < ((digs z.natAbs).length)) rfl (fun h2 => ?_) (fun h2 => ?_)
  ·refine awp_skip (hK7 _ (awp_seq fun K9 hK9 => ?_))
   refine awp_block ?_
   refine awp_seq fun K10 hK10 => awp_region rfl ?_
   refine o_fieldRef 1 gn f49_ rfl rfl ?_
   refine o_loadS (.sl 1 (ns .i64 (digs z.natAbs))) gn f50_ rfl rfl rfl ?_
   refine o_mv (Nv i) rfl ?_
   refine n_index (digs z.natAbs) i gn f54_ rfl rfl (by omega) ?_
   refine n_loadI (digs z.natAbs) i gn f55_ rfl (by omega) ?_
   refine o_as (Nv ((digs z.natAbs).getD i 0)) rfl (aops_end (hK10 _ (awp_seq fun K11 hK11 => awp_region rfl (o_as (Nv 0) rfl (aops_end (hK11 _ ?_))))))
   refine awp_block ?_
   refine awp_loopR (fun κ σ => ∃ (k : Nat), ∃ (p : Nat), ∃ (bk : List Nat), (k ≤ 9) ∧ (p < 10 ^ (9 - k)) ∧ (p < 1000000000) ∧ (bk ++ decs (p + 10 ^ (9 - k) * val ((digs z.natAbs).drop (i + 1))) = decs z.natAbs) ∧ (9 - k) = κ ∧ σ = ⟨[(1, .ref 2 0), (3, .row 3), (4, Nv i), (5, Nv p), (6, Nv k)], [(2, oZ 31 .i64 z), (3, .row 5 1 (ns .u8 bk))]⟩) ⟨_, _, ⟨0, _, bk, (by omega), (by simpa using hA), hA, (by rw [← drop_hi (by omega)]; exact hv), rfl, rfl⟩, ?wk1⟩ ?rd1
   case wk1 =>
    exact Wk.sub ⟨rfl, rfl, rfl, (by first | rfl | exact nm_int (by omega)), (by first | rfl | exact nm_int (by omega)), trivial⟩ ⟨rfl, rfl, trivial⟩
   rintro κ _ ⟨k, p, bk, hk, hp, hp2, hw, rfl, rfl⟩
   have hpos : i + 1 < (digs z.natAbs).length → 0 < 10 ^ (9 - k) * val ((digs z.natAbs).drop (i + 1)) := fun h => Nat.mul_pos (Nat.pow_pos (by decide)) (val_drop_pos h)
   refine awp_seq fun K12 hK12 => awp_seq fun K13 hK13 => awp_region rfl (o_mv (Nv k) rfl ?_)
   refine n_lss k 9 gn rfl rfl ?_
   refine o_mv (bp (k < 9)) rfl ?_
   refine o_splitP (q := k < 9) 27 rfl (fun h3 => ?_) (fun h3 => ?_)
   ·refine o_move (Nv p) (Gd.yes rfl rfl (decide_eq_true h3)) rfl ?_
    refine n_gtr p 0 (Gd.yes rfl rfl (decide_eq_true h3)) rfl rfl ?_
    refine o_move (bp (0 < p)) (Gd.yes rfl rfl (decide_eq_true h3)) rfl ?_
    refine o_splitP (q := 0 < p) 30 rfl (fun h4 => ?_) (fun h4 => ?_)
    ·refine o_skip rfl rfl (decide_eq_true h4) (o_skip rfl rfl (decide_eq_true h4) (o_skip rfl rfl (decide_eq_true h4) (o_skip rfl rfl (decide_eq_true h4) (o_skip rfl rfl (decide_eq_true h4) (o_skip rfl rfl (decide_eq_true h4) ?_)))))
     refine o_pickT Tv (Gd.yes rfl rfl (decide_eq_true h3)) rfl (decide_eq_true h4) rfl ?_
     refine o_pickT Tv gn rfl (decide_eq_true h3) rfl ?_
     refine aops_end (hK13 _ ?_)
     refine awp_condB (b := true) rfl (fun _ => ?_) (fun hh => absurd (hh.symm.trans rfl) (by decide))
     refine awp_skip (hK12 _ (awp_seq fun K14 hK14 => ?_))
     refine awp_block ?_
     refine awp_seq fun K15 hK15 => awp_region rfl (o_mv (.row 3) rfl (o_mv (Nv p) rfl ?_))
     refine n_rem p 10 gn rfl rfl (by omega) ?_
     refine n_add 48 (p % 10) gn rfl rfl (by simp only [topOf]; omega) ?_
     refine n_conv (48 + (p % 10)) gn rfl f18_ f38_ (by simp only [topOf]; omega) ?_
     refine o_buildSlice 201 (ns .u8 ([48 + (p % 10)])) [(0, [nm .u8 (48 + (p % 10))])] gn f42_ rfl f43_ rfl rfl rfl rfl rfl rfl rfl ?_
     refine n_append 202 bk ([48 + (p % 10)]) [(201, .row 5 1 (ns .u8 ([48 + (p % 10)]))), (2, oZ 31 .i64 z)] gn f42_ f43_ rfl rfl rfl rfl rfl (by simp only [List.length_append, List.length_cons, List.length_nil]; have := bk_len hw (by first | omega | (have := hpos (by omega); omega)) hz; omega) (by decide) rfl rfl ?_
     refine o_as (.row 202) rfl (aops_end (hK15 _ (awp_region rfl (o_mv (Nv p) rfl ?_))))
     refine n_quo p 10 gn rfl rfl (by omega) (by simp only [topOf]; omega) ?_
     refine o_as (Nv (p / 10)) rfl (aops_end (hK14 _ (awp_region rfl (o_mv (Nv k) rfl ?_))))
     refine n_add k 1 gn rfl rfl (by simp only [topOf]; omega) ?_
     refine o_as (Nv (k + 1)) rfl (aops_end ?_)
     refine ⟨_, _, ?lt, ⟨k + 1, p / 10, bk ++ ([48 + (p % 10)]), (by omega), (by rw [Nat.div_lt_iff_lt_mul (by decide), ← Nat.pow_succ, show Nat.succ (9 - (k + 1)) = 9 - k by omega]; exact hp), (by omega), (text_step (by omega) (by first | omega | (have := hpos (by omega); omega)) hw), rfl, rfl⟩, ?wk⟩
     case lt => omega
     case wk => exact Wk.trans (Wk.sub (σ' := ⟨[(1, .ref 2 0), (3, .row 202), (4, Nv i), (5, Nv (p / 10)), (6, Nv (k + 1))], [(2, oZ 31 .i64 z), (202, .row 5 1 (ns .u8 (bk ++ ([48 + (p % 10)]))))]⟩) ⟨rfl, rfl, rfl, rfl, rfl, trivial⟩ ⟨rfl, rfl, trivial⟩) (Wk.trans (Wk.ren (id := 202) (id' := 3) rfl) (Wk.sub ⟨rfl, (by first | rfl | simp), rfl, (by first | rfl | exact nm_int (by omega)), (by first | rfl | exact nm_int (by omega)), trivial⟩ ⟨rfl, (by first | rfl | exact row_ns (by simp)), trivial⟩))
    ·refine o_move (Nv i) (Gd.yes rfl rfl (decide_eq_false h4)) rfl ?_
     refine o_fieldRef 1 (Gd.yes rfl rfl (decide_eq_false h4)) f49_ rfl rfl ?_
     refine o_loadS (.sl 1 (ns .i64 (digs z.natAbs))) (Gd.yes rfl rfl (decide_eq_false h4)) f50_ rfl rfl rfl ?_
     refine n_len (digs z.natAbs) (Gd.yes rfl rfl (decide_eq_false h4)) f51_ rfl ?_
     refine n_sub ((digs z.natAbs).length) 1 (Gd.yes rfl rfl (decide_eq_false h4)) rfl rfl (by omega) (by simp only [topOf]; omega) ?_
     refine n_lss i (((digs z.natAbs).length) - 1) (Gd.yes rfl rfl (decide_eq_false h4)) rfl rfl ?_
     refine o_pickF (bp (i < (((digs z.natAbs).length) - 1))) (Gd.yes rfl rfl (decide_eq_true h3)) rfl (decide_eq_false h4) rfl ?_
     refine o_pickT (bp (i < (((digs z.natAbs).length) - 1))) gn rfl (decide_eq_true h3) rfl ?_
     refine aops_end (hK13 _ ?_)
     refine awp_condQ (q := i < (((digs z.natAbs).length) - 1)) rfl (fun h5 => ?_) (fun h5 => ?_)
     ·refine awp_skip (hK12 _ (awp_seq fun K16 hK16 => ?_))
      refine awp_block ?_
      refine awp_seq fun K17 hK17 => awp_region rfl (o_mv (.row 3) rfl (o_mv (Nv p) rfl ?_))
      refine n_rem p 10 gn rfl rfl (by omega) ?_
      refine n_add 48 (p % 10) gn rfl rfl (by simp only [topOf]; omega) ?_
      refine n_conv (48 + (p % 10)) gn rfl f18_ f38_ (by simp only [topOf]; omega) ?_
      refine o_buildSlice 201 (ns .u8 ([48 + (p % 10)])) [(0, [nm .u8 (48 + (p % 10))])] gn f42_ rfl f43_ rfl rfl rfl rfl rfl rfl rfl ?_
      refine n_append 202 bk ([48 + (p % 10)]) [(201, .row 5 1 (ns .u8 ([48 + (p % 10)]))), (2, oZ 31 .i64 z)] gn f42_ f43_ rfl rfl rfl rfl rfl (by simp only [List.length_append, List.length_cons, List.length_nil]; have := bk_len hw (by first | omega | (have := hpos (by omega); omega)) hz; omega) (by decide) rfl rfl ?_
      refine o_as (.row 202) rfl (aops_end (hK17 _ (awp_region rfl (o_mv (Nv p) rfl ?_))))
      refine n_quo p 10 gn rfl rfl (by omega) (by simp only [topOf]; omega) ?_
      refine o_as (Nv (p / 10)) rfl (aops_end (hK16 _ (awp_region rfl (o_mv (Nv k) rfl ?_))))
      refine n_add k 1 gn rfl rfl (by simp only [topOf]; omega) ?_
      refine o_as (Nv (k + 1)) rfl (aops_end ?_)
      refine ⟨_, _, ?lt, ⟨k + 1, p / 10, bk ++ ([48 + (p % 10)]), (by omega), (by rw [Nat.div_lt_iff_lt_mul (by decide), ← Nat.pow_succ, show Nat.succ (9 - (k + 1)) = 9 - k by omega]; exact hp), (by omega), (text_step (by omega) (by first | omega | (have := hpos (by omega); omega)) hw), rfl, rfl⟩, ?wk⟩
      case lt => omega
      case wk => exact Wk.trans (Wk.sub (σ' := ⟨[(1, .ref 2 0), (3, .row 202), (4, Nv i), (5, Nv (p / 10)), (6, Nv (k + 1))], [(2, oZ 31 .i64 z), (202, .row 5 1 (ns .u8 (bk ++ ([48 + (p % 10)]))))]⟩) ⟨rfl, rfl, rfl, rfl, rfl, trivial⟩ ⟨rfl, rfl, trivial⟩) (Wk.trans (Wk.ren (id := 202) (id' := 3) rfl) (Wk.sub ⟨rfl, (by first | rfl | simp), rfl, (by first | rfl | exact nm_int (by omega)), (by first | rfl | exact nm_int (by omega)), trivial⟩ ⟨rfl, (by first | rfl | exact row_ns (by simp)), trivial⟩))
     ·refine awp_exit ?_
      refine hK9 _ (awp_region rfl (o_mv (Nv i) rfl ?_))
      refine n_add i 1 gn rfl rfl (by simp only [topOf]; omega) ?_
      refine o_as (Nv (i + 1)) rfl (aops_end ?_)
      have h0 : val ((digs z.natAbs).drop (i + 1)) = 0 := val_drop_all (by omega)
      have hh := hw
      rw [h0, show p = 0 by omega, Nat.mul_zero] at hh
      have hend : bk ++ decs (val ((digs z.natAbs).drop (i + 1))) = decs z.natAbs := by rw [h0]; exact hh
      refine ⟨_, _, ?lt, ⟨i + 1, bk, (by omega), hend, rfl, rfl⟩, ?wk⟩
      case lt => omega
      case wk => exact Wk.sub ⟨rfl, rfl, (by first | rfl | exact nm_int (by omega)), trivial⟩ ⟨rfl, rfl, trivial⟩
   ·refine o_skip rfl rfl (decide_eq_false h3) (o_skip rfl rfl (decide_eq_false h3) (o_skip rfl rfl (decide_eq_false h3) (o_skipU rfl rfl (o_skipU rfl rfl (o_skipU rfl rfl (o_skipU rfl rfl (o_skipU rfl rfl (o_skipU rfl rfl (o_skip rfl rfl (decide_eq_false h3) ?_)))))))))
    refine o_pickF Fv gn rfl (decide_eq_false h3) rfl ?_
    refine aops_end (hK13 _ ?_)
    refine awp_condB (b := false) rfl (fun hh => absurd (hh.symm.trans rfl) (by decide)) (fun _ => ?_)
    refine awp_exit ?_
    refine hK9 _ (awp_region rfl (o_mv (Nv i) rfl ?_))
    refine n_add i 1 gn rfl rfl (by simp only [topOf]; omega) ?_
    refine o_as (Nv (i + 1)) rfl (aops_end ?_)
    have hend := hw
    rw [show k = 9 by omega, show p = 0 by (have h9 := hp; rw [show k = 9 by omega] at h9; simpa using h9)] at hend
    simp only [Nat.sub_self, Nat.pow_zero, Nat.one_mul, Nat.zero_add] at hend
    refine ⟨_, _, ?lt, ⟨i + 1, bk, (by omega), hend, rfl, rfl⟩, ?wk⟩
    case lt => omega
    case wk => exact Wk.sub ⟨rfl, rfl, (by first | rfl | exact nm_int (by omega)), trivial⟩ ⟨rfl, rfl, trivial⟩
  ·refine awp_exit ?_
   refine hK5 _ ?_
   refine awp_seqJ (J := fun σ => ∃ (b : List Nat), (b = decs z.natAbs ++ if z < 0 then [45] else []) ∧ (b.length ≤ 9000000001) ∧ True ∧ σ = ⟨[(3, .row 3)], [(3, .row 5 1 (ns .u8 b))]⟩) ?ja2 ?jb2
   case ja2 =>
    refine awp_seq fun K18 hK18 => awp_region rfl ?_
    refine o_fieldRef 0 gn f52_ rfl rfl ?_
    refine o_loadS (bp (z < 0)) gn f28_ rfl rfl rfl ?_
    refine aops_end (hK18 _ ?_)
    refine awp_condQ (q := z < 0) rfl (fun h6 => ?_) (fun h6 => ?_)
    ·refine awp_region rfl (o_mv (.row 3) rfl ?_)
     refine o_buildSlice 101 (ns .u8 ([45])) [(0, [nm .u8 45])] gn f42_ rfl f43_ rfl rfl rfl rfl rfl rfl rfl ?_
     refine n_append 102 bk ([45]) [(101, .row 5 1 (ns .u8 ([45]))), (2, oZ 31 .i64 z)] gn f42_ f43_ rfl rfl rfl rfl rfl (by simp only [List.length_append, List.length_cons, List.length_nil]; have := congrArg List.length (bk_end hv (by omega)); omega) (by decide) rfl rfl ?_
     refine o_as (.row 102) rfl (aops_end ?_)
     have hbe := bk_end hv (by omega)
     exact ⟨_, ⟨bk ++ ([45]), (by rw [hbe]; simp [*]), (by simp [hbe]; omega), trivial, rfl⟩, Wk.trans (Wk.sub (σ' := ⟨[(3, .row 102)], [(102, .row 5 1 (ns .u8 (bk ++ ([45]))))]⟩) ⟨rfl, trivial⟩ ⟨rfl, trivial⟩) (Wk.trans (Wk.ren (id := 102) (id' := 3) rfl) (Wk.sub ⟨(by first | rfl | simp), trivial⟩ ⟨(by first | rfl | exact row_ns (by simp)), trivial⟩))⟩
    ·refine awp_skip ?_
     have hbe := bk_end hv (by omega)
     exact ⟨_, ⟨bk, (by rw [hbe]; simp [*]), (by simp [hbe]; omega), trivial, rfl⟩, Wk.sub ⟨rfl, trivial⟩ ⟨(by first | rfl | exact row_ns (by simp)), trivial⟩⟩
   rintro _ ⟨b, hb, hbl, -, rfl⟩
   refine awp_seq fun K19 hK19 => awp_region rfl (o_as Zv rfl (aops_end (hK19 _ (awp_seq fun K20 hK20 => awp_seq fun K21 hK21 => awp_region rfl (o_mv (.row 3) rfl ?_)))))
   refine n_lenRow b gn f44_ rfl rfl ?_
   refine o_sub (a := ((b.length : Nat) : Int)) (c := ((1 : Nat) : Int)) gn rfl rfl (by exact wrap64 (by omega) (by omega)) ?_
   refine o_as (Iv (((b.length : Nat) : Int) - ((1 : Nat) : Int))) rfl (aops_end (hK21 _ ?_))
   refine awp_block ?_
   refine awp_loopR (fun κ σ => ∃ (j : Nat), ∃ (out : List Nat), (j ≤ b.length) ∧ (out = (b.drop j).reverse) ∧ j = κ ∧ σ = ⟨[(3, .row 3), (7, .row 4), (8, (Iv ((j : Int) - 1)))], [(3, .row 5 1 (ns .u8 b)), (4, .row 5 1 (ns .u8 out))]⟩) ⟨_, _, ⟨b.length, [], Nat.le_refl _, (by simp), rfl, rfl⟩, ?wk3⟩ ?rd3
   case wk3 =>
    exact Wk.trans (Wk.newNil (i := 7) (id := 801) (e := 5) (sz := 1) rfl rfl (by decide)) (Wk.trans (Wk.sub (σ' := ⟨[(3, .row 3), (7, .row 801), (8, (Iv (((b.length : Nat) : Int) - ((1 : Nat) : Int))))], [(3, .row 5 1 (ns .u8 b)), (801, .row 5 1 (ns .u8 ([])))]⟩) ⟨rfl, rfl, rfl, trivial⟩ ⟨rfl, rfl, trivial⟩) (Wk.trans (Wk.ren (id := 801) (id' := 4) rfl) (Wk.sub ⟨rfl, (by first | rfl | simp), (by first | rfl | exact int_eq (by omega) | exact int_nm (by omega)), trivial⟩ ⟨(by first | rfl | exact row_ns (by simp)), (by first | rfl | exact row_ns (by simp)), trivial⟩)))
   rintro κ _ ⟨j, out, hj, ho, rfl, rfl⟩
   refine awp_seq fun K22 hK22 => awp_seq fun K23 hK23 => awp_region rfl (o_mv (Iv ((j : Int) - 1)) rfl ?_)
   refine o_geq (a := ((j : Int) - 1)) (c := ((0 : Nat) : Int)) gn rfl rfl ?_
   refine aops_end (hK23 _ ?_)
   refine awp_condQ (q := ((0 : Nat) : Int) ≤ ((j : Int) - 1)) rfl (fun h7 => ?_) (fun h7 => ?_)
   ·refine awp_wk (Wk.slot (i := 8) (y := (Nv (j - 1))) (AV.le_eq (by exact nm_int (by omega)))) ?_
    refine awp_skip (hK22 _ (awp_seq fun K24 hK24 => ?_))
    refine awp_block ?_
    refine awp_region rfl (o_mv (.row 4) rfl (o_mv (.row 3) rfl (o_mv (Nv (j - 1)) rfl ?_)))
    refine n_indexRow b (j - 1) gn f42_ rfl rfl rfl (by omega) ?_
    refine n_loadRow b (j - 1) gn f46_ rfl rfl (by omega) ?_
    refine o_buildSlice 401 (ns .u8 ([b.getD (j - 1) 0])) [(0, [nm .u8 (b.getD (j - 1) 0)])] gn f42_ rfl f43_ rfl rfl rfl rfl rfl rfl rfl ?_
    refine n_append 402 out ([b.getD (j - 1) 0]) [(401, .row 5 1 (ns .u8 ([b.getD (j - 1) 0]))), (3, .row 5 1 (ns .u8 b))] gn f42_ f43_ rfl rfl rfl rfl rfl (by simp only [ho, List.length_append, List.length_cons, List.length_nil, List.length_reverse, List.length_drop]; omega) (by decide) rfl rfl ?_
    refine o_as (.row 402) rfl (aops_end (hK24 _ (awp_region rfl (o_mv (Nv (j - 1)) rfl ?_))))
    refine o_sub (a := ((j - 1 : Nat) : Int)) (c := ((1 : Nat) : Int)) gn rfl rfl (by exact wrap64 (by omega) (by omega)) ?_
    refine o_as (Iv (((j - 1 : Nat) : Int) - ((1 : Nat) : Int))) rfl (aops_end ?_)
    refine ⟨_, _, ?lt, ⟨j - 1, out ++ ([b.getD (j - 1) 0]), (by omega), (by rw [ho]; exact rev_step (by omega) hj), rfl, rfl⟩, ?wk⟩
    case lt => omega
    case wk => exact Wk.trans (Wk.sub (σ' := ⟨[(3, .row 3), (7, .row 402), (8, (Iv (((j - 1 : Nat) : Int) - ((1 : Nat) : Int))))], [(3, .row 5 1 (ns .u8 b)), (402, .row 5 1 (ns .u8 (out ++ ([b.getD (j - 1) 0]))))]⟩) ⟨rfl, rfl, rfl, trivial⟩ ⟨rfl, rfl, trivial⟩) (Wk.trans (Wk.ren (id := 402) (id' := 4) rfl) (Wk.sub ⟨rfl, (by first | rfl | simp), (by first | rfl | exact int_eq (by omega) | exact int_nm (by omega)), trivial⟩ ⟨(by first | rfl | exact row_ns (by simp)), (by first | rfl | exact row_ns (by simp)), trivial⟩))
   ·refine awp_exit ?_
    refine hK20 _ (awp_seq fun K25 hK25 => awp_region rfl (o_mv (.row 4) rfl ?_))
    refine n_strOf out gn f44_ f48_ f37_ rfl rfl ?_
    refine o_as (Sv (strN out)) rfl (aops_end (hK25 _ ?_))
    refine awp_ret ?_
    refine post_ret ⟨[Sv (strN out)], ⟨AV.le_refl _, trivial⟩, rfl, ?_⟩
    have hj0 : j = 0 := by omega
    subst hj0
    rw [ho, List.drop_zero]
    exact congrArg (fun x => AV.lit (.string x)) (txt_fin hz0 hb)

end Go.Proofs.Ytaeknciienkijaa

