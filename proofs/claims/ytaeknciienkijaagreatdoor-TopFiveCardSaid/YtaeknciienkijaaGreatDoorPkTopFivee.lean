/- What the proof of a row of this seat leans on (part 5 of 6): a library of abstract values, walks of functions, and plain laws. -/
import Derived.Shelf.LaysM
import Derived.Shelf.LaysC
import Derived.Test.YtaeknciienkijaaGreatDoorProg
import Derived.Ground.SlsfProg
import Derived.Shelf.SlSortCmp.NoneTotal
import Derived.Shelf.SlSortCmp.Whole1
import Derived.Lib.QuietBelow
import Derived.Laws.Externs
import Derived.Test.YtaeknciienkijaaGreatDoorPkTopFived
set_option linter.unusedVariables false
set_option linter.unusedSimpArgs false
namespace Go.Proofs.YtaeknciienkijaaGreatDoor
open Go Go.Ab Go.Mth
theorem f88_ : tyZero cx.P 53 = some [Go.Value.bool false, Go.Value.slice none 0 0, Go.Value.bool false, Go.Value.slice none 0 0] := by kernel_rfl
theorem f89_ : callable cx.P 71 = true := by kernel_rfl
theorem f90_ : tyPlaces cx.P 53 = some (fun i => (#[(0, 2), (2, 2)] : Array (Nat × Nat))[i]?) := by kernel_rfl
theorem f91_ : tySize cx.P 53 = some 4 := by kernel_rfl
theorem f92_ : tyAgg cx.P 53 = some 4 := by kernel_rfl
theorem f93_ : tyZero cx.P 81 = some [(Go.Value.string {data := #[]}), (Go.Value.string {data := #[]})] := by kernel_rfl
theorem f94_ : tyField cx.P 53 0 = some (0, 51) := by kernel_rfl
theorem f95_ : callable cx.P 101 = true := by kernel_rfl
theorem f96_ : tyField cx.P 53 1 = some (2, 51) := by kernel_rfl
theorem f97_ : tyPlaces cx.P 81 = some (fun i => (#[(0, 1), (1, 1)] : Array (Nat × Nat))[i]?) := by kernel_rfl
theorem f98_ : tySize cx.P 81 = some 2 := by kernel_rfl
theorem f99_ : tyAgg cx.P 81 = some 2 := by kernel_rfl
theorem f100_ : callable cx.P 41 = true := by kernel_rfl
theorem f101_ : callable cx.P 42 = true := by kernel_rfl
theorem f102_ : callable cx.P 12 = true := by kernel_rfl
theorem f103_ : callable cx.P 13 = true := by kernel_rfl
theorem f104_ : callable cx.P 100 = true := by kernel_rfl
theorem f105_ : callable cx.P 65 = true := by kernel_rfl
theorem f106_ : callable cx.P 16 = true := by kernel_rfl
theorem f107_ : callable cx.P 66 = true := by kernel_rfl
theorem c_yRed (n d : Int) (hd : d ≠ 0) (h1 : (digs n.natAbs).length ≤ 1000000) (h2 : (digs d.natAbs).length ≤ 1000000) : ECalls cx 42 [intW n, intW d] (frW (redZ n d)) := by
 refine ecalls_of_awp Tryz.func42 (c := _) rfl (Nat.le_of_ble_eq_true rfl) ?_
 show awp cx 35 _ (postF cx Tryz.f42 _) ⟨[(0, intW n), (1, intW d)], []⟩
 have g1 := gcd_pos (n := n) hd
 have g2 := gcd_pos (n := -n) (d := -d) (by omega)
 have g3 := gcd_len (n := n) hd
 have g4 := gcd_len (n := -n) (d := -d) (by omega)
 have g5 : (digs ((-n).natAbs)).length ≤ 1000000 := by rw [Int.natAbs_neg]; exact h1
 have g6 : (digs ((-d).natAbs)).length ≤ 1000000 := by rw [Int.natAbs_neg]; exact h2
 refine awp_seq fun K0 hK0 => awp_region rfl ?_
 refine o_box 2 [bp (n < 0), .sl 1 (ns .u32 (digs n.natAbs))] gn rfl rfl ?_
 refine o_box 3 [bp (d < 0), .sl 1 (ns .u32 (digs d.natAbs))] gn rfl rfl ?_
 refine o_alloc 4 [Fv, Zv, Fv, Zv] gn f88_ rfl rfl rfl ?_
 refine aops_end (hK0 _ (awp_seq fun K1 hK1 => awp_seq fun K2 hK2 => awp_region rfl ?_))
 refine o_loadA [bp (d < 0), .sl 1 (ns .u32 (digs d.natAbs))] gn f20_ rfl rfl rfl rfl rfl ?_
 refine o_ct (c_wSign d) gn f23_ rfl ?_
 refine o_lss (a := (sgn d)) (c := ((0 : Nat) : Int)) gn rfl rfl ?_
 refine aops_end (hK2 _ ?_)
 refine awp_condQ (q := (sgn d) < ((0 : Nat) : Int)) rfl (fun h1 => ?_) (fun h1 => ?_)
 ·refine awp_regionD rfl ?_
  refine o_loadA [bp (n < 0), .sl 1 (ns .u32 (digs n.natAbs))] gn f20_ rfl rfl rfl rfl rfl ?_
  refine o_ct (c_wMinus n) gn f37_ rfl ?_
  refine o_loadA [bp (d < 0), .sl 1 (ns .u32 (digs d.natAbs))] gn f20_ rfl rfl rfl rfl rfl ?_
  refine o_ct (c_wMinus d) gn f37_ rfl ?_
  refine o_store [(4, .var 53 [Fv, Zv, Fv, Zv]), (3, oZ 51 .u32 d), (2, oZ 51 .u32 (-n))] gn f19_ rfl rfl rfl rfl rfl rfl ?_
  refine o_store [(4, .var 53 [Fv, Zv, Fv, Zv]), (3, oZ 51 .u32 (-d)), (2, oZ 51 .u32 (-n))] gn f19_ rfl rfl rfl rfl rfl rfl ?_
  refine aops_end ⟨by kernel_rfl, ?_⟩
  refine hK1 _ (awp_seq fun K3 hK3 => awp_region rfl ?_)
  refine o_loadA [bp ((-n) < 0), .sl 1 (ns .u32 (digs (-n).natAbs))] gn f20_ rfl rfl rfl rfl rfl ?_
  refine o_loadA [bp ((-d) < 0), .sl 1 (ns .u32 (digs (-d).natAbs))] gn f20_ rfl rfl rfl rfl rfl ?_
  refine o_ct (c_wGcd (-n) (-d) (by omega) (by omega)) gn f89_ rfl ?_
  refine o_alloc 5 [Fv, Zv] gn f15_ rfl rfl rfl ?_
  refine o_store [(5, (oZ 51 .u32 ((Int.gcd (-n) (-d) : Nat) : Int))), (4, .var 53 [Fv, Zv, Fv, Zv]), (3, oZ 51 .u32 (-d)), (2, oZ 51 .u32 (-n))] gn f19_ rfl rfl rfl rfl rfl rfl ?_
  refine aops_end (hK3 _ (awp_seq fun K4 hK4 => awp_region rfl ?_))
  refine o_loadA [bp ((-n) < 0), .sl 1 (ns .u32 (digs (-n).natAbs))] gn f20_ rfl rfl rfl rfl rfl ?_
  refine o_loadA [(bp (((Int.gcd (-n) (-d) : Nat) : Int) < 0)), (.sl 1 (ns .u32 (digs ((Int.gcd (-n) (-d) : Nat) : Int).natAbs)))] gn f20_ rfl rfl rfl rfl rfl ?_
  refine o_ct (c_wDivide (-n) ((Int.gcd (-n) (-d) : Nat) : Int) (by omega) (by omega) (by omega)) gn f79_ rfl ?_
  refine o_mv (.tup [(intW ((-n) / ((Int.gcd (-n) (-d) : Nat) : Int))), (intW ((-n) % ((Int.gcd (-n) (-d) : Nat) : Int)))]) rfl (o_extract (intW ((-n) / ((Int.gcd (-n) (-d) : Nat) : Int))) gn rfl rfl (o_extract (intW ((-n) % ((Int.gcd (-n) (-d) : Nat) : Int))) gn rfl rfl ?_))
  refine o_alloc 6 [Fv, Zv] gn f15_ rfl rfl rfl ?_
  refine o_alloc 7 [Fv, Zv] gn f15_ rfl rfl rfl ?_
  refine o_store [(7, .var 51 [Fv, Zv]), (6, (oZ 51 .u32 ((-n) / ((Int.gcd (-n) (-d) : Nat) : Int)))), (5, (oZ 51 .u32 ((Int.gcd (-n) (-d) : Nat) : Int))), (4, .var 53 [Fv, Zv, Fv, Zv]), (3, oZ 51 .u32 (-d)), (2, oZ 51 .u32 (-n))] gn f19_ rfl rfl rfl rfl rfl rfl ?_
  refine o_store [(7, (oZ 51 .u32 ((-n) % ((Int.gcd (-n) (-d) : Nat) : Int)))), (6, (oZ 51 .u32 ((-n) / ((Int.gcd (-n) (-d) : Nat) : Int)))), (5, (oZ 51 .u32 ((Int.gcd (-n) (-d) : Nat) : Int))), (4, .var 53 [Fv, Zv, Fv, Zv]), (3, oZ 51 .u32 (-d)), (2, oZ 51 .u32 (-n))] gn f19_ rfl rfl rfl rfl rfl rfl ?_
  refine aops_end (hK4 _ (awp_seq fun K5 hK5 => awp_region rfl ?_))
  refine o_loadA [bp ((-d) < 0), .sl 1 (ns .u32 (digs (-d).natAbs))] gn f20_ rfl rfl rfl rfl rfl ?_
  refine o_loadA [(bp (((Int.gcd (-n) (-d) : Nat) : Int) < 0)), (.sl 1 (ns .u32 (digs ((Int.gcd (-n) (-d) : Nat) : Int).natAbs)))] gn f20_ rfl rfl rfl rfl rfl ?_
  refine o_ct (c_wDivide (-d) ((Int.gcd (-n) (-d) : Nat) : Int) (by omega) (by omega) (by omega)) gn f79_ rfl ?_
  refine o_mv (.tup [(intW ((-d) / ((Int.gcd (-n) (-d) : Nat) : Int))), (intW ((-d) % ((Int.gcd (-n) (-d) : Nat) : Int)))]) rfl (o_extract (intW ((-d) / ((Int.gcd (-n) (-d) : Nat) : Int))) gn rfl rfl (o_extract (intW ((-d) % ((Int.gcd (-n) (-d) : Nat) : Int))) gn rfl rfl ?_))
  refine o_alloc 8 [Fv, Zv] gn f15_ rfl rfl rfl ?_
  refine o_alloc 9 [Fv, Zv] gn f15_ rfl rfl rfl ?_
  refine o_store [(9, .var 51 [Fv, Zv]), (8, (oZ 51 .u32 ((-d) / ((Int.gcd (-n) (-d) : Nat) : Int)))), (7, (oZ 51 .u32 ((-n) % ((Int.gcd (-n) (-d) : Nat) : Int)))), (6, (oZ 51 .u32 ((-n) / ((Int.gcd (-n) (-d) : Nat) : Int)))), (5, (oZ 51 .u32 ((Int.gcd (-n) (-d) : Nat) : Int))), (4, .var 53 [Fv, Zv, Fv, Zv]), (3, oZ 51 .u32 (-d)), (2, oZ 51 .u32 (-n))] gn f19_ rfl rfl rfl rfl rfl rfl ?_
  refine o_store [(9, (oZ 51 .u32 ((-d) % ((Int.gcd (-n) (-d) : Nat) : Int)))), (8, (oZ 51 .u32 ((-d) / ((Int.gcd (-n) (-d) : Nat) : Int)))), (7, (oZ 51 .u32 ((-n) % ((Int.gcd (-n) (-d) : Nat) : Int)))), (6, (oZ 51 .u32 ((-n) / ((Int.gcd (-n) (-d) : Nat) : Int)))), (5, (oZ 51 .u32 ((Int.gcd (-n) (-d) : Nat) : Int))), (4, .var 53 [Fv, Zv, Fv, Zv]), (3, oZ 51 .u32 (-d)), (2, oZ 51 .u32 (-n))] gn f19_ rfl rfl rfl rfl rfl rfl ?_
  refine aops_end (hK5 _ (awp_seq fun K6 hK6 => awp_region rfl ?_))
  refine o_loadA [(bp (((-n) / ((Int.gcd (-n) (-d) : Nat) : Int)) < 0)), (.sl 1 (ns .u32 (digs ((-n) / ((Int.gcd (-n) (-d) : Nat) : Int)).natAbs)))] gn f20_ rfl rfl rfl rfl rfl ?_
  refine o_loadA [(bp (((-d) / ((Int.gcd (-n) (-d) : Nat) : Int)) < 0)), (.sl 1 (ns .u32 (digs ((-d) / ((Int.gcd (-n) (-d) : Nat) : Int)).natAbs)))] gn f20_ rfl rfl rfl rfl rfl ?_
  refine o_build [(bp (((-n) / ((Int.gcd (-n) (-d) : Nat) : Int)) < 0)), (.sl 1 (ns .u32 (digs ((-n) / ((Int.gcd (-n) (-d) : Nat) : Int)).natAbs))), (bp (((-d) / ((Int.gcd (-n) (-d) : Nat) : Int)) < 0)), (.sl 1 (ns .u32 (digs ((-d) / ((Int.gcd (-n) (-d) : Nat) : Int)).natAbs)))] [(0, [(bp (((-n) / ((Int.gcd (-n) (-d) : Nat) : Int)) < 0)), (.sl 1 (ns .u32 (digs ((-n) / ((Int.gcd (-n) (-d) : Nat) : Int)).natAbs)))]), (1, [(bp (((-d) / ((Int.gcd (-n) (-d) : Nat) : Int)) < 0)), (.sl 1 (ns .u32 (digs ((-d) / ((Int.gcd (-n) (-d) : Nat) : Int)).natAbs)))])] gn f90_ f88_ rfl rfl rfl ?_
  refine o_store [(9, (oZ 51 .u32 ((-d) % ((Int.gcd (-n) (-d) : Nat) : Int)))), (8, (oZ 51 .u32 ((-d) / ((Int.gcd (-n) (-d) : Nat) : Int)))), (7, (oZ 51 .u32 ((-n) % ((Int.gcd (-n) (-d) : Nat) : Int)))), (6, (oZ 51 .u32 ((-n) / ((Int.gcd (-n) (-d) : Nat) : Int)))), (5, (oZ 51 .u32 ((Int.gcd (-n) (-d) : Nat) : Int))), (4, (.var 53 [(bp (((-n) / ((Int.gcd (-n) (-d) : Nat) : Int)) < 0)), (.sl 1 (ns .u32 (digs ((-n) / ((Int.gcd (-n) (-d) : Nat) : Int)).natAbs))), (bp (((-d) / ((Int.gcd (-n) (-d) : Nat) : Int)) < 0)), (.sl 1 (ns .u32 (digs ((-d) / ((Int.gcd (-n) (-d) : Nat) : Int)).natAbs)))])), (3, oZ 51 .u32 (-d)), (2, oZ 51 .u32 (-n))] gn f91_ rfl rfl rfl rfl rfl rfl ?_
  refine aops_end (hK6 _ ?_)
  refine awp_ret ?_
  refine post_ret ⟨[(.agg [(bp (((-n) / ((Int.gcd (-n) (-d) : Nat) : Int)) < 0)), (.sl 1 (ns .u32 (digs ((-n) / ((Int.gcd (-n) (-d) : Nat) : Int)).natAbs))), (bp (((-d) / ((Int.gcd (-n) (-d) : Nat) : Int)) < 0)), (.sl 1 (ns .u32 (digs ((-d) / ((Int.gcd (-n) (-d) : Nat) : Int)).natAbs)))])], ⟨⟨4, (.var 53 [(bp (((-n) / ((Int.gcd (-n) (-d) : Nat) : Int)) < 0)), (.sl 1 (ns .u32 (digs ((-n) / ((Int.gcd (-n) (-d) : Nat) : Int)).natAbs))), (bp (((-d) / ((Int.gcd (-n) (-d) : Nat) : Int)) < 0)), (.sl 1 (ns .u32 (digs ((-d) / ((Int.gcd (-n) (-d) : Nat) : Int)).natAbs)))]), rfl, rfl, rfl, Or.inl ⟨f92_, AV.le_refl _⟩⟩, trivial⟩, rfl, ?_⟩
  exact (congrArg frW (red_n (sgn_lt0.1 (by assumption))))
 ·refine awp_skip (hK1 _ (awp_seq fun K7 hK7 => awp_region rfl ?_))
  refine o_loadA [bp (n < 0), .sl 1 (ns .u32 (digs n.natAbs))] gn f20_ rfl rfl rfl rfl rfl ?_
  refine o_loadA [bp (d < 0), .sl 1 (ns .u32 (digs d.natAbs))] gn f20_ rfl rfl rfl rfl rfl ?_
  refine o_ct (c_wGcd n d (by omega) (by omega)) gn f89_ rfl ?_
  refine o_alloc 5 [Fv, Zv] gn f15_ rfl rfl rfl ?_
  refine o_store [(5, (oZ 51 .u32 ((Int.gcd n d : Nat) : Int))), (4, .var 53 [Fv, Zv, Fv, Zv]), (3, oZ 51 .u32 d), (2, oZ 51 .u32 n)] gn f19_ rfl rfl rfl rfl rfl rfl ?_
  refine aops_end (hK7 _ (awp_seq fun K8 hK8 => awp_region rfl ?_))
  refine o_loadA [bp (n < 0), .sl 1 (ns .u32 (digs n.natAbs))] gn f20_ rfl rfl rfl rfl rfl ?_
  refine o_loadA [(bp (((Int.gcd n d : Nat) : Int) < 0)), (.sl 1 (ns .u32 (digs ((Int.gcd n d : Nat) : Int).natAbs)))] gn f20_ rfl rfl rfl rfl rfl ?_
  refine o_ct (c_wDivide n ((Int.gcd n d : Nat) : Int) (by omega) (by omega) (by omega)) gn f79_ rfl ?_
  refine o_mv (.tup [(intW (n / ((Int.gcd n d : Nat) : Int))), (intW (n % ((Int.gcd n d : Nat) : Int)))]) rfl (o_extract (intW (n / ((Int.gcd n d : Nat) : Int))) gn rfl rfl (o_extract (intW (n % ((Int.gcd n d : Nat) : Int))) gn rfl rfl ?_))
  refine o_alloc 6 [Fv, Zv] gn f15_ rfl rfl rfl ?_
  refine o_alloc 7 [Fv, Zv] gn f15_ rfl rfl rfl ?_
  refine o_store [(7, .var 51 [Fv, Zv]), (6, (oZ 51 .u32 (n / ((Int.gcd n d : Nat) : Int)))), (5, (oZ 51 .u32 ((Int.gcd n d : Nat) : Int))), (4, .var 53 [Fv, Zv, Fv, Zv]), (3, oZ 51 .u32 d), (2, oZ 51 .u32 n)] gn f19_ rfl rfl rfl rfl rfl rfl ?_
  refine o_store [(7, (oZ 51 .u32 (n % ((Int.gcd n d : Nat) : Int)))), (6, (oZ 51 .u32 (n / ((Int.gcd n d : Nat) : Int)))), (5, (oZ 51 .u32 ((Int.gcd n d : Nat) : Int))), (4, .var 53 [Fv, Zv, Fv, Zv]), (3, oZ 51 .u32 d), (2, oZ 51 .u32 n)] gn f19_ rfl rfl rfl rfl rfl rfl ?_
  refine aops_end (hK8 _ (awp_seq fun K9 hK9 => awp_region rfl ?_))
  refine o_loadA [bp (d < 0), .sl 1 (ns .u32 (digs d.natAbs))] gn f20_ rfl rfl rfl rfl rfl ?_
  refine o_loadA [(bp (((Int.gcd n d : Nat) : Int) < 0)), (.sl 1 (ns .u32 (digs ((Int.gcd n d : Nat) : Int).natAbs)))] gn f20_ rfl rfl rfl rfl rfl ?_
  refine o_ct (c_wDivide d ((Int.gcd n d : Nat) : Int) (by omega) (by omega) (by omega)) gn f79_ rfl ?_
  refine o_mv (.tup [(intW (d / ((Int.gcd n d : Nat) : Int))), (intW (d % ((Int.gcd n d : Nat) : Int)))]) rfl (o_extract (intW (d / ((Int.gcd n d : Nat) : Int))) gn rfl rfl (o_extract (intW (d % ((Int.gcd n d : Nat) : Int))) gn rfl rfl ?_))
  refine o_alloc 8 [Fv, Zv] gn f15_ rfl rfl rfl ?_
  refine o_alloc 9 [Fv, Zv] gn f15_ rfl rfl rfl ?_
  refine o_store [(9, .var 51 [Fv, Zv]), (8, (oZ 51 .u32 (d / ((Int.gcd n d : Nat) : Int)))), (7, (oZ 51 .u32 (n % ((Int.gcd n d : Nat) : Int)))), (6, (oZ 51 .u32 (n / ((Int.gcd n d : Nat) : Int)))), (5, (oZ 51 .u32 ((Int.gcd n d : Nat) : Int))), (4, .var 53 [Fv, Zv, Fv, Zv]), (3, oZ 51 .u32 d), (2, oZ 51 .u32 n)] gn f19_ rfl rfl rfl rfl rfl rfl ?_
  refine o_store [(9, (oZ 51 .u32 (d % ((Int.gcd n d : Nat) : Int)))), (8, (oZ 51 .u32 (d / ((Int.gcd n d : Nat) : Int)))), (7, (oZ 51 .u32 (n % ((Int.gcd n d : Nat) : Int)))), (6, (oZ 51 .u32 (n / ((Int.gcd n d : Nat) : Int)))), (5, (oZ 51 .u32 ((Int.gcd n d : Nat) : Int))), (4, .var 53 [Fv, Zv, Fv, Zv]), (3, oZ 51 .u32 d), (2, oZ 51 .u32 n)] gn f19_ rfl rfl rfl rfl rfl rfl ?_
  refine aops_end (hK9 _ (awp_seq fun K10 hK10 => awp_region rfl ?_))
  refine o_loadA [(bp ((n / ((Int.gcd n d : Nat) : Int)) < 0)), (.sl 1 (ns .u32 (digs (n / ((Int.gcd n d : Nat) : Int)).natAbs)))] gn f20_ rfl rfl rfl rfl rfl ?_
  refine o_loadA [(bp ((d / ((Int.gcd n d : Nat) : Int)) < 0)), (.sl 1 (ns .u32 (digs (d / ((Int.gcd n d : Nat) : Int)).natAbs)))] gn f20_ rfl rfl rfl rfl rfl ?_
  refine o_build [(bp ((n / ((Int.gcd n d : Nat) : Int)) < 0)), (.sl 1 (ns .u32 (digs (n / ((Int.gcd n d : Nat) : Int)).natAbs))), (bp ((d / ((Int.gcd n d : Nat) : Int)) < 0)), (.sl 1 (ns .u32 (digs (d / ((Int.gcd n d : Nat) : Int)).natAbs)))] [(0, [(bp ((n / ((Int.gcd n d : Nat) : Int)) < 0)), (.sl 1 (ns .u32 (digs (n / ((Int.gcd n d : Nat) : Int)).natAbs)))]), (1, [(bp ((d / ((Int.gcd n d : Nat) : Int)) < 0)), (.sl 1 (ns .u32 (digs (d / ((Int.gcd n d : Nat) : Int)).natAbs)))])] gn f90_ f88_ rfl rfl rfl ?_
  refine o_store [(9, (oZ 51 .u32 (d % ((Int.gcd n d : Nat) : Int)))), (8, (oZ 51 .u32 (d / ((Int.gcd n d : Nat) : Int)))), (7, (oZ 51 .u32 (n % ((Int.gcd n d : Nat) : Int)))), (6, (oZ 51 .u32 (n / ((Int.gcd n d : Nat) : Int)))), (5, (oZ 51 .u32 ((Int.gcd n d : Nat) : Int))), (4, (.var 53 [(bp ((n / ((Int.gcd n d : Nat) : Int)) < 0)), (.sl 1 (ns .u32 (digs (n / ((Int.gcd n d : Nat) : Int)).natAbs))), (bp ((d / ((Int.gcd n d : Nat) : Int)) < 0)), (.sl 1 (ns .u32 (digs (d / ((Int.gcd n d : Nat) : Int)).natAbs)))])), (3, oZ 51 .u32 d), (2, oZ 51 .u32 n)] gn f91_ rfl rfl rfl rfl rfl rfl ?_
  refine aops_end (hK10 _ ?_)
  refine awp_ret ?_
  refine post_ret ⟨[(.agg [(bp ((n / ((Int.gcd n d : Nat) : Int)) < 0)), (.sl 1 (ns .u32 (digs (n / ((Int.gcd n d : Nat) : Int)).natAbs))), (bp ((d / ((Int.gcd n d : Nat) : Int)) < 0)), (.sl 1 (ns .u32 (digs (d / ((Int.gcd n d : Nat) : Int)).natAbs)))])], ⟨⟨4, (.var 53 [(bp ((n / ((Int.gcd n d : Nat) : Int)) < 0)), (.sl 1 (ns .u32 (digs (n / ((Int.gcd n d : Nat) : Int)).natAbs))), (bp ((d / ((Int.gcd n d : Nat) : Int)) < 0)), (.sl 1 (ns .u32 (digs (d / ((Int.gcd n d : Nat) : Int)).natAbs)))]), rfl, rfl, rfl, Or.inl ⟨f92_, AV.le_refl _⟩⟩, trivial⟩, rfl, ?_⟩
  exact (congrArg frW (red_p (fun e => absurd (sgn_lt0.2 e) (by assumption))))

theorem c_yTold (f : FrZ) (h1 : Fit f.num) (h2 : Fit f.den) : ECalls cx 66 [frW f] (.tup [.agg (cF (frT f)), .lit (.bool true)]) := by
 refine ecalls_of_awp Tryz.func66 (c := _) rfl (Nat.le_of_ble_eq_true rfl) ?_
 show awp cx 29 _ (postF cx Tryz.f66 _) ⟨[(0, frW f)], []⟩
 have l1 := fit_len h1
 have l2 := fit_len h2
 refine awp_seq fun K0 hK0 => awp_region rfl ?_
 refine o_box 2 [bp (f.num < 0), .sl 1 (ns .u32 (digs (f.num).natAbs)), bp (f.den < 0), .sl 1 (ns .u32 (digs (f.den).natAbs))] gn rfl rfl ?_
 refine o_alloc 3 [Sv Ev, Sv Ev] gn f93_ rfl rfl rfl ?_
 refine o_as Fv rfl (aops_end (hK0 _ (awp_seq fun K1 hK1 => awp_region rfl ?_)))
 refine o_fieldRef 0 gn f94_ rfl rfl ?_
 refine o_loadA [bp (f.num < 0), .sl 1 (ns .u32 (digs (f.num).natAbs))] gn f20_ rfl rfl rfl rfl rfl ?_
 refine o_ct (c_nTold (f.num) (by first | omega | assumption | (simp only [Int.natAbs_neg]; omega))) gn f95_ rfl ?_
 refine o_mv (.tup [Sv (toldS (f.num)), Nv (toldE (f.num))]) rfl (o_extract (Sv (toldS (f.num))) gn rfl rfl ?_)
 refine n_as (v' := (Sv (txt f.num))) (by exact str_as (if_pos h1)) ?_
 refine o_extract (Nv (toldE (f.num))) gn rfl rfl ?_
 refine n_as (v' := (Nv 0)) (by exact congrArg (nm _) (if_pos h1)) ?_
 refine o_as (Sv (txt f.num)) rfl (o_as (Nv 0) rfl (aops_end (hK1 _ (awp_seq fun K2 hK2 => awp_region rfl ?_))))
 refine o_fieldRef 2 gn f96_ rfl rfl ?_
 refine o_loadA [bp (f.den < 0), .sl 1 (ns .u32 (digs (f.den).natAbs))] gn f20_ rfl rfl rfl rfl rfl ?_
 refine o_ct (c_nTold (f.den) (by first | omega | assumption | (simp only [Int.natAbs_neg]; omega))) gn f95_ rfl ?_
 refine o_mv (.tup [Sv (toldS (f.den)), Nv (toldE (f.den))]) rfl (o_extract (Sv (toldS (f.den))) gn rfl rfl ?_)
 refine n_as (v' := (Sv (txt f.den))) (by exact str_as (if_pos h2)) ?_
 refine o_extract (Nv (toldE (f.den))) gn rfl rfl ?_
 refine n_as (v' := (Nv 0)) (by exact congrArg (nm _) (if_pos h2)) ?_
 refine o_as (Sv (txt f.den)) rfl (o_as (Nv 0) rfl (aops_end (hK2 _ (awp_seq fun K3 hK3 => awp_region rfl (o_mv (Sv (txt f.num)) rfl (o_mv (Sv (txt f.den)) rfl ?_))))))
 refine o_build [Sv (txt f.num), Sv (txt f.den)] [(0, [Sv (txt f.num)]), (1, [Sv (txt f.den)])] gn f97_ f93_ rfl rfl rfl ?_
 refine o_mv (Nv 0) rfl ?_
 refine n_eql 0 0 gn rfl rfl ?_
 refine o_mv (bp (0 = 0)) rfl ?_
 refine o_move (Nv 0) (Gd.yes rfl rfl (decide_eq_true (by decide))) rfl ?_
 refine n_eql 0 0 (Gd.yes rfl rfl (decide_eq_true (by decide))) rfl rfl ?_
 refine o_pickT (bp (0 = 0)) gn rfl (decide_eq_true (by decide)) rfl ?_
 refine o_store [(3, .var 81 [Sv (txt f.num), Sv (txt f.den)]), (2, .var 53 [bp (f.num < 0), .sl 1 (ns .u32 (digs (f.num).natAbs)), bp (f.den < 0), .sl 1 (ns .u32 (digs (f.den).natAbs))])] gn f98_ rfl rfl rfl rfl rfl rfl ?_
 refine o_as (bp (0 = 0)) rfl (aops_end (hK3 _ ?_))
 refine awp_ret ?_
 refine post_ret ⟨[.agg [Sv (txt f.num), Sv (txt f.den)], bp (0 = 0)], ⟨⟨3, .var 81 [Sv (txt f.num), Sv (txt f.den)], rfl, rfl, rfl, Or.inl ⟨f99_, AV.le_refl _⟩⟩, AV.le_refl _, trivial⟩, rfl, ?_⟩
 rfl

theorem c_yFix (m : MapM) (w : List Int) (hM : OkM m) (hf : freeM m) (hW : OkW m w) (hne : w ≠ []) : ECalls cx 16 [mapV m, Lv w] (frW (fixZ m w)) := by
 refine ecalls_of_awp Tryz.func16 (c := _) rfl (Nat.le_of_ble_eq_true rfl) ?_
 show awp cx 17 _ (postF cx Tryz.f16 _) ⟨[(0, mapV m), (1, Lv w)], []⟩
 obtain ⟨l1, l2, l3⟩ := line_len hM w hW.1
 have l4 := hW.2
 have l5 := len_subZ (lineZ m w).div (lineZ m w).mul
 have l6 := line_ne hM hf hW.1 hne
 refine awp_seq fun K0 hK0 => awp_region rfl ?_
 refine o_box 2 [Iv m.mod, Lv m.mul, Lv m.add] gn rfl rfl ?_
 refine o_alloc 3 [Fv, Zv, Fv, Zv] gn f88_ rfl rfl rfl ?_
 refine aops_end (hK0 _ (awp_seq fun K1 hK1 => awp_region rfl ?_))
 refine o_loadA [Iv m.mod, Lv m.mul, Lv m.add] gn f64_ rfl rfl rfl rfl rfl ?_
 refine o_mv (Lv w) rfl ?_
 refine o_ct (c_oOf m w (by first | assumption | exact okM_iff.1 (by assumption)) (by first | assumption | exact (by assumption : OkW _ _).1 | exact isW_take (by assumption : OkW _ _).1 _) (by first | omega | exact (by assumption : OkW _ _).2)) gn f100_ rfl ?_
 refine o_alloc 4 [Fv, Zv, Fv, Zv, Fv, Zv] gn f80_ rfl rfl rfl ?_
 refine o_store [(4, .var 88 [Bv ((lineZ m w).mul), Dv ((lineZ m w).mul), Bv ((lineZ m w).add), Dv ((lineZ m w).add), Bv ((lineZ m w).div), Dv ((lineZ m w).div)]), (3, .var 53 [Fv, Zv, Fv, Zv]), (2, oM 28 m)] gn f82_ rfl rfl rfl rfl rfl rfl ?_
 refine aops_end (hK1 _ (awp_seq fun K2 hK2 => awp_regionD rfl ?_))
 refine o_fieldRef 2 gn f85_ rfl rfl ?_
 refine o_loadA [Bv ((lineZ m w).add), Dv ((lineZ m w).add)] gn f20_ rfl rfl rfl rfl rfl ?_
 refine o_fieldRef 4 gn f86_ rfl rfl ?_
 refine o_loadA [Bv ((lineZ m w).div), Dv ((lineZ m w).div)] gn f20_ rfl rfl rfl rfl rfl ?_
 refine o_fieldRef 0 gn f84_ rfl rfl ?_
 refine o_loadA [Bv ((lineZ m w).mul), Dv ((lineZ m w).mul)] gn f20_ rfl rfl rfl rfl rfl ?_
 refine o_ct (c_wSub ((lineZ m w).div) ((lineZ m w).mul) (by first | omega | assumption | (simp only [Int.natAbs_neg]; omega)) (by first | omega | assumption | (simp only [Int.natAbs_neg]; omega))) gn f47_ rfl ?_
 refine o_ct (c_yRed ((lineZ m w).add) (((lineZ m w).div) - ((lineZ m w).mul)) (by first | omega | assumption) (by first | omega | assumption) (by first | omega | assumption)) gn f101_ rfl ?_
 refine o_store [(4, .var 88 [Bv ((lineZ m w).mul), Dv ((lineZ m w).mul), Bv ((lineZ m w).add), Dv ((lineZ m w).add), Bv ((lineZ m w).div), Dv ((lineZ m w).div)]), (3, .var 53 [bp ((redZ ((lineZ m w).add) (((lineZ m w).div) - ((lineZ m w).mul))).num < 0), .sl 1 (ns .u32 (digs ((redZ ((lineZ m w).add) (((lineZ m w).div) - ((lineZ m w).mul))).num).natAbs)), bp ((redZ ((lineZ m w).add) (((lineZ m w).div) - ((lineZ m w).mul))).den < 0), .sl 1 (ns .u32 (digs ((redZ ((lineZ m w).add) (((lineZ m w).div) - ((lineZ m w).mul))).den).natAbs))]), (2, oM 28 m)] gn f91_ rfl rfl rfl rfl rfl rfl ?_
 refine aops_end ⟨by kernel_rfl, ?_⟩
 refine hK2 _ ?_
 refine awp_ret ?_
 refine post_ret ⟨[.agg [bp ((redZ ((lineZ m w).add) (((lineZ m w).div) - ((lineZ m w).mul))).num < 0), .sl 1 (ns .u32 (digs ((redZ ((lineZ m w).add) (((lineZ m w).div) - ((lineZ m w).mul))).num).natAbs)), bp ((redZ ((lineZ m w).add) (((lineZ m w).div) - ((lineZ m w).mul))).den < 0), .sl 1 (ns .u32 (digs ((redZ ((lineZ m w).add) (((lineZ m w).div) - ((lineZ m w).mul))).den).natAbs))]], ⟨⟨3, .var 53 [bp ((redZ ((lineZ m w).add) (((lineZ m w).div) - ((lineZ m w).mul))).num < 0), .sl 1 (ns .u32 (digs ((redZ ((lineZ m w).add) (((lineZ m w).div) - ((lineZ m w).mul))).num).natAbs)), bp ((redZ ((lineZ m w).add) (((lineZ m w).div) - ((lineZ m w).mul))).den < 0), .sl 1 (ns .u32 (digs ((redZ ((lineZ m w).add) (((lineZ m w).div) - ((lineZ m w).mul))).den).natAbs))], rfl, rfl, rfl, Or.inl ⟨f92_, AV.le_refl _⟩⟩, trivial⟩, rfl, ?_⟩
 rfl

theorem c_yCheck (m : MapM) (w : List Int) (hl : w.length ≤ 17592186044416) : ECalls cx 65 [mapV m, Lv w] (Nv (cycE m w)) := by
 refine ecalls_of_awp Tryz.func65 (c := _) rfl (Nat.le_of_ble_eq_true rfl) ?_
 show awp cx 24 _ (postF cx Tryz.f65 _) ⟨[(0, mapV m), (1, Lv w)], []⟩
 refine awp_seq fun K0 hK0 => awp_region rfl ?_
 refine o_box 2 [Iv m.mod, Lv m.mul, Lv m.add] gn rfl rfl ?_
 refine o_as (Nv 0) rfl (aops_end (hK0 _ (awp_seq fun K1 hK1 => ?_)))
 refine awp_block ?_
 refine awp_seq fun K2 hK2 => awp_region rfl ?_
 refine o_loadA [Iv m.mod, Lv m.mul, Lv m.add] gn f64_ rfl rfl rfl rfl rfl ?_
 refine o_ct (c_sValid m) gn f102_ rfl ?_
 refine o_not (b := okM m) gn rfl ?_
 refine o_as (.lit (.bool (!(okM m)))) rfl (aops_end (hK2 _ ?_))
 refine awp_condB (b := !(okM m)) rfl (fun h1 => ?_) (fun h1 => ?_)
 ·have hm' : ¬ okM m = true := by simpa using h1
  refine awp_seq fun K3 hK3 => awp_region rfl (o_as (Nv 1) rfl (aops_end (hK3 _ ?_)))
  refine awp_ret ?_
  refine post_ret ⟨[Nv 1], ⟨AV.le_refl _, trivial⟩, rfl, ?_⟩
  first | exact congrArg (nm _) (cyc_1 hm').symm | exact congrArg (nm _) (cyc_2 hm' (fun e => absurd e.1 (by assumption))).symm | exact congrArg (nm _) (cyc_2 hm' (fun e => absurd e.2.1 (by assumption))).symm | exact congrArg (nm _) (cyc_2 hm' (fun e => e.2.2 (List.eq_nil_of_length_eq_zero (by omega)))).symm | exact congrArg (nm _) (cyc_0 hm' ⟨Decidable.not_not.1 (by assumption), Decidable.not_not.1 (by assumption), fun e => by have q := congrArg List.length e; rw [List.length_nil] at q; omega⟩).symm | exact congrArg (nm _) (cyc_1 hm') | exact congrArg (nm _) (cyc_2 hm' (fun e => absurd e.1 (by assumption))) | exact congrArg (nm _) (cyc_2 hm' (fun e => absurd e.2.1 (by assumption))) | exact congrArg (nm _) (cyc_2 hm' (fun e => e.2.2 (List.eq_nil_of_length_eq_zero (by omega)))) | exact congrArg (nm _) (cyc_0 hm' ⟨Decidable.not_not.1 (by assumption), Decidable.not_not.1 (by assumption), fun e => by have q := congrArg List.length e; rw [List.length_nil] at q; omega⟩)
 ·have hm' : okM m = true := by simpa using h1
  have hM := okM_iff.1 hm'
  refine awp_seq fun K4 hK4 => awp_region rfl ?_
  refine o_loadA [Iv m.mod, Lv m.mul, Lv m.add] gn f64_ rfl rfl rfl rfl rfl ?_
  refine o_ct (c_sFree m (by first | assumption | exact okM_iff.1 (by assumption))) gn f103_ rfl ?_
  refine o_notP (q := freeM m) gn rfl ?_
  refine o_mv (bp (¬ (freeM m))) rfl ?_
  refine o_splitP (q := ¬ (freeM m)) 13 rfl (fun h2 => ?_) (fun h2 => ?_)
  ·refine o_skip rfl rfl (decide_eq_true h2) (o_skip rfl rfl (decide_eq_true h2) (o_skip rfl rfl (decide_eq_true h2) (o_skip rfl rfl (decide_eq_true h2) ?_)))
   refine o_pickT Tv gn rfl (decide_eq_true h2) rfl ?_
   refine o_mv Tv rfl (o_skip rfl rfl rfl (o_skip rfl rfl rfl (o_skip rfl rfl rfl ?_)))
   refine o_pickT Tv gn rfl rfl rfl ?_
   refine o_as Tv rfl (aops_end (hK4 _ ?_))
   refine awp_condB (b := true) rfl (fun _ => ?_) (fun hh => absurd (hh.symm.trans rfl) (by decide))
   refine awp_seq fun K5 hK5 => awp_region rfl (o_as (Nv 2) rfl (aops_end (hK5 _ ?_)))
   refine awp_ret ?_
   refine post_ret ⟨[Nv 2], ⟨AV.le_refl _, trivial⟩, rfl, ?_⟩
   first | exact congrArg (nm _) (cyc_1 hm').symm | exact congrArg (nm _) (cyc_2 hm' (fun e => absurd e.1 (by assumption))).symm | exact congrArg (nm _) (cyc_2 hm' (fun e => absurd e.2.1 (by assumption))).symm | exact congrArg (nm _) (cyc_2 hm' (fun e => e.2.2 (List.eq_nil_of_length_eq_zero (by omega)))).symm | exact congrArg (nm _) (cyc_0 hm' ⟨Decidable.not_not.1 (by assumption), Decidable.not_not.1 (by assumption), fun e => by have q := congrArg List.length e; rw [List.length_nil] at q; omega⟩).symm | exact congrArg (nm _) (cyc_1 hm') | exact congrArg (nm _) (cyc_2 hm' (fun e => absurd e.1 (by assumption))) | exact congrArg (nm _) (cyc_2 hm' (fun e => absurd e.2.1 (by assumption))) | exact congrArg (nm _) (cyc_2 hm' (fun e => e.2.2 (List.eq_nil_of_length_eq_zero (by omega)))) | exact congrArg (nm _) (cyc_0 hm' ⟨Decidable.not_not.1 (by assumption), Decidable.not_not.1 (by assumption), fun e => by have q := congrArg List.length e; rw [List.length_nil] at q; omega⟩)
  ·refine o_loadA [Iv m.mod, Lv m.mul, Lv m.add] (Gd.yes rfl rfl (decide_eq_false h2)) f64_ rfl rfl rfl rfl rfl ?_
   refine o_move (Lv w) (Gd.yes rfl rfl (decide_eq_false h2)) rfl ?_
   refine o_ct (c_oIs m w) (Gd.yes rfl rfl (decide_eq_false h2)) f104_ rfl ?_
   refine o_notP (q := OkW m w) (Gd.yes rfl rfl (decide_eq_false h2)) rfl ?_
   refine o_pickF (bp (¬ (OkW m w))) gn rfl (decide_eq_false h2) rfl ?_
   refine o_mv (bp (¬ (OkW m w))) rfl ?_
   refine o_splitP (q := ¬ (OkW m w)) 19 rfl (fun h3 => ?_) (fun h3 => ?_)
   ·refine o_skip rfl rfl (decide_eq_true h3) (o_skip rfl rfl (decide_eq_true h3) (o_skip rfl rfl (decide_eq_true h3) ?_))
    refine o_pickT Tv gn rfl (decide_eq_true h3) rfl ?_
    refine o_as Tv rfl (aops_end (hK4 _ ?_))
    refine awp_condB (b := true) rfl (fun _ => ?_) (fun hh => absurd (hh.symm.trans rfl) (by decide))
    refine awp_seq fun K6 hK6 => awp_region rfl (o_as (Nv 2) rfl (aops_end (hK6 _ ?_)))
    refine awp_ret ?_
    refine post_ret ⟨[Nv 2], ⟨AV.le_refl _, trivial⟩, rfl, ?_⟩
    first | exact congrArg (nm _) (cyc_1 hm').symm | exact congrArg (nm _) (cyc_2 hm' (fun e => absurd e.1 (by assumption))).symm | exact congrArg (nm _) (cyc_2 hm' (fun e => absurd e.2.1 (by assumption))).symm | exact congrArg (nm _) (cyc_2 hm' (fun e => e.2.2 (List.eq_nil_of_length_eq_zero (by omega)))).symm | exact congrArg (nm _) (cyc_0 hm' ⟨Decidable.not_not.1 (by assumption), Decidable.not_not.1 (by assumption), fun e => by have q := congrArg List.length e; rw [List.length_nil] at q; omega⟩).symm | exact congrArg (nm _) (cyc_1 hm') | exact congrArg (nm _) (cyc_2 hm' (fun e => absurd e.1 (by assumption))) | exact congrArg (nm _) (cyc_2 hm' (fun e => absurd e.2.1 (by assumption))) | exact congrArg (nm _) (cyc_2 hm' (fun e => e.2.2 (List.eq_nil_of_length_eq_zero (by omega)))) | exact congrArg (nm _) (cyc_0 hm' ⟨Decidable.not_not.1 (by assumption), Decidable.not_not.1 (by assumption), fun e => by have q := congrArg List.length e; rw [List.length_nil] at q; omega⟩)
   ·refine o_move (Lv w) (Gd.yes rfl rfl (decide_eq_false h3)) rfl ?_
    refine i_len w (Gd.yes rfl rfl (decide_eq_false h3)) f2_ rfl ?_
    refine n_eql (w.length) 0 (Gd.yes rfl rfl (decide_eq_false h3)) rfl rfl ?_
    refine o_pickF (bp ((w.length) = 0)) gn rfl (decide_eq_false h3) rfl ?_
    refine o_as (bp ((w.length) = 0)) rfl (aops_end (hK4 _ ?_))
    refine awp_condQ (q := (w.length) = 0) rfl (fun h4 => ?_) (fun h4 => ?_)
    ·refine awp_seq fun K7 hK7 => awp_region rfl (o_as (Nv 2) rfl (aops_end (hK7 _ ?_)))
     refine awp_ret ?_
     refine post_ret ⟨[Nv 2], ⟨AV.le_refl _, trivial⟩, rfl, ?_⟩
     first | exact congrArg (nm _) (cyc_1 hm').symm | exact congrArg (nm _) (cyc_2 hm' (fun e => absurd e.1 (by assumption))).symm | exact congrArg (nm _) (cyc_2 hm' (fun e => absurd e.2.1 (by assumption))).symm | exact congrArg (nm _) (cyc_2 hm' (fun e => e.2.2 (List.eq_nil_of_length_eq_zero (by omega)))).symm | exact congrArg (nm _) (cyc_0 hm' ⟨Decidable.not_not.1 (by assumption), Decidable.not_not.1 (by assumption), fun e => by have q := congrArg List.length e; rw [List.length_nil] at q; omega⟩).symm | exact congrArg (nm _) (cyc_1 hm') | exact congrArg (nm _) (cyc_2 hm' (fun e => absurd e.1 (by assumption))) | exact congrArg (nm _) (cyc_2 hm' (fun e => absurd e.2.1 (by assumption))) | exact congrArg (nm _) (cyc_2 hm' (fun e => e.2.2 (List.eq_nil_of_length_eq_zero (by omega)))) | exact congrArg (nm _) (cyc_0 hm' ⟨Decidable.not_not.1 (by assumption), Decidable.not_not.1 (by assumption), fun e => by have q := congrArg List.length e; rw [List.length_nil] at q; omega⟩)
    ·refine awp_skip (hK1 _ (awp_seq fun K8 hK8 => awp_region rfl (o_as (Nv 0) rfl (aops_end (hK8 _ ?_)))))
     refine awp_ret ?_
     refine post_ret ⟨[Nv 0], ⟨AV.le_refl _, trivial⟩, rfl, ?_⟩
     first | exact congrArg (nm _) (cyc_1 hm').symm | exact congrArg (nm _) (cyc_2 hm' (fun e => absurd e.1 (by assumption))).symm | exact congrArg (nm _) (cyc_2 hm' (fun e => absurd e.2.1 (by assumption))).symm | exact congrArg (nm _) (cyc_2 hm' (fun e => e.2.2 (List.eq_nil_of_length_eq_zero (by omega)))).symm | exact congrArg (nm _) (cyc_0 hm' ⟨Decidable.not_not.1 (by assumption), Decidable.not_not.1 (by assumption), fun e => by have q := congrArg List.length e; rw [List.length_nil] at q; omega⟩).symm | exact congrArg (nm _) (cyc_1 hm') | exact congrArg (nm _) (cyc_2 hm' (fun e => absurd e.1 (by assumption))) | exact congrArg (nm _) (cyc_2 hm' (fun e => absurd e.2.1 (by assumption))) | exact congrArg (nm _) (cyc_2 hm' (fun e => e.2.2 (List.eq_nil_of_length_eq_zero (by omega)))) | exact congrArg (nm _) (cyc_0 hm' ⟨Decidable.not_not.1 (by assumption), Decidable.not_not.1 (by assumption), fun e => by have q := congrArg List.length e; rw [List.length_nil] at q; omega⟩)

theorem c_yFixed (m : MapM) (w : List Int) (hl : w.length ≤ 17592186044416) : ECalls cx 36 [mapV m, Lv w] (.tup [.agg (cF (fxF m w)), nm .i64 (cycE m w)]) := by
 refine ecalls_of_awp Tryz.func36 (c := _) rfl (Nat.le_of_ble_eq_true rfl) ?_
 show awp cx 27 _ (postF cx Tryz.f36 _) ⟨[(0, mapV m), (1, Lv w)], []⟩
 refine awp_seq fun K0 hK0 => awp_region rfl ?_
 refine o_box 2 [Iv m.mod, Lv m.mul, Lv m.add] gn rfl rfl ?_
 refine o_alloc 3 [Sv Ev, Sv Ev] gn f93_ rfl rfl rfl ?_
 refine o_as (Nv 0) rfl (aops_end (hK0 _ (awp_seq fun K1 hK1 => awp_seq fun K2 hK2 => awp_region rfl ?_)))
 refine o_loadA [Iv m.mod, Lv m.mul, Lv m.add] gn f64_ rfl rfl rfl rfl rfl ?_
 refine o_mv (Lv w) rfl ?_
 refine o_ct (c_yCheck m w (by assumption)) gn f105_ rfl ?_
 refine o_as (Nv (cycE m w)) rfl (aops_end (hK2 _ (awp_seq fun K3 hK3 => awp_region rfl (o_mv (Nv (cycE m w)) rfl ?_))))
 refine n_neq (cycE m w) 0 gn rfl rfl ?_
 refine aops_end (hK3 _ ?_)
 refine awp_condQ (q := (cycE m w) ≠ 0) rfl (fun h1 => ?_) (fun h1 => ?_)
 ·have hx := fxF_no h1
  refine awp_seq fun K4 hK4 => awp_region rfl ?_
  refine o_build [Sv Ev, Sv Ev] [] gn f97_ f93_ rfl rfl rfl ?_
  refine o_mv (Nv (cycE m w)) rfl ?_
  refine o_store [(3, .var 81 [Sv Ev, Sv Ev]), (2, oM 28 m)] gn f98_ rfl rfl rfl rfl rfl rfl ?_
  refine o_as (Nv (cycE m w)) rfl (aops_end (hK4 _ ?_))
  refine awp_ret ?_
  refine post_ret ⟨[.agg [Sv Ev, Sv Ev], Nv (cycE m w)], ⟨⟨3, .var 81 [Sv Ev, Sv Ev], rfl, rfl, rfl, Or.inl ⟨f99_, AV.le_refl _⟩⟩, AV.le_refl _, trivial⟩, rfl, ?_⟩
  first | exact tup_eq2 (congrArg (fun f => AV.agg (cF f)) hx.1) rfl | exact tup_eq2 (congrArg (fun f => AV.agg (cF f)) hx.1.symm) rfl | exact tup_eq2 (congrArg (fun f => AV.agg (cF f)) hx.1) (congrArg (nm _) hc0) | exact tup_eq2 (congrArg (fun f => AV.agg (cF f)) hx.1.symm) (congrArg (nm _) hc0.symm)
 ·have hc0 := Decidable.not_not.1 h1
  obtain ⟨hM, hf, hW, hne⟩ := cyc_0' hc0
  obtain ⟨k1, k2⟩ := fix_fit hM hf hW hne
  have hx := fxF_ok hc0
  refine awp_skip (hK1 _ (awp_seq fun K5 hK5 => awp_region rfl ?_))
  refine o_loadA [Iv m.mod, Lv m.mul, Lv m.add] gn f64_ rfl rfl rfl rfl rfl ?_
  refine o_mv (Lv w) rfl ?_
  refine o_ct (c_yFix m w hM hf hW hne) gn f106_ rfl ?_
  refine o_ct (c_yTold (fixZ m w) (by assumption) (by assumption)) gn f107_ rfl ?_
  refine o_mv (.tup [.agg [Sv ((frT (fixZ m w)).num), Sv ((frT (fixZ m w)).den)], Tv]) rfl (o_extract (.agg [Sv ((frT (fixZ m w)).num), Sv ((frT (fixZ m w)).den)]) gn rfl rfl (o_extract Tv gn rfl rfl ?_))
  refine o_alloc 4 [Sv Ev, Sv Ev] gn f93_ rfl rfl rfl ?_
  refine o_store [(4, .var 81 [Sv ((frT (fixZ m w)).num), Sv ((frT (fixZ m w)).den)]), (3, .var 81 [Sv Ev, Sv Ev]), (2, oM 28 m)] gn f98_ rfl rfl rfl rfl rfl rfl ?_
  refine o_as Tv rfl (aops_end (hK5 _ (awp_seq fun K6 hK6 => awp_seq fun K7 hK7 => awp_region rfl (o_mv Tv rfl ?_))))
  refine o_not (b := true) gn rfl ?_
  refine aops_end (hK7 _ ?_)
  refine awp_condB (b := false) rfl (fun hh => absurd (hh.symm.trans rfl) (by decide)) (fun _ => ?_)
  refine awp_skip (hK6 _ (awp_seq fun K8 hK8 => awp_region rfl ?_))
  refine o_loadA [Sv ((frT (fixZ m w)).num), Sv ((frT (fixZ m w)).den)] gn f99_ rfl rfl rfl rfl rfl ?_
  refine o_store [(4, .var 81 [Sv ((frT (fixZ m w)).num), Sv ((frT (fixZ m w)).den)]), (3, .var 81 [Sv ((frT (fixZ m w)).num), Sv ((frT (fixZ m w)).den)]), (2, oM 28 m)] gn f98_ rfl rfl rfl rfl rfl rfl ?_
  refine o_as (Nv 0) rfl (aops_end (hK8 _ ?_))
  refine awp_ret ?_
  refine post_ret ⟨[.agg [Sv ((frT (fixZ m w)).num), Sv ((frT (fixZ m w)).den)], Nv 0], ⟨⟨3, .var 81 [Sv ((frT (fixZ m w)).num), Sv ((frT (fixZ m w)).den)], rfl, rfl, rfl, Or.inl ⟨f99_, AV.le_refl _⟩⟩, AV.le_refl _, trivial⟩, rfl, ?_⟩
  first | exact tup_eq2 (congrArg (fun f => AV.agg (cF f)) hx.1) rfl | exact tup_eq2 (congrArg (fun f => AV.agg (cF f)) hx.1.symm) rfl | exact tup_eq2 (congrArg (fun f => AV.agg (cF f)) hx.1) (congrArg (nm _) hc0) | exact tup_eq2 (congrArg (fun f => AV.agg (cF f)) hx.1.symm) (congrArg (nm _) hc0.symm)

end Go.Proofs.YtaeknciienkijaaGreatDoor

namespace Go.Ab
theorem Wk.cells {C : Ctx} {n : Nat} {σ : St} {i ty : Nat} {cs cs' : List AV} (hs : lookO σ.objs i = some (.var ty cs)) (hl : LeL cs cs') : Wk C n σ ⟨σ.slots, (i, .var ty cs') :: σ.objs⟩ := fun w0 H L a w hr => by
 have conv : ∀ j o, lookO ((i, .var ty cs') :: σ.objs) j = some o → (j = i ∧ o = .var ty cs') ∨ (j ≠ i ∧ σ.sem.μ j = some o) := fun j o ho => by
  simp only [lookO] at ho
  by_cases h2 : j = i
  ·subst h2
   simp at ho
   exact .inl ⟨rfl, ho.symm⟩
  ·rw [beq_ne (fun e => h2 e.symm)] at ho
   exact .inr ⟨h2, ho⟩
 have hi0 := hr.objs i (.var ty cs) hs
 refine ⟨H, L, Ext.refl _ _, ⟨hr.glob, hr.heap, hr.size, hr.slot, fun j o ho => ?_, fun j k o o' g x x' hjk hj hk => ?_, hr.below, hr.defers⟩⟩
 ·rcases conv j o ho with ⟨rfl, rfl⟩ | ⟨h1, h2⟩
  ·obtain ⟨g, vs, a1, a2, a3, a4, a5, a6⟩ := hi0
   exact ⟨g, vs, a1, a2, hl.rep a3, a4, a5, a6⟩
  ·exact hr.objs j o h2
 ·have conv' : ∀ j o, lookO ((i, .var ty cs') :: σ.objs) j = some o → ∃ o', σ.sem.μ j = some o' := fun j o ho => by
   rcases conv j o ho with ⟨rfl, rfl⟩ | ⟨h1, h2⟩
   ·exact ⟨_, hs⟩
   ·exact ⟨_, h2⟩
  obtain ⟨o1, h1⟩ := conv' j o hj
  obtain ⟨o2, h2⟩ := conv' k o' hk
  exact hr.apart j k o1 o2 g x x' hjk h1 h2
end Go.Ab
namespace Go.Mth
open Go.Ab
def gC (a b : Nat) : Prop := ((digs a).getD ((digs a).length - 1) 0) ≤ ((digs b).getD ((digs b).length - 1) 0) ∧ 0 < (digs a).length - (digs b).length
instance (a b : Nat) : Decidable (gC a b) := inferInstanceAs (Decidable ((digs a).getD ((digs a).length - 1) 0 ≤ ((digs b).getD ((digs b).length - 1) 0) ∧ 0 < (digs a).length - (digs b).length))
def gSh (a b : Nat) : Nat := if gC a b then (digs a).length - (digs b).length - 1 else (digs a).length - (digs b).length
def gTop (a b : Nat) : Nat := if gC a b then ((digs a).getD ((digs a).length - 1) 0) * 1000000000 + (digs a).getD ((digs a).length - 2) 0 else ((digs a).getD ((digs a).length - 1) 0)
def gQ (a b : Nat) : Nat := max (gTop a b / ((digs b).getD ((digs b).length - 1) 0 + 1)) 1
def guessN (a b : Nat) : Nat := 1000000000 ^ gSh a b * gQ a b
end Go.Mth

namespace Go.Proofs.YtaeknciienkijaaGreatDoor
open Go Go.Ab Go.Mth
end Go.Proofs.YtaeknciienkijaaGreatDoor

namespace Go.Proofs.YtaeknciienkijaaGreatDoor
open Go Go.Ab Go.Mth
end Go.Proofs.YtaeknciienkijaaGreatDoor

namespace Go.Proofs.YtaeknciienkijaaGreatDoor
open Go Go.Ab Go.Mth
end Go.Proofs.YtaeknciienkijaaGreatDoor

namespace Go.Mth
open Go.Ab
theorem cmpL_s1 {x y : List Int} {i : Nat} (hx : i < x.length) (hy : y.length ≤ i) : cmpL (x.drop i) (y.drop i) = 1 := by
 rw [List.drop_of_length_le hy, List.drop_eq_getElem_cons hx]; rfl
theorem cmpL_s2 {x y : List Int} {i : Nat} (hx : i < x.length) (hy : i < y.length) : cmpL (x.drop i) (y.drop i) = if cmpZ (x.getD i 0) (y.getD i 0) = 0 then cmpL (x.drop (i + 1)) (y.drop (i + 1)) else cmpZ (x.getD i 0) (y.getD i 0) := by
 rw [List.drop_eq_getElem_cons hx, List.drop_eq_getElem_cons hy, List.getD_eq_getElem?_getD, List.getD_eq_getElem?_getD, List.getElem?_eq_getElem hx, List.getElem?_eq_getElem hy]; rfl
theorem cmpL_e1 {x y : List Int} {i : Nat} (hx : x.length ≤ i) (hy : i < y.length) : cmpL (x.drop i) (y.drop i) = -1 := by
 rw [List.drop_of_length_le hx, List.drop_eq_getElem_cons hy]; rfl
theorem cmpL_e2 {x y : List Int} {i : Nat} (hx : x.length ≤ i) (hy : y.length ≤ i) : cmpL (x.drop i) (y.drop i) = 0 := by
 rw [List.drop_of_length_le hx, List.drop_of_length_le hy]; rfl
theorem rot_cut {α : Type} (w : List α) {i : Nat} (hi : i ≤ w.length) : ((w.drop i).take (w.length - i)) ++ ((w.drop 0).take (i - 0)) = rotL w i := by
 rw [List.take_of_length_le (by rw [List.length_drop]; exact Nat.le_refl _), List.drop_zero, Nat.sub_zero]; rfl
def orbL (m : MapM) (x : Int) (n : Nat) : List Int := (List.range n).map fun i => iterZ m i x
def leastI (l : List Int) : Nat → Nat
 | 0 => 0
 | i + 1 => if l.getD i default < l.getD (leastI l i) default then i else leastI l i
def rotM (l : List Int) : List Int := rotL l (leastI l l.length)
def cyc (m : MapM) (x : Int) (n : Nat) : List Int := rotM (orbL m x n)
theorem orbL_len (m : MapM) (x : Int) (n : Nat) : (orbL m x n).length = n := by unfold orbL; simp
theorem orbL_s (m : MapM) (x : Int) (n : Nat) : orbL m x n ++ [iterZ m n x] = orbL m x (n + 1) := by unfold orbL; rw [List.range_succ, List.map_append]; rfl
theorem orbL_get {m : MapM} {x : Int} {n i : Nat} (h : i < n) : (orbL m x n).getD i default = iterZ m i x := by unfold orbL; simp [List.getD_eq_getElem?_getD, h]
theorem least_lt {l : List Int} (h : 0 < l.length) : ∀ i, i ≤ l.length → leastI l i < l.length
 | 0, _ => h
 | i + 1, hi => by
  rw [leastI]
  split
  ·omega
  ·exact least_lt h i (by omega)
theorem least_y {l : List Int} {i : Nat} (h : l.getD i default < l.getD (leastI l i) default) : leastI l (i + 1) = i := if_pos h
theorem least_n {l : List Int} {i : Nat} (h : ¬ l.getD i default < l.getD (leastI l i) default) : leastI l (i + 1) = leastI l i := if_neg h
theorem least_le {l : List Int} : ∀ i j, j < i → l.getD (leastI l i) default ≤ l.getD j default
 | 0, j, h => by omega
 | i + 1, j, h => by
  have ih := fun hj => least_le (l := l) i j hj
  rw [leastI]
  split
  ·rename_i e
   rcases Nat.lt_or_ge j i with g | g
   ·have := ih g; omega
   ·rw [show j = i by omega]; exact Int.le_refl _
  ·rename_i e
   rcases Nat.lt_or_ge j i with g | g
   ·exact ih g
   ·rw [show j = i by omega]; omega
theorem iter_len {m : MapM} (hm : OkM m) (z : Int) : ∀ k, (digs (iterZ m k z).natAbs).length ≤ (digs z.natAbs).length + 4 * k
 | 0 => by show (digs z.natAbs).length ≤ _; omega
 | k + 1 => by
  have h1 := iter_len hm z k
  have h2 := step_len' hm (iterZ m k z)
  show (digs (stepZ m (iterZ m k z)).natAbs).length ≤ _
  omega
end Go.Mth

namespace Go.Ab
open Go.RowKit
def reachB : Nat → Array Oper → Nat → Nat → Bool
 | 0, _, _, _ => false
 | f + 1, ops, i, j => match ops[j]? with
  | some o => o.after.any fun e => Region.binds .any e && (Nat.beq e.on i || reachB f ops i e.on)
  | none => false
def pairsT (ops : Array Oper) : List It → Bool
 | [] => true
 | p :: r => r.all (fun q => lateB p q && (reachB 6 ops p.i q.i || indepB ops p q)) && pairsT ops r
def drawT (ops : Array Oper) (es : List Eff) : Bool := edgesB 0 ops.toList && pairsT ops (items 0 ops.toList es)
section
variable {C : Ctx} {n : Nat} {w0 : World} {ops : Array Oper} {Q : Exit → Act → World → Prop}

end
section
variable {C : Ctx} {ops : Array Oper} {s : List (Nat × AV)} {m : List (Nat × AO)} {K : List Eff → St → Prop} {os : List Oper} {d : Nat} {t : TypeId} {p : String} {af : Array Edge} {g : Option (Nat × Bool)}
end
end Go.Ab

namespace Go.Ab
open Go.RowKit
def MarksOk (H : Heap) (B : Nat) : List Deferred → Prop
 | [] => True
 | d :: ds => (∃ D, d = mark D ∧ B ≤ D ∧ H D = some (.deferred (some [])) ∧ ∀ D', mark D' ∈ ds → D' ≠ D) ∧ MarksOk H B ds
theorem MarksOk.le {H H' : Heap} {B : Nat} (hx : H.le H') : ∀ {mk : List Deferred}, MarksOk H B mk → MarksOk H' B mk
 | [], _ => trivial
 | d :: ds, ⟨⟨D, h1, h2, h3, h4⟩, h5⟩ => ⟨⟨D, h1, h2, hx _ _ h3, h4⟩, h5.le hx⟩
theorem MarksOk.known {H : Heap} {B : Nat} : ∀ {mk : List Deferred}, MarksOk H B mk → ∀ {D : Nat}, mark D ∈ mk → H D = some (.deferred (some []))
 | [], _, _, h => by cases h
 | d :: ds, ⟨⟨D, h1, h2, h3, h4⟩, h5⟩, D', h => by
  rcases List.mem_cons.1 h with e | e
  ·rw [h1] at e
   have : D' = D := by simpa [mark] using e
   rw [this]; exact h3
  ·exact h5.known e
def PostM (C : Ctx) (n : Nat) (w0 : World) (H : Heap) (Q : Exit → St → Prop) (e : Exit) (a : Act) (w : World) : Prop := ∃ mk σ' H' L', MarksOk H' w0.heap.size mk ∧ Ext w0.heap.size H H' ∧ Rep { C with marks := mk } n w0 H' L' (St.sem σ') a w ∧ Q e σ'
def awpM (C : Ctx) (n : Nat) (c : Code) (Q : Exit → St → Prop) (σ : St) : Prop :=
 ∀ mk w0 H L a w, MarksOk H w0.heap.size mk → Rep { C with marks := mk } n w0 H L σ.sem a w → c.wpIn (fen none) 0 C.P (PostM C n w0 H Q) a w
def WkM (C : Ctx) (n : Nat) (σ σ' : St) : Prop := ∀ mk, Wk { C with marks := mk } n σ σ'
section
variable {C : Ctx} {n : Nat} {Q : Exit → St → Prop} {σ : St}
theorem PostM.ext {w0 : World} {H H' : Heap} {e : Exit} {a : Act} {w : World} (hx : Ext w0.heap.size H H') (h : PostM C n w0 H' Q e a w) : PostM C n w0 H Q e a w := by
 obtain ⟨mk, σ', H2, L', h1, h2, h3⟩ := h
 exact ⟨mk, σ', H2, L', h1, hx.trans h2, h3⟩
theorem awpM_lift {c : Code} (h : ∀ mk, awp { C with marks := mk } n c Q σ) : awpM C n c Q σ := fun mk w0 H L a w hm hr => wpIn_mono (h mk w0 H L a w hr none) fun e a w ⟨σ', H', L', hx, hr', hq⟩ => ⟨mk, σ', H', L', hm.le hx.1, hx, hr', hq⟩
theorem awpM_wk {c : Code} {σ' : St} (hw : WkM C n σ σ') (h : awpM C n c Q σ') : awpM C n c Q σ := fun mk w0 H L a w hm hr => by
 obtain ⟨H', L', hx, hr'⟩ := hw mk w0 H L a w hr
 exact wpIn_mono (h mk w0 H' L' a w (hm.le hx.1) hr') fun e a w hp => hp.ext hx
theorem awpM_seq {x y : Code} (h : ∀ K : St → Prop, (∀ σ, awpM C n y Q σ → K σ) → awpM C n x (thenK K Q) σ) : awpM C n (.seq x y) Q σ := fun mk w0 H L a w hm hr => by
 refine wpIn_seq (wpIn_mono (h (fun σ => awpM C n y Q σ) (fun _ h => h) mk w0 H L a w hm hr) fun e a w hp => ?_)
 obtain ⟨mk', σ', H', L', hm', hx, hr', hq⟩ := hp
 cases e with
 | normal => exact wpIn_mono (hq mk' w0 H' L' a w hm' hr') fun e a w hp => hp.ext hx
 | _ => exact ⟨mk', σ', H', L', hm', hx, hr', hq⟩
theorem awpM_block {id : Nat} {c : Code} (h : awpM C n c (inBlk id Q) σ) : awpM C n (.block id c) Q σ := fun mk w0 H L a w hm hr => by
 refine wpIn_block (wpIn_mono (h mk w0 H L a w hm hr) fun e a w hp => ?_)
 obtain ⟨mk', σ', H', L', hm', hx, hr', hq⟩ := hp
 cases e with
 | exit i =>
  simp only [Exit.inBlock]
  simp only [inBlk] at hq
  by_cases hi : i = id
  ·subst hi
   simp at hq
   simp only [if_true]
   exact ⟨mk', σ', H', L', hm', hx, hr', hq⟩
  ·simp only [beq_ne hi, cond_false] at hq
   simp only [hi, if_false]
   exact ⟨mk', σ', H', L', hm', hx, hr', hq⟩
 | _ => exact ⟨mk', σ', H', L', hm', hx, hr', hq⟩
def LoopJ (C : Ctx) (n : Nat) (w0 : World) (H : Heap) (I : Nat → St → Prop) (k : Nat) (a : Act) (w : World) : Prop := ∃ σ' mk' H' L', I k σ' ∧ MarksOk H' w0.heap.size mk' ∧ Ext w0.heap.size H H' ∧ Rep { C with marks := mk' } n w0 H' L' (St.sem σ') a w
theorem awpM_loopR {c : Code} (I : Nat → St → Prop) (h0 : ∃ k σ', I k σ' ∧ WkM C n σ σ') (round : ∀ k σ', I k σ' → awpM C n c (thenK (fun σ2 => ∃ k' σ3, k' < k ∧ I k' σ3 ∧ WkM C n σ2 σ3) Q) σ') : awpM C n (.loop c) Q σ := fun mk w0 H L a w hm hr => by
 obtain ⟨k0, σ0, hi0, hw0⟩ := h0
 obtain ⟨H1, L1, hx1, hr1⟩ := hw0 mk w0 H L a w hr
 have hJ : LoopJ C n w0 H I k0 a w := ⟨σ0, mk, H1, L1, hi0, hm.le hx1.1, hx1, hr1⟩
 refine wpIn_loop (fun a w => ∃ k, LoopJ C n w0 H I k a w) (fun a w => leastOf (fun k => LoopJ C n w0 H I k a w)) ⟨k0, hJ⟩ ?_
 intro a w hI
 obtain ⟨σ', mk', H', L', hi, hm', hx, hr'⟩ := (leastOf_spec hI).1
 refine wpIn_mono (round _ σ' hi mk' w0 H' L' a w hm' hr') ?_
 intro e a' w' hq
 obtain ⟨mk2, σ2, H2, L2, hm2, hx2, hr2, hq⟩ := hq
 cases e with
 | normal =>
  obtain ⟨k', σ3, hlt, hi', hw'⟩ := hq
  obtain ⟨H3, L3, hx3, hr3⟩ := hw' mk2 w0 H2 L2 a' w' hr2
  have hJ' : LoopJ C n w0 H I k' a' w' := ⟨σ3, mk2, H3, L3, hi', hm2.le hx3.1, (hx.trans hx2).trans hx3, hr3⟩
  exact show (∃ k, LoopJ C n w0 H I k a' w') ∧ leastOf (fun k => LoopJ C n w0 H I k a' w') < leastOf (fun k => LoopJ C n w0 H I k a w) from ⟨⟨k', hJ'⟩, Nat.lt_of_le_of_lt ((leastOf_spec ⟨k', hJ'⟩).2 k' hJ') hlt⟩
 | _ => exact ⟨mk2, σ2, H2, L2, hm2, hx.trans hx2, hr2, hq⟩
end
theorem yldAt_of_roundR {C : Ctx} (hmk : C.marks = []) {nI n : Nat} {l D D' : Nat} {asx : List AV} {sI so : List (Nat × AV)} {m : List (Nat × AO)} {fn : FuncId} {tmps : Array Value} {ps : Array Tmp} {assign body : Code} {KN : List (Nat × AO) → Prop} {KX : Code → List (Nat × AO) → Prop}
  (hn : tmps.size = n) (hps : ∀ p ∈ ps.toList, p < n) (hl : asx.length = ps.toList.length) (hcl : hasL 9005 asx = false) (hnd : nodB (sI.map (·.1)) = true) (h3 : lookO m 9003 = some (pinA so tmps)) (h4 : lookO m 9004 = some (pinL l D')) (hfr : St.freshB ⟨sI, (9001, .blk (.loop (lrec fn tmps ps assign body D .ready none))) :: m⟩ 9005 = true)
  (hbody : ∀ us : List Value, awpRound C n assign body (.loop (lrec fn tmps ps assign body D .ready none)) (.loop (lrec fn tmps ps assign body D .busy none)) (pinL l D') (roundQ C n (.loop (lrec fn tmps ps assign body D .busy none)) (.pin (valsOf sI) us) l D' KN KX)
   ⟨parS ps.toList asx so, (9005, .pin (valsOf sI) us) :: (9001, .blk (.loop (lrec fn tmps ps assign body D .ready none))) :: m⟩) :
  YldAt C nI l asx ⟨sI, (9001, .blk (.loop (lrec fn tmps ps assign body D .ready none))) :: m⟩ fun b σ' =>
   (b = true ∧ ∃ m', σ' = ⟨sI, (9001, .blk (.loop (lrec fn tmps ps assign body D .ready none))) :: m'⟩ ∧ KN m') ∨ (b = false ∧ ∃ c m', σ' = ⟨sI, (9001, .blk (.loop (lrec fn tmps ps assign body D .done (some c)))) :: m'⟩ ∧ KX c m') := by
 intro w0 H L a w vals hr hv
 have hlv := hv.length
 have hfs := fresh_sem hfr
 have hall : sI.all (fun p => !p.2.has 9005) = true := by
  simp only [St.freshB, Bool.and_eq_true] at hfr
  exact hfr.1
 obtain ⟨hl1, hh, hB, hH⟩ := pinL_loc hr (l := l) (D := D') (by rw [mu_sem]; exact h4) (o := .loop (lrec fn tmps ps assign body D .ready none)) (by rw [mu_sem]; exact lookO_hd _ _ _)
 refine ⟨fn, _, assign, body, run_yield hh (by show vals.toArray.size = ps.size; simp; rw [hlv, hl]; simp), ?_⟩
 have hpin := hr.pinned (id := 9005) hfs (cs := valsOf sI) (us := sI.map fun p => a.tmps.getD p.1 undef) (slots_rep (t := fun i => a.tmps.getD i undef) fun p hp => by
  have := hr.slot p.1
  rw [show (St.sem ⟨sI, _⟩).ρ p.1 = look sI p.1 from rfl, nod_look hnd p hp] at this
  exact this) (valsOf_has hall)
 have hμ3 : (St.sem ⟨sI, (9001, .blk (.loop (lrec fn tmps ps assign body D .ready none))) :: m⟩).μ 9003 = some (pinA so tmps) := by
  rw [mu_sem]
  exact h3
 have hso := (hpin.objs 9003 (pinA so tmps) (by simpa using hμ3)).2
 have hpar := par_rep ps.toList asx vals so tmps (RepL.setL (y := some (.tuple #[])) hcl hv) (fun p hp => by rw [hn]; exact hps p hp) hl (slots_of (t := fun i => tmps.getD i undef) hso)
 have hzip : (Array.foldl (fun (t : Array Value) (p : Nat × Value) => t.setIfInBounds p.1 p.2) tmps (ps.zip vals.toArray)) = (ps.toList.zip vals).foldl (fun (t : Array Value) (p : Nat × Value) => t.setIfInBounds p.1 p.2) tmps := by
  rw [← Array.foldl_toList, Array.toList_zip]
 have hrd := hpin.frameS (n' := n) (a' := { tmps := (ps.toList.zip vals).foldl (fun (t : Array Value) (p : Nat × Value) => t.setIfInBounds p.1 p.2) tmps, defers := [] }) [] (by rw [foldl_size]; exact hn) rfl hpar
  (m := (9005, .pin (valsOf sI) (sI.map fun p => a.tmps.getD p.1 undef)) :: (9001, .blk (.loop (lrec fn tmps ps assign body D .ready none))) :: m) (fun i o hi => by
   show (if i = 9005 then _ else (St.sem ⟨sI, _⟩).μ i) = _
   rw [mu_sem]
   rw [lookO] at hi
   by_cases h5 : i = 9005
   ·subst h5; simpa using hi
   ·rw [beq_ne (fun e => h5 e.symm)] at hi; simpa [h5] using hi)
 rw [marks_nil hmk] at hrd
 refine roundIn_of_wpIn trivial ?_
 show assign.wpIn (fen (some l)) 0 C.P _ { tmps := (Array.foldl (fun (t : Array Value) (p : Nat × Value) => t.setIfInBounds p.1 p.2) tmps (ps.zip vals.toArray)), defers := [] } w
 rw [hzip]
 refine wpIn_mono (hbody _ w0 H _ _ w hrd (some l)) ?_
 rintro e a1 w1 ⟨σ1, H1, L1, hx1, hr1, hq⟩
 cases e with
 | normal =>
  obtain ⟨s1, m1, hwk, h41, hb⟩ := hq
  obtain ⟨H2, L2, hx2, hr2⟩ := hwk w0 H1 L1 a1 w1 hr1
  have h42 : lookO ((9001, AO.blk (.loop (lrec fn tmps ps assign body D .ready none))) :: m1) 9004 = some (pinL l D') := by exact h41
  obtain ⟨hl2, hh2, hB2, hH2⟩ := pinL_loc hr2 (by rw [mu_sem]; exact h42) (o := .loop (lrec fn tmps ps assign body D .ready none)) (by rw [mu_sem]; exact lookO_hd _ _ _)
  refine ⟨_, run_beginRound hh2 rfl, ?_⟩
  have hr3 := hr2.putRec (lookO_hd _ _ _) h42 (.loop (lrec fn tmps ps assign body D .busy none)) ((9001, .blk (.loop (lrec fn tmps ps assign body D .busy none))) :: m1) (fun i => by
   by_cases h : i = 9001
   ·subst h; simp [lookO]
   ·simp [lookO, beq_ne (fun e => h e.symm), h])
  refine wpIn_mono (hb w0 H2 L2 a1 _ hr3 (some l)) ?_
  rintro e a2 w2 ⟨σ2, H3, L3, hx3, hr4, hq⟩
  have fin : ∀ (jump : Option Code) (m' : List (Nat × AO)), Wk C n σ2 ⟨[], (9005, .pin (valsOf sI) (sI.map fun p => a.tmps.getD p.1 undef)) :: (9001, .blk (.loop (lrec fn tmps ps assign body D .busy none))) :: m'⟩ → lookO m' 9004 = some (pinL l D') → lookO m' 9005 = none →
    ∃ w4 H4 L4, (Instr.endRound l jump).run C.P w2 = .ok (.bool jump.isNone) w4 ∧ Ext w0.heap.size H H4 ∧ Rep C nI w0 H4 L4 (St.sem ⟨sI, (9001, .blk (.loop (lrec fn tmps ps assign body D (if jump.isNone then .ready else .done) jump))) :: m'⟩) a w4 := by
   intro jump m' hwk2 h43 h45
   obtain ⟨H4, L4, hx4, hr5⟩ := hwk2 w0 H3 L3 a2 w2 hr4
   have h44 : lookO ((9005, AO.pin (valsOf sI) (sI.map fun p => a.tmps.getD p.1 undef)) :: (9001, .blk (.loop (lrec fn tmps ps assign body D .busy none))) :: m') 9004 = some (pinL l D') := by exact h43
   obtain ⟨hl5, hh5, hB5, hH5⟩ := pinL_loc hr5 (by rw [mu_sem]; exact h44) (o := .loop (lrec fn tmps ps assign body D .busy none)) (by rw [mu_sem]; rfl)
   have hback := (hr5.objs 9005 (.pin (valsOf sI) (sI.map fun p => a.tmps.getD p.1 undef)) (by rw [mu_sem]; exact lookO_hd _ _ _)).2
   have hr6 := hr5.frameS (n' := nI) (a' := a) C.marks hr.size hr.defers (slots_of (t := fun i => a.tmps.getD i undef) hback) (m := (9001, .blk (.loop (lrec fn tmps ps assign body D .busy none))) :: m') (fun i o hi => by
    rw [mu_sem]
    by_cases h5 : i = 9005
    ·subst h5
     have hdup : lookO m' 9005 = some o := hi
     rw [h45] at hdup
     cases hdup
    ·rw [lookO, beq_ne (fun e => h5 e.symm)]; exact hi)
   have hr7 := Rep.putRec (C := C) hr6 (lookO_hd _ _ _) (l := l) (D := D') (by exact h43) (.loop (lrec fn tmps ps assign body D (if jump.isNone then .ready else .done) jump)) ((9001, .blk (.loop (lrec fn tmps ps assign body D (if jump.isNone then .ready else .done) jump))) :: m') (fun i => by
    by_cases h : i = 9001
    ·subst h; simp [lookO]
    ·simp [lookO, beq_ne (fun e => h e.symm), h])
   exact ⟨_, H4, L4, run_endRound jump hh5, (((hx1.trans hx2).trans hx3).trans hx4), hr7⟩
  cases e with
  | normal =>
   obtain ⟨m', hwk2, h43, h45, hK⟩ := hq
   obtain ⟨w4, H4, L4, hrun, hx4, hr7⟩ := fin none m' hwk2 h43 h45
   exact ⟨_, w4, hrun, true, _, H4, L4, rfl, hx4, hr7, .inl ⟨rfl, m', rfl, hK⟩⟩
  | ret =>
   obtain ⟨m', hwk2, h43, h45, hK⟩ := hq
   obtain ⟨w4, H4, L4, hrun, hx4, hr7⟩ := fin (some .ret) m' hwk2 h43 h45
   exact ⟨_, w4, hrun, false, _, H4, L4, rfl, hx4, hr7, .inr ⟨rfl, .ret, m', rfl, hK⟩⟩
  | exit id =>
   obtain ⟨m', hwk2, h43, h45, hK⟩ := hq
   obtain ⟨w4, H4, L4, hrun, hx4, hr7⟩ := fin (some (.exit id)) m' hwk2 h43 h45
   exact ⟨_, w4, hrun, false, _, H4, L4, rfl, hx4, hr7, .inr ⟨rfl, .exit id, m', rfl, hK⟩⟩
  | goto t => exact hq.elim
  | panic c => exact hq.elim
  | outgrown => exact hq.elim
 | exit id => exact hq.elim
 | goto t => exact hq.elim
 | ret => exact hq.elim
 | panic c => exact hq.elim
 | outgrown => exact hq.elim


theorem awpRound_eq {C : Ctx} {n : Nat} {a a' b b' : Code} {o o' : Obj} {pl : AO} {Q : Exit → St → Prop} {σ : St} (ha : a' = a) (hb : b' = b) (h : awpRound C n a b o o' pl Q σ) : awpRound C n a' b' o o' pl Q σ := by subst ha; subst hb; exact h
theorem yldAt_of_roundG {C : Ctx} (hmk : C.marks = []) {ps0 : Array Tmp} {assign0 body0 : Code} {ps : Array Tmp} {assign body : Code} (e1 : ps = ps0) (e2 : assign = assign0) (e3 : body = body0) {nI n : Nat} {l D D' : Nat} {asx : List AV} {sI so : List (Nat × AV)} {m : List (Nat × AO)} {fn : FuncId} {tmps : Array Value} {KN : List (Nat × AO) → Prop} {KX : Code → List (Nat × AO) → Prop}
  (hn : tmps.size = n) (hps : ∀ p ∈ ps0.toList, p < n) (hl : asx.length = ps0.toList.length) (hcl : hasL 9005 asx = false) (hnd : nodB (sI.map (·.1)) = true) (h3 : lookO m 9003 = some (pinA so tmps)) (h4 : lookO m 9004 = some (pinL l D')) (hfr : St.freshB ⟨sI, (9001, .blk (.loop (lrec fn tmps ps assign body D .ready none))) :: m⟩ 9005 = true)
  (hbody : ∀ us : List Value, awpRound C n assign0 body0 (.loop (lrec fn tmps ps assign body D .ready none)) (.loop (lrec fn tmps ps assign body D .busy none)) (pinL l D') (roundQ C n (.loop (lrec fn tmps ps assign body D .busy none)) (.pin (valsOf sI) us) l D' KN KX)
   ⟨parS ps0.toList asx so, (9005, .pin (valsOf sI) us) :: (9001, .blk (.loop (lrec fn tmps ps assign body D .ready none))) :: m⟩) :
  YldAt C nI l asx ⟨sI, (9001, .blk (.loop (lrec fn tmps ps assign body D .ready none))) :: m⟩ fun b σ' =>
   (b = true ∧ ∃ m', σ' = ⟨sI, (9001, .blk (.loop (lrec fn tmps ps assign body D .ready none))) :: m'⟩ ∧ KN m') ∨ (b = false ∧ ∃ c m', σ' = ⟨sI, (9001, .blk (.loop (lrec fn tmps ps assign body D .done (some c)))) :: m'⟩ ∧ KX c m') :=
 yldAt_of_roundR hmk hn (by rw [e1]; exact hps) (by rw [e1]; exact hl) hcl hnd h3 h4 hfr fun us => by
  rw [congrArg Array.toList e1]
  exact awpRound_eq e2 e3 (hbody us)
theorem awp_regionYK {C : Ctx} {n : Nat} {Q : Exit → St → Prop} {σ : St} {id : Nat} {ops : Array Oper} (k d : Nat) (y : Operand) (args : Array Operand) (tys : Array TypeId) (t : TypeId) (p : String) (af : Array Edge) (l : Nat) (asx : List AV)
  (hk : ops.toList[k]? = some ⟨some d, .call { callee := .value y, args := args, argTypes := tys }, t, p, af, none⟩) (hd : dstsB n ops.toList = true)
  (h : aops C ops σ (ops.toList.take k) fun _ σ' => ∃ σ1, Wk C n σ' σ1 ∧ σ1.ev y = .lit (.func (.yield l) #[] #[]) ∧ args.toList.map σ1.sem.ev = asx ∧ YldAt C n l asx σ1 fun b σ2 => aops C ops ⟨(d, .lit (.bool b)) :: σ2.slots, σ2.objs⟩ (ops.toList.drop (k + 1)) fun _ σ3 => Q .normal σ3) :
  awp C n (.region id ops false) Q σ := fun w0 H L a w hr r => by
 obtain ⟨es, σ', ht, σ1, hwk, hy, has, hY⟩ := h
 obtain ⟨hl, hx⟩ := List.getElem?_eq_some_iff.1 hk
 have hdst := dsts_spec hd
 refine wpIn_region ?_
 rw [List.range_eq_range']
 have htl : (ops.toList.take k).length = k := by rw [List.length_take]; omega
 have hsz : ops.size = (ops.toList.take k).length + ((ops.toList.drop (k + 1)).length + 1) := by rw [htl, List.length_drop]; have : ops.toList.length = ops.size := Array.length_toList; omega
 rw [hsz, ← List.range'_append_1, List.range'_succ]
 refine lex_prefix (C := C) (n := n) (w0 := w0) r _ (ops.toList.take k) 0 σ.sem σ'.sem es H L a w (by rw [List.drop_zero, htl]) ht hr (fun o ho => hdst o (List.mem_of_mem_take ho)) fun a' w' Hq Lq hxq hrq => ?_
 obtain ⟨H', L', hxw, hr'⟩ := hwk w0 Hq Lq a' w' hrq
 have hx := hxq.trans hxw
 simp only [Nat.zero_add]
 rw [wpOpsIn_cons, htl]
 have hi : ops[k]? = some ⟨some d, .call { callee := .value y, args := args, argTypes := tys }, t, p, af, none⟩ := by
  rw [← Array.getElem?_toList]; exact hk
 unfold wpOpIn
 simp only [hi]
 rw [if_pos (by simp [Region.wanted])]
 have hyv := hr'.ev y
 rw [ev_sem, hy] at hyv
 simp only [RepV] at hyv
 have hargs : ∀ (xs : List Operand), RepL H' (xs.map σ1.sem.ev) L' (xs.map a'.eval) := by
  intro xs
  induction xs with
  | nil => simp only [List.map_nil, RepL]
  | cons x xs ih => simp only [List.map_cons, RepL]; exact ⟨_, _, rfl, hr'.ev x, ih⟩
 have hal := hargs args.toList
 rw [has] at hal
 obtain ⟨fn, tmps, assign, body, hrun, hround⟩ := hY w0 H' L' a' w' _ hr' hal
 have e1 : (List.map a'.eval args.toList).toArray = args.map a'.eval := by apply Array.ext'; rw [Array.toList_map]
 rw [e1] at hrun
 have hex : (execOp a'.eval ⟨some d, .call { callee := .value y, args := args, argTypes := tys }, t, p, af, none⟩).run C.P w' = .ok (.round l fn tmps assign body) w' := by
  unfold execOp
  simp only [resolve, hyv, Deferred.ofValue, invoke, Sem.run_bind, Sem.run_pure, Result.andThen_ok, Array.empty_append, Array.append_empty, hrun]
 refine ⟨fun _ _ => trivial, ?_⟩
 rw [semAt_of hex (fun d hd => by cases hd)]
 refine ⟨fen_depth, RoundIn.mono (F := fen r) hround ?_⟩
 rintro e w2 ⟨b, σ2, H2, L2, rfl, hx2, hr2, hq⟩
 obtain ⟨es2, σ3, ht2, hQ⟩ := hq
 have hdn : d < n := hdst ⟨some d, .call { callee := .value y, args := args, argTypes := tys }, t, p, af, none⟩ (List.mem_of_getElem? hk) d rfl
 have hv := hr2.val (dst := some d) (fun d' hd' => by cases hd'; exact hdn) (x := .lit (.bool b)) (v := .bool b) (by simp [RepV]) [] []
 rw [← sem_app] at hv
 exact lex_sound r (ops.toList.drop (k + 1)) (k + 1) _ _ es2 H2 L2 _ w2 rfl ht2 hv (fun o ho => hdst o (List.mem_of_mem_drop ho)) fun a3 w3 H3 L3 hx3 hr3 => ⟨σ3, H3, L3, (hx.trans hx2).trans hx3, hr3, hQ⟩
theorem Rep.frzBlk {C : Ctx} {n : Nat} {w0 : World} {H : Heap} {L : Loc} {S : SS} {a : Act} {w : World} (hr : Rep C n w0 H L S a w) {id : Nat} {o : Obj} (h : S.μ id = some (.blk o)) {g : Nat} (hl : L id = some (.pointer (some ⟨g, 0, none⟩))) :
  ∃ H', Ext w0.heap.size H H' ∧ H' g = some o ∧ w0.heap.size ≤ g ∧ Rep C n w0 H' L ⟨S.ρ, fun i => if i = id then none else S.μ i⟩ a w := by
 obtain ⟨g', a1, a2, a3, a4⟩ := hr.objs id _ h
 rw [hl] at a1
 cases a1
 have hle : H.le (fun b => if b = g then some o else H b) := fun b ob hb => by
  have : b ≠ g := fun e => by subst e; rw [a4] at hb; cases hb
  simp [this, hb]
 have hheap : ∀ b ob, (if b = g then some o else H b) = some ob → w.heap[b]? = some ob := fun b ob hb => by
  by_cases hbg : b = g
  ·subst hbg; simp at hb; subst hb; exact a2
  ·simp [hbg] at hb; exact hr.heap b ob hb
 refine ⟨fun b => if b = g then some o else H b, ⟨hle, fun b hb => ?_⟩, by simp, a3, hr.hide h hl hle hheap fun g' hg' => ?_⟩
 ·have : b ≠ g := fun e => by omega
  simp [this]
 ·have : g' ≠ g := fun e => hg' (by rw [e]; rfl)
  simp [this]
theorem awpM_range {C : Ctx} (hmk : C.marks = []) {n : Nat} {Q : Exit → St → Prop} {σ : St} {g : Operand} {ps : Array Tmp} {assign body : Code} {gf : FuncId} {caps : List AV} {fnI : Func} {cI : Code} {so : List (Nat × AV)}
  (hs : subS σ so) (hf : C.P.funcs[gf]? = some fnI) (hb : fnI.body = some cI) (hcall : callable C.P gf = true) (hnI : caps.length + 1 ≤ fnI.ntmps) (hres : fnI.results = #[]) (hg : σ.ev g = .clo gf caps) (hnd : nodB (so.map (·.1)) = true)
  (hfr : (σ.freshB 9001 && σ.freshB 9002 && σ.freshB 9003 && σ.freshB 9004) = true) (hso : so.all (fun p => !p.2.has 9003 && !p.2.has 9004) = true)
  (X : (fn : FuncId) → (tmps : Array Value) → (D l : Nat) → Option Code → List (Nat × AO) → Prop)
  (hit : ∀ (fn : FuncId) (tmps : Array Value) (D l : Nat), tmps.size = n → awp C fnI.ntmps cI (fun e σ2 => (e = .normal ∨ e = .ret) ∧ ∃ st pe m', st ≠ LoopState.busy ∧ X fn tmps D l pe m' ∧ lookO m' 9001 = none ∧ lookO m' 9003 = none ∧ lookO m' 9002 = none ∧ lookO m' 9004 = none ∧
    Wk C fnI.ntmps σ2 ⟨[], (9001, .blk (.loop (lrec fn tmps ps assign body D st pe))) :: (9002, .blk (.deferred (some []))) :: (9003, pinA so tmps) :: (9004, pinL l D) :: m'⟩)
   ⟨ent 0 (.lit (.func (.yield l) #[] #[]) :: caps), (9004, pinL l D) :: (9003, pinA so tmps) :: (9001, .blk (.loop (lrec fn tmps ps assign body D .ready none))) :: (9002, .blk (.deferred (some []))) :: σ.objs⟩)
  (hQ : ∀ (fn : FuncId) (tmps : Array Value) (D l : Nat) pe m', X fn tmps D l pe m' → jumpQ Q ⟨so, m'⟩ pe) : awpM C n (.rangeFunc g ps assign body) Q σ := by
 intro mk w0 H L a w hm hr
 have hdef : a.defers = mk := hr.defers
 simp only [Bool.and_eq_true] at hfr
 obtain ⟨⟨⟨f1, f2⟩, f3⟩, f4⟩ := hfr
 obtain ⟨s, m⟩ := σ
 have hgv := hr.ev g
 rw [ev_sem, hg] at hgv
 simp only [RepV] at hgv
 obtain ⟨vs, hgv, hcaps⟩ := hgv
 have hc1 : hasL 9001 caps = false := clo_has g (fresh_sem f1) hg
 have hc2 : hasL 9002 caps = false := clo_has g (fresh_sem f2) hg
 have hc3 : hasL 9003 caps = false := clo_has g (fresh_sem f3) hg
 have hc4 : hasL 9004 caps = false := clo_has g (fresh_sem f4) hg
 have hcaps4 := RepL.setL (y := some (.tuple #[])) hc4 (RepL.setL (y := some (.tuple #[])) hc3 (RepL.setL (y := some (.pointer (some ⟨w.heap.size + 1, 0, none⟩))) hc1 (RepL.setL (y := some (.pointer (some ⟨w.heap.size, 0, none⟩))) hc2 hcaps)))
 refine wpIn_rangeFunc ?_
 intro fn hfn
 show ∃ l mark w₁ d w₁' f args w₂, (Instr.enterLoop fn a.tmps ps assign body none).run C.P w = _ ∧ _
 -- the two blocks, and the ghosts
 have r1 := hr.blkS f2 (.deferred (some []))
 have r2 := r1.blkS (freshB_cons f1 rfl rfl) (.loop (lrec fn a.tmps ps assign body w.heap.size .ready none))
 rw [World.size_alloc] at r2
 have hslot2 : ∀ p ∈ so, RepV H p.2 ((L.set 9002 (some (.pointer (some ⟨w.heap.size, 0, none⟩)))).set 9001 (some (.pointer (some ⟨w.heap.size + 1, 0, none⟩)))) (a.tmps.getD p.1 undef) := fun p hp => by
  have h1 := r2.slot p.1
  rw [show (St.sem ⟨s, _⟩).ρ p.1 = look s p.1 from rfl] at h1
  rw [show look s p.1 = p.2 from subS_mem hs hp] at h1
  exact h1
 have hno3 : so.all (fun p => !p.2.has 9003) = true := List.all_eq_true.2 fun p hp => by
  have := List.all_eq_true.1 hso p hp
  simp only [Bool.and_eq_true] at this
  exact this.1
 have hno4 : so.all (fun p => !p.2.has 9004) = true := List.all_eq_true.2 fun p hp => by
  have := List.all_eq_true.1 hso p hp
  simp only [Bool.and_eq_true] at this
  exact this.2
 have r3 := r2.pinS (id := 9003) (freshB_cons (freshB_cons f3 rfl rfl) rfl rfl) (slots_rep (t := fun i => a.tmps.getD i undef) hslot2) (valsOf_has hno3)
 have r4 := r3.pinS (id := 9004) (cs := [.ref 9001 0, .ref 9002 0]) (us := [.pointer (some ⟨w.heap.size + 1, 0, none⟩), .pointer (some ⟨w.heap.size, 0, none⟩)])
  (freshB_cons (freshB_cons (freshB_cons f4 rfl rfl) rfl rfl) rfl (valsOf_has hno4)) (by simp [RepL, RepV, Loc.set, ownB]) rfl
 obtain ⟨W1, hW1⟩ : ∃ W1, W1 = (w.alloc (.deferred (some []))).alloc (.loop (lrec fn a.tmps ps assign body w.heap.size .ready none)) := ⟨_, rfl⟩
 rw [← hW1] at r4
 refine ⟨w.heap.size + 1, [mark w.heap.size], W1, { target := .fn (.func gf) vs.toArray, args := #[.func (.yield (w.heap.size + 1)) #[] #[]] }, W1, gf, #[.func (.yield (w.heap.size + 1)) #[] #[]] ++ vs.toArray, W1, ?_, ?_, ?_, ?_, fen_depth, ?_⟩
 ·rw [hW1]
  exact run_enterLoop_outer fn a.tmps ps assign body
 ·simp only [resolve, hgv]
  simp [go_sem]
 ·intro f' hf'
  trivial
 ·simp only [invoke]
  exact run_callFunc hcall _ _
 ·-- the iterator
  have hcl := RepL.cons (x := .lit (.func (.yield (w.heap.size + 1)) #[] #[])) (v := .func (.yield (w.heap.size + 1)) #[] #[]) (by simp [RepV]) hcaps4
  obtain ⟨e1, e2⟩ := entry_rep (C := C) (n := fnI.ntmps) (w0 := w) (by simpa using hnI) hcl
  have ea : (Value.func (.yield (w.heap.size + 1)) #[] #[] :: vs).toArray = #[.func (.yield (w.heap.size + 1)) #[] #[]] ++ vs.toArray := by simp
  rw [ea] at e1 e2
  refine callsIn_of_wp hf hb trivial ?_
  have r5 := r4.frameS (n' := fnI.ntmps) (a' := { tmps := #[.func (.yield (w.heap.size + 1)) #[] #[]] ++ vs.toArray ++ Array.replicate (fnI.ntmps - (#[Value.func (.yield (w.heap.size + 1)) #[] #[]] ++ vs.toArray).size) undef, defers := [] }) [] e1 rfl e2 (fun i o h => h)
  have r5 := (show Rep { C with marks := [] } _ _ _ _ _ _ _ from r5)
  rw [marks_nil hmk] at r5
  refine wpIn_mono (hit fn a.tmps w.heap.size (w.heap.size + 1) hr.size w0 H _ _ W1 r5 none) ?_
  rintro e a2 w2 ⟨σ2, H2, L2, hx2, hr2, he, st, pe, m', hst, hX, hn1, hn3, hn2, hn4, hwk⟩
  obtain ⟨H3, L3, hx3, hr3⟩ := hwk w0 H2 L2 a2 w2 hr2
  have hback := (hr3.objs 9003 (pinA so a.tmps) rfl).2
  obtain ⟨hl1, hh1, hB1, hH1⟩ := pinL_loc hr3 (l := w.heap.size + 1) (D := w.heap.size) rfl (o := .loop (lrec fn a.tmps ps assign body w.heap.size st pe)) rfl
  have r6 := Rep.putRec hr3 rfl (l := w.heap.size + 1) (D := w.heap.size) rfl (.loop (lrec fn a.tmps ps assign body w.heap.size .exhausted pe)) ((9001, .blk (.loop (lrec fn a.tmps ps assign body w.heap.size .exhausted pe))) :: (9002, .blk (.deferred (some []))) :: (9003, pinA so a.tmps) :: (9004, pinL (w.heap.size + 1) w.heap.size) :: m') (fun i => by
   by_cases h : i = 9001
   ·subst h; rfl
   ·simp [lookO, beq_ne (fun e => h e.symm), h])
  obtain ⟨_, hp4⟩ := r6.objs 9004 (pinL (w.heap.size + 1) w.heap.size) rfl
  simp only [RepL] at hp4
  obtain ⟨v1, q1, e41, _, v2, q2, e42, hv2, _⟩ := hp4
  subst e42
  cases e41
  simp only [RepV] at hv2
  obtain ⟨x9, g9, k91, k92, k93⟩ := hv2
  obtain ⟨g9', b91, b92, b93, b94⟩ := r6.objs 9002 (.blk (.deferred (some []))) rfl
  rw [k91] at b91
  cases b91
  simp [ownB] at k92 k93
  subst k92
  subst k93
  obtain ⟨H5, hx5, hD5, hB5, r65⟩ := r6.frzBlk (id := 9002) (o := .deferred (some [])) rfl k91
  have r7 := r65.frameS (n' := n) (a' := { tmps := a.tmps, defers := mark w.heap.size :: mk }) (mark w.heap.size :: mk) hr.size rfl (slots_of (t := fun i => a.tmps.getD i undef) (RepL.mono hx5.1 (Loc.le_refl _) hback)) (m := m') (fun i o hi => by
   have n1 : i ≠ 9001 := fun e => by rw [e, hn1] at hi; cases hi
   have n2 : i ≠ 9002 := fun e => by rw [e, hn2] at hi; cases hi
   have n3 : i ≠ 9003 := fun e => by rw [e, hn3] at hi; cases hi
   have n4 : i ≠ 9004 := fun e => by rw [e, hn4] at hi; cases hi
   show (if i = 9002 then none else _) = _
   rw [if_neg n2, mu_sem, lookO, beq_ne (fun e => n1 e.symm), cond_false, lookO, beq_ne (fun e => n2 e.symm), cond_false, lookO, beq_ne (fun e => n3 e.symm), cond_false, lookO, beq_ne (fun e => n4 e.symm), cond_false]
   exact hi)
  have hm7 : MarksOk H5 w0.heap.size (mark w.heap.size :: mk) := ⟨⟨w.heap.size, rfl, hB5, hD5, fun D' hD' e => by
   have hk := hr.heap _ _ (hm.known hD')
   rw [e] at hk
   have := (Array.getElem?_eq_some_iff.1 hk).1
   omega⟩, hm.le ((hx2.trans hx3).trans hx5).1⟩
  have hend := run_endLoop (P := C.P) hh1 (by simpa [lrec] using hst)
  have hJ := hQ fn a.tmps w.heap.size (w.heap.size + 1) pe m' hX
  have fin : rangePost (fen none) 0 C.P (w.heap.size + 1) (PostM C n w0 H Q) { a with defers := [mark w.heap.size] ++ a.defers } (.returned (.tuple #[])) w2 := by
   refine ⟨pe, _, hend, ?_⟩
   rw [hdef]
   have hx : Ext w0.heap.size H H5 := (hx2.trans hx3).trans hx5
   cases pe with
   | none => exact ⟨mark w.heap.size :: mk, _, H5, _, hm7, hx, r7, hJ⟩
   | some c =>
    cases c with
    | ret => exact wpIn_ret ⟨mark w.heap.size :: mk, _, H5, _, hm7, hx, r7, hJ⟩
    | exit id => exact wpIn_exit ⟨mark w.heap.size :: mk, _, H5, _, hm7, hx, r7, hJ⟩
    | _ => exact hJ.elim
  have hres0 : (results fnI a2.tmps).run C.P w2 = .ok (.tuple #[]) w2 := by
   have hm : (fnI.results.mapM (resOne a2.tmps)).run C.P w2 = .ok #[] w2 := by
    rw [hres, Array.mapM_eq_mapM_toList]
    simp
   show (do let vs ← fnI.results.mapM (resOne a2.tmps); pure (if h : vs.size = 1 then vs[0] else .tuple vs) : Sem Value).run C.P w2 = _
   simp only [Sem.run_bind, hm, Result.andThen_ok, Sem.run_pure]
   rfl
  rcases he with rfl | rfl
  ·exact ⟨hr2.defers.trans hmk, _, hres0, fin⟩
  ·exact ⟨hr2.defers.trans hmk, _, hres0, fin⟩


theorem awpM_rangeG {C : Ctx} (hmk : C.marks = []) {n : Nat} {Q : Exit → St → Prop} {σ : St} {g : Operand} {ps : Array Tmp} {assign body : Code} {gf : FuncId} {caps : List AV} {fnI : Func} {cI : Code} {so : List (Nat × AV)}
  (hs : subS σ so) (hf : C.P.funcs[gf]? = some fnI) (hb : fnI.body = some cI) (hcall : callable C.P gf = true) (hnI : caps.length + 1 ≤ fnI.ntmps) (hres : fnI.results = #[]) (hg : σ.ev g = .clo gf caps) (hnd : nodB (so.map (·.1)) = true)
  (hfr : (σ.freshB 9001 && σ.freshB 9002 && σ.freshB 9003 && σ.freshB 9004) = true) (hso : so.all (fun p => !p.2.has 9003 && !p.2.has 9004) = true)
  (X : (fn : FuncId) → (tmps : Array Value) → (D l : Nat) → Option Code → List (Nat × AO) → Prop)
  (hit : ∀ (ps' : Array Tmp) (as' bo' : Code), ps' = ps → as' = assign → bo' = body → ∀ (fn : FuncId) (tmps : Array Value) (D l : Nat), tmps.size = n → awp C fnI.ntmps cI (fun e σ2 => (e = .normal ∨ e = .ret) ∧ ∃ st pe m', st ≠ LoopState.busy ∧ X fn tmps D l pe m' ∧ lookO m' 9001 = none ∧ lookO m' 9003 = none ∧ lookO m' 9002 = none ∧ lookO m' 9004 = none ∧
    Wk C fnI.ntmps σ2 ⟨[], (9001, .blk (.loop (lrec fn tmps ps' as' bo' D st pe))) :: (9002, .blk (.deferred (some []))) :: (9003, pinA so tmps) :: (9004, pinL l D) :: m'⟩)
   ⟨ent 0 (.lit (.func (.yield l) #[] #[]) :: caps), (9004, pinL l D) :: (9003, pinA so tmps) :: (9001, .blk (.loop (lrec fn tmps ps' as' bo' D .ready none))) :: (9002, .blk (.deferred (some []))) :: σ.objs⟩)
  (hQ : ∀ (fn : FuncId) (tmps : Array Value) (D l : Nat) pe m', X fn tmps D l pe m' → jumpQ Q ⟨so, m'⟩ pe) : awpM C n (.rangeFunc g ps assign body) Q σ :=
 awpM_range hmk hs hf hb hcall hnI hres hg hnd hfr hso X (hit ps assign body rfl rfl rfl) hQ
mutual
/-- What is told of a value speaks of blocks of cells alone. -/
theorem RepV.cells {H H' : Heap} (hH : ∀ b o t fr, H b = some (.cells o t fr) → H' b = some (.cells o t fr)) : ∀ {x : AV} {L : Loc} {v : Value}, RepV H x L v → RepV H' x L v
 | .any, _, _, _ => by simp [RepV]
 | .lit _, _, _, h => by simpa [RepV] using h
 | .sl sz cs, _, _, h => by
  simp only [RepV] at h ⊢
  obtain ⟨A, n, cap, rfl, h1, h2, h3, h4, h4', h5⟩ := h
  refine ⟨A, n, cap, rfl, h1, h2, h3, h4, h4', fun hn => ?_⟩
  obtain ⟨b, off, o, t, fr, vs, e, hb, hc, hr, h1c⟩ := h5 hn
  exact ⟨b, off, o, t, fr, vs, e, hH _ _ _ _ hb, hc, RepL.cells hH hr, h1c⟩
 | .slc sz cs cap, _, _, h => by
  simp only [RepV] at h ⊢
  obtain ⟨A, n, rfl, h1, h2, h3, h4, h4', h5⟩ := h
  refine ⟨A, n, rfl, h1, h2, h3, h4, h4', fun hn => ?_⟩
  obtain ⟨b, off, o, t, fr, vs, e, hb, hc, hr, h1c⟩ := h5 hn
  exact ⟨b, off, o, t, fr, vs, e, hH _ _ _ _ hb, hc, RepL.cells hH hr, h1c⟩
 | .agg fs, _, _, h => by
  simp only [RepV] at h ⊢
  obtain ⟨vs, rfl, hr, h1⟩ := h
  exact ⟨vs, rfl, RepL.cells hH hr, h1⟩
 | .tup fs, _, _, h => by
  simp only [RepV] at h ⊢
  obtain ⟨vs, rfl, hr⟩ := h
  exact ⟨vs, rfl, RepL.cells hH hr⟩
 | .ref id off, _, _, h => by simpa [RepV] using h
 | .row id, _, _, h => by simpa [RepV] using h
 | .vw id off sz n, _, _, h => by simpa [RepV] using h
 | .ip cs, _, _, h => by
  simp only [RepV] at h ⊢
  obtain ⟨b, off, o, t, fr, vs, e, hb, hc, hr, h1c⟩ := h
  exact ⟨b, off, o, t, fr, vs, e, hH _ _ _ _ hb, hc, RepL.cells hH hr, h1c⟩
 | .clo f cs, _, _, h => by
  simp only [RepV] at h ⊢
  obtain ⟨vs, rfl, hr⟩ := h
  exact ⟨vs, rfl, RepL.cells hH hr⟩
theorem RepL.cells {H H' : Heap} (hH : ∀ b o t fr, H b = some (.cells o t fr) → H' b = some (.cells o t fr)) : ∀ {xs : List AV} {L : Loc} {vs : List Value}, RepL H xs L vs → RepL H' xs L vs
 | [], _, _, h => by simpa [RepL] using h
 | x :: xs, _, _, h => by
  simp only [RepL] at h ⊢
  obtain ⟨v, r, rfl, h1, h2⟩ := h
  exact ⟨v, r, rfl, RepV.cells hH h1, RepL.cells hH h2⟩
end
theorem Rep.take {C : Ctx} (hG : ∀ H, C.G H) {n : Nat} {w0 : World} {H : Heap} {L : Loc} {S : SS} {a : Act} {w : World} (hr : Rep C n w0 H L S a w) {D : Nat} {ds : Option (List Deferred)} (h : H D = some (.deferred ds)) (hB : w0.heap.size ≤ D) (o : Obj) :
  Rep C n w0 (fun b => if b = D then none else H b) L S a (w.putObj D o) := by
 have hc : ∀ b o t fr, H b = some (.cells o t fr) → (if b = D then none else H b) = some (.cells o t fr) := fun b o t fr hb => by
  have : b ≠ D := fun e => by rw [e, h] at hb; cases hb
  simp [this, hb]
 have hne : ∀ {g : Nat}, H g = none → g ≠ D := fun hg e => by rw [e, h] at hg; cases hg
 refine ⟨hG _, fun b o' hb => ?_, hr.size, fun i => RepV.cells hc (hr.slot i), fun id ob ho => ?_, hr.apart, hr.below.trans ⟨rfl, rfl, rfl, by simp, fun k hk => World.putObj_heap_other (by omega), Nat.le_refl _⟩, hr.defers⟩
 ·by_cases hbD : b = D
  ·simp [hbD] at hb
  ·simp [hbD] at hb
   rw [World.putObj_heap_other hbD]
   exact hr.heap b o' hb
 ·have h0 := hr.objs id ob ho
  cases ob with
  | var t cs =>
   obtain ⟨g, vs, a1, a2, a3, a4, a5, a6⟩ := h0
   exact ⟨g, vs, a1, by rw [World.putObj_heap_other (hne a6)]; exact a2, RepL.cells hc a3, a4, a5, by simp [a6]⟩
  | row e sz cs =>
   obtain ⟨v, vs, m, a1, a2, a3, a4, a5, a6, a7, a8⟩ := h0
   refine ⟨v, vs, m, a1, a2, ⟨a3.1, a3.2.imp (fun x => x) fun ⟨g, cap, cur, r1, r2, r3, r4⟩ => ⟨g, cap, cur, r1, r2, ?_, r4⟩⟩, RepL.cells hc a4, a5, a6, a7, fun g hg => by simp [a8 g hg]⟩
   rw [World.putObj_heap_other (hne (a8 g (by rw [r1]; rfl)))]; exact r3
  | blk o2 =>
   obtain ⟨g, a1, a2, a3, a4⟩ := h0
   exact ⟨g, a1, by rw [World.putObj_heap_other (hne a4)]; exact a2, a3, by simp [a4]⟩
  | pin cs us => exact ⟨h0.1, RepL.cells hc h0.2⟩
theorem leaves_marks {C : Ctx} (hG : ∀ H, C.G H) {n : Nat} {w0 : World} {L : Loc} {S : SS} {a : Act} {P : Program} {fn : Func} {tmps : Array Value} {R : Ending → World → Prop} {u : FrameMode} (hu : u ≠ .run) : ∀ (mk : List Deferred) (H : Heap) (w : World), MarksOk H w0.heap.size mk → Rep C n w0 H L S a w →
  (∀ (H' : Heap) (w' : World), (∀ b, b < w0.heap.size → H' b = H b) → Rep C n w0 H' L S a w' → LeavesIn (fen none) 0 P fn tmps R [] u w') → LeavesInM (fen none) 0 P fn tmps R mk u w
 | [], H, w, _, hr, k => k H w (fun _ _ => rfl) hr
 | d :: ds, H, w, ⟨⟨D, h1, h2, h3, h4⟩, h5⟩, hr, k => by
  refine ⟨hu, .inl ⟨D, w.putObj D (.deferred none), by rw [h1]; rfl, run_takeDeferred (hr.heap _ _ h3), ?_⟩⟩
  have hm : ∀ {ds : List Deferred}, (∀ D', mark D' ∈ ds → D' ≠ D) → MarksOk H w0.heap.size ds → MarksOk (fun b => if b = D then none else H b) w0.heap.size ds := by
   intro ds
   induction ds with
   | nil => intro _ _; trivial
   | cons e es ih =>
    rintro hne ⟨⟨E, g1, g2, g3, g4⟩, g5⟩
    refine ⟨⟨E, g1, g2, ?_, g4⟩, ih (fun D' hD' => hne D' (by simp [hD'])) g5⟩
    have : E ≠ D := hne E (by rw [g1]; simp)
    simp [this, g3]
  refine leaves_marks hG hu ds (fun b => if b = D then none else H b) (w.putObj D (.deferred none)) (hm h4 h5) (hr.take hG h3 h2 _) fun H' w' a1 a2 => k H' w' (fun b hb => ?_) a2
  rw [a1 b hb]
  have : b ≠ D := fun e => by omega
  simp [this]
theorem resOk_any {C : Ctx} {mk : List Deferred} {σ : St} : ∀ (rs : List ResultVar) (vs : List AV), ResOk C σ rs vs → ResOk { C with G := fun _ => True, mono := fun _ _ _ _ => trivial, marks := mk } σ rs vs := by
 intro rs
 induction rs with
 | nil => intro vs h; cases vs <;> exact h
 | cons r rs ih =>
  intro vs h
  cases vs with
  | nil => cases r <;> exact h.elim
  | cons v vs =>
   cases r with
   | tmp t => exact ⟨h.1, ih _ h.2⟩
   | cell t ty => exact ⟨h.1, ih _ h.2⟩
theorem ecalls_of_awpM {C : Ctx} {f : FuncId} {fn : Func} {c : Code} {args : List AV} {res : AV} (hf : C.P.funcs[f]? = some fn) (hb : fn.body = some c) (hn : args.length ≤ fn.ntmps) (h : awpM C fn.ntmps c (postF C fn res) (entry args)) (hmk : C.marks = [] := by rfl) : ECalls C f args res := by
 intro H L vals w hG hH hr
 have hrep := entry_Rep hmk hG hH hn hr
 rw [← marks_nil hmk] at hrep
 refine (callsIn_wide (n := 0)).1 ?_
 refine callsIn_of_wp_marks hf hb trivial ?_
 refine wpIn_mono (h [] w H L _ w trivial hrep) fun e a' w' hp => ?_
 obtain ⟨mk', σ', H', L', hm, hx, hr', hq⟩ := hp
 have fin : (∃ vs, ResOk C σ' fn.results.toList vs ∧ closedL vs = true ∧ res = packR vs) → LeavesInM (fen none) 0 C.P fn a'.tmps (fun e w' => ∃ H' v, e = .returned v ∧ RepV H' res noLoc v ∧ Ext w.heap.size H H' ∧ (∀ b o, H' b = some o → w'.heap[b]? = some o) ∧ Bel w.heap.size w w') a'.defers .returning w' := by
  rintro ⟨vs, hres, hcl, rfl⟩
  rw [hr'.defers]
  have r2 : Rep { C with G := fun _ => True, mono := fun _ _ _ _ => trivial, marks := mk' } fn.ntmps w H' L' (St.sem σ') a' w' := ⟨trivial, hr'.heap, hr'.size, hr'.slot, hr'.objs, hr'.apart, hr'.below, hr'.defers⟩
  refine leaves_marks (fun _ => trivial) (by simp) mk' H' w' hm r2 fun H2 w2 e2 r3 => ?_
  have hres2 : ResOk { C with G := fun _ => True, mono := fun _ _ _ _ => trivial, marks := mk' } σ' fn.results.toList vs := resOk_any _ _ hres
  obtain ⟨v, hrun, hv⟩ := res_ends r3 hres2 hcl
  refine ⟨v, hrun, H2, v, rfl, hv, ⟨fun b o hb => ?_, fun b hb => (e2 b hb).trans (hx.2 b hb)⟩, r3.heap, r3.below⟩
  have hlt := (Array.getElem?_eq_some_iff.1 (hH b o hb)).1
  rw [e2 b hlt]
  exact hx.1 b o hb
 cases e with
 | ret => exact fin hq
 | normal => exact fin hq
 | _ => exact hq.elim
end Go.Ab

namespace Go.Ab
open Go.RowKit
theorem gcells_dropA {α : Type} {c : α → List AV} {n : Nat} (hc : ∀ x, (c x).length = n) : ∀ (l : List α) (i : Nat), (gcells c l).drop (i * n) = gcells c (l.drop i)
 | [], i => by simp [gcells]
 | x :: l, 0 => by simp
 | x :: l, i + 1 => by
  have ih := gcells_dropA hc l i
  rw [List.drop_succ_cons, ← ih, Nat.succ_mul, Nat.add_comm]
  show (c x ++ gcells c l).drop (n + i * n) = _
  rw [List.drop_append, hc, List.drop_of_length_le (by rw [hc]; omega), List.nil_append, show n + i * n - n = i * n by omega]
theorem gcells_takeA {α : Type} {c : α → List AV} {n : Nat} (hc : ∀ x, (c x).length = n) : ∀ (l : List α) (i : Nat), (gcells c l).take (i * n) = gcells c (l.take i)
 | [], i => by simp [gcells]
 | x :: l, 0 => by simp [gcells]
 | x :: l, i + 1 => by
  have ih := gcells_takeA hc l i
  rw [List.take_succ_cons, Nat.succ_mul, Nat.add_comm]
  show (c x ++ gcells c l).take (n + i * n) = c x ++ gcells c (l.take i)
  rw [← ih, List.take_append, hc, List.take_of_length_le (by rw [hc]; omega), show n + i * n - n = i * n by omega]
section
variable {C : Ctx} {ops : Array Oper} {s : List (Nat × AV)} {m : List (Nat × AO)} {K : List Eff → St → Prop} {os : List Oper} {d : Nat} {t : TypeId} {p : String} {af : Array Edge} {g : Option (Nat × Bool)}
theorem g_slice {α : Type} {ty : TypeId} {x : Operand} {lo hi mx : Option Operand} {e n by' : Nat} (c : α → List AV) (xs : List α) (l h : Nat) (hc : ∀ x, (c x).length = n) (hg : Gd ops s g) (ht : tyElem C.P ty = some (e, n, by')) (hx : ev s x = .sl n (gcells c xs))
  (hlo : (St.sem ⟨s, m⟩).loOk lo l) (hhi : (St.sem ⟨s, m⟩).hiOk hi xs.length h) (hmx : (St.sem ⟨s, m⟩).mxOk mx hi.isSome h) (h1 : l ≤ h) (h2 : h ≤ xs.length)
  (kk : aops C ops ⟨(d, .sl n (gcells c ((xs.drop l).take (h - l)))) :: s, m⟩ os fun es σ' => K ({ val := .sl n (gcells c ((xs.drop l).take (h - l))) } :: es) σ') : aops C ops ⟨s, m⟩ (⟨some d, .slice ty x lo hi mx, t, p, af, g⟩ :: os) K :=
 o_slice l h _ hg ht hx (gcells_len hc xs) hlo hhi hmx h1 h2 (by rw [gcells_dropA hc, gcells_takeA hc]) kk
end
end Go.Ab

namespace Go.Proofs.YtaeknciienkijaaGreatDoor
open Go Go.Ab Go.Mth
theorem f108_ : callable cx.P 102 = true := by kernel_rfl
theorem f109_ : callable cx.P 67 = true := by kernel_rfl
theorem f110_ : cx.P.underlying 57 = some (.slice 51) := by kernel_rfl
theorem f111_ : tyElem cx.P 57 = some (51, 2, 32) := by kernel_rfl
theorem f112_ : callable cx.P 40 = true := by kernel_rfl
theorem f113_ : callable cx.P 39 = true := by kernel_rfl
theorem f114_ : callable cx.P 46 = true := by kernel_rfl
theorem f115_ : callable cx.P 17 = true := by kernel_rfl
theorem f116_ : callable cx.P 47 = true := by kernel_rfl
theorem c_isNaN (x : Int) : ECalls cx 102 [Iv x] Fv := by
 refine ecalls_of_awp Tryz.func102 (c := _) rfl (Nat.le_of_ble_eq_true rfl) ?_
 show awp cx 6 _ (postF cx Tryz.f102 _) ⟨[(0, Iv x)], []⟩
 refine awp_seq fun K0 hK0 => awp_region rfl (o_as Fv rfl (aops_end (hK0 _ (awp_seq fun K1 hK1 => awp_region rfl (o_mv (Iv x) rfl (o_mv (Iv x) rfl ?_))))))
 refine o_neq (a := x) (c := x) gn rfl rfl ?_
 refine n_as (v' := Fv) (by exact bpn (fun h => h rfl)) ?_
 refine o_as Fv rfl (aops_end (hK1 _ ?_))
 refine awp_ret ?_
 refine post_ret ⟨[Fv], ⟨AV.le_refl _, trivial⟩, rfl, ?_⟩
 rfl

theorem c_cmpInt (x y : Int) : ECalls cx 67 [Iv x, Iv y] (.lit (.int .i64 (cmpZ x y))) := by
 refine ecalls_of_awp Tryz.func67 (c := _) rfl (Nat.le_of_ble_eq_true rfl) ?_
 show awp cx 20 _ (postF cx Tryz.f67 _) ⟨[(0, Iv x), (1, Iv y)], []⟩
 refine awp_seq fun K0 hK0 => awp_region rfl (o_as (Nv 0) rfl (aops_end (hK0 _ (awp_seq fun K1 hK1 => awp_region rfl (o_mv (Iv x) rfl ?_)))))
 refine o_ct (c_isNaN _) gn f108_ rfl ?_
 refine o_as Fv rfl (aops_end (hK1 _ (awp_seq fun K2 hK2 => awp_region rfl (o_mv (Iv y) rfl ?_))))
 refine o_ct (c_isNaN _) gn f108_ rfl ?_
 refine o_as Fv rfl (aops_end (hK2 _ (awp_seq fun K3 hK3 => awp_seq fun K4 hK4 => awp_region rfl (o_mv Fv rfl (aops_end (hK4 _ ?_))))))
 refine awp_condB (b := false) rfl (fun hh => absurd (hh.symm.trans rfl) (by decide)) (fun _ => ?_)
 refine awp_skip (hK3 _ (awp_seq fun K5 hK5 => awp_seq fun K6 hK6 => awp_region rfl (o_mv Fv rfl (aops_end (hK6 _ ?_)))))
 refine awp_condB (b := false) rfl (fun hh => absurd (hh.symm.trans rfl) (by decide)) (fun _ => ?_)
 refine awp_skip (hK5 _ (awp_seq fun K7 hK7 => awp_seq fun K8 hK8 => awp_region rfl (o_mv (Iv x) rfl (o_mv (Iv y) rfl ?_))))
 refine o_lss (a := x) (c := y) gn rfl rfl ?_
 refine aops_end (hK8 _ ?_)
 refine awp_condQ (q := x < y) rfl (fun h1 => ?_) (fun h1 => ?_)
 ·refine awp_seq fun K9 hK9 => awp_region rfl (o_as (Iv (-1)) rfl (aops_end (hK9 _ ?_)))
  refine awp_ret ?_
  refine post_ret ⟨[Iv (-1)], ⟨AV.le_refl _, trivial⟩, rfl, ?_⟩
  exact congrArg (fun z => AV.lit (.int .i64 z)) (by unfold cmpZ; rw [if_pos (by assumption)]; all_goals rfl)
 ·refine awp_skip (hK7 _ (awp_seq fun K10 hK10 => awp_seq fun K11 hK11 => awp_region rfl (o_mv (Iv x) rfl (o_mv (Iv y) rfl ?_))))
  refine o_gtr (a := x) (c := y) gn rfl rfl ?_
  refine aops_end (hK11 _ ?_)
  refine awp_condQ (q := y < x) rfl (fun h2 => ?_) (fun h2 => ?_)
  ·refine awp_seq fun K12 hK12 => awp_region rfl (o_as (Nv 1) rfl (aops_end (hK12 _ ?_)))
   refine awp_ret ?_
   refine post_ret ⟨[Nv 1], ⟨AV.le_refl _, trivial⟩, rfl, ?_⟩
   exact congrArg (fun z => AV.lit (.int .i64 z)) (by unfold cmpZ; rw [if_neg (by assumption), if_pos (by assumption)]; all_goals rfl)
  ·refine awp_skip (hK10 _ (awp_seq fun K13 hK13 => awp_region rfl (o_as (Nv 0) rfl (aops_end (hK13 _ ?_)))))
   refine awp_ret ?_
   refine post_ret ⟨[Nv 0], ⟨AV.le_refl _, trivial⟩, rfl, ?_⟩
   exact congrArg (fun z => AV.lit (.int .i64 z)) (by unfold cmpZ; rw [if_neg (by assumption), if_neg (by assumption)]; all_goals rfl)

theorem c_cmpL (x y : List Int) : ECalls cx 39 [Lv x, Lv y] (.lit (.int .i64 (cmpL x y))) := by
 refine ecalls_of_awp Tryz.func39 (c := _) rfl (Nat.le_of_ble_eq_true rfl) ?_
 show awp cx 36 _ (postF cx Tryz.f39 _) ⟨[(0, Lv x), (1, Lv y)], []⟩
 refine awp_bound (i := 0) rfl fun hxl => ?_
 replace hxl := is_bnd hxl
 refine awp_bound (i := 1) rfl fun hyl => ?_
 replace hyl := is_bnd hyl
 refine awp_seq fun K0 hK0 => awp_region rfl (o_as (Nv 0) rfl (aops_end (hK0 _ (awp_seq fun K1 hK1 => awp_seq fun K2 hK2 => awp_region rfl (o_mv (Lv x) rfl ?_)))))
 refine i_len x gn f2_ rfl ?_
 refine o_mv (Nv 0) rfl (aops_end (hK2 _ ?_))
 refine awp_block ?_
 refine awp_loopR (fun κ σ => ∃ (i : Nat), (i ≤ x.length) ∧ (cmpL x y = cmpL (x.drop i) (y.drop i)) ∧ (x.length - i) = κ ∧ σ = ⟨[(0, Lv x), (1, Lv y), (9, Lv x), (10, Nv (x.length)), (11, Nv i)], []⟩) ⟨_, _, ⟨0, Nat.zero_le _, rfl, rfl, rfl⟩, ?wk0⟩ ?rd0
 case wk0 =>
  exact Wk.sub ⟨rfl, rfl, rfl, rfl, (by first | rfl | exact nm_int (by omega)), trivial⟩ trivial
 rintro κ _ ⟨i, hi, hc, rfl, rfl⟩
 refine awp_seq fun K3 hK3 => awp_region rfl ?_
 refine n_lss i (x.length) gn rfl rfl ?_
 refine aops_end (hK3 _ (awp_seq fun K4 hK4 => ?_))
 refine awp_condQ (q := i < (x.length)) rfl (fun h1 => ?_) (fun h1 => ?_)
 ·refine awp_skip (hK4 _ (awp_seq fun K5 hK5 => ?_))
  refine awp_block ?_
  refine awp_seq fun K6 hK6 => awp_region rfl (o_mv (Nv i) rfl ?_)
  refine i_index x i gn f10_ rfl rfl (by omega) ?_
  refine i_loadI x i gn f11_ rfl (by omega) ?_
  refine o_as (Nv i) rfl (o_as (Iv (x.getD i 0)) rfl (aops_end (hK6 _ (awp_seq fun K7 hK7 => awp_seq fun K8 hK8 => awp_region rfl (o_mv (Nv i) rfl (o_mv (Lv y) rfl ?_))))))
  refine i_len y gn f2_ rfl ?_
  refine n_geq i (y.length) gn rfl rfl ?_
  refine aops_end (hK8 _ ?_)
  refine awp_condQ (q := (y.length) ≤ i) rfl (fun h2 => ?_) (fun h2 => ?_)
  ·refine awp_seq fun K9 hK9 => awp_region rfl (o_as (Nv 1) rfl (aops_end (hK9 _ ?_)))
   refine awp_ret ?_
   refine post_ret ⟨[Nv 1], ⟨AV.le_refl _, trivial⟩, rfl, ?_⟩
   exact congrArg (fun z => AV.lit (.int .i64 z)) (hc.trans (cmpL_s1 (by assumption) (by omega)))
  ·refine awp_skip (hK7 _ (awp_seq fun K10 hK10 => awp_region rfl (o_mv (Lv y) rfl (o_mv (Nv i) rfl ?_))))
   refine i_index y i gn f10_ rfl rfl (by omega) ?_
   refine i_loadI y i gn f11_ rfl (by omega) ?_
   refine o_as (Iv (y.getD i 0)) rfl (aops_end (hK10 _ (awp_seq fun K11 hK11 => awp_region rfl (o_mv (Iv (x.getD i 0)) rfl (o_mv (Iv (y.getD i 0)) rfl ?_)))))
   refine o_ct (c_cmpInt (x.getD i 0) (y.getD i 0)) gn f109_ rfl ?_
   refine o_as (Iv (cmpZ (x.getD i 0) (y.getD i 0))) rfl (aops_end (hK11 _ (awp_seq fun K12 hK12 => awp_region rfl (o_mv (Iv (cmpZ (x.getD i 0) (y.getD i 0))) rfl ?_))))
   refine o_neq (a := (cmpZ (x.getD i 0) (y.getD i 0))) (c := ((0 : Nat) : Int)) gn rfl rfl ?_
   refine aops_end (hK12 _ ?_)
   refine awp_condQ (q := (cmpZ (x.getD i 0) (y.getD i 0)) ≠ ((0 : Nat) : Int)) rfl (fun h3 => ?_) (fun h3 => ?_)
   ·refine awp_seq fun K13 hK13 => awp_region rfl (o_mv (Iv (cmpZ (x.getD i 0) (y.getD i 0))) rfl (o_as (Iv (cmpZ (x.getD i 0) (y.getD i 0))) rfl (aops_end (hK13 _ ?_))))
    refine awp_ret ?_
    refine post_ret ⟨[Iv (cmpZ (x.getD i 0) (y.getD i 0))], ⟨AV.le_refl _, trivial⟩, rfl, ?_⟩
    exact congrArg (fun z => AV.lit (.int .i64 z)) (hc.trans ((cmpL_s2 (by assumption) (by omega)).trans (if_neg (by assumption))))
   ·refine awp_skip (hK5 _ (awp_region rfl ?_))
    refine n_add i 1 gn rfl rfl (by simp only [topOf]; omega) ?_
    refine o_mv (Nv (i + 1)) rfl (aops_end ?_)
    refine ⟨_, _, ?lt, ⟨i + 1, (by omega), (hc.trans ((cmpL_s2 (by assumption) (by omega)).trans (if_pos (Decidable.not_not.1 (by assumption))))), rfl, rfl⟩, ?wk⟩
    case lt => omega
    case wk => exact Wk.sub ⟨rfl, rfl, rfl, rfl, (by first | rfl | exact nm_int (by omega)), trivial⟩ trivial
 ·refine awp_exit ?_
  refine hK1 _ (awp_seq fun K14 hK14 => awp_seq fun K15 hK15 => awp_region rfl (o_mv (Lv x) rfl ?_))
  refine i_len x gn f2_ rfl ?_
  refine o_mv (Lv y) rfl ?_
  refine i_len y gn f2_ rfl ?_
  refine n_lss (x.length) (y.length) gn rfl rfl ?_
  refine aops_end (hK15 _ ?_)
  refine awp_condQ (q := (x.length) < (y.length)) rfl (fun h4 => ?_) (fun h4 => ?_)
  ·refine awp_seq fun K16 hK16 => awp_region rfl (o_as (Iv (-1)) rfl (aops_end (hK16 _ ?_)))
   refine awp_ret ?_
   refine post_ret ⟨[Iv (-1)], ⟨AV.le_refl _, trivial⟩, rfl, ?_⟩
   exact congrArg (fun z => AV.lit (.int .i64 z)) (hc.trans (cmpL_e1 (by omega) (by omega)))
  ·refine awp_skip (hK14 _ (awp_seq fun K17 hK17 => awp_region rfl (o_as (Nv 0) rfl (aops_end (hK17 _ ?_)))))
   refine awp_ret ?_
   refine post_ret ⟨[Nv 0], ⟨AV.le_refl _, trivial⟩, rfl, ?_⟩
   exact congrArg (fun z => AV.lit (.int .i64 z)) (hc.trans (cmpL_e2 (by omega) (by omega)))

theorem c_clone (l : List Int) (hl : 0 < l.length) (hb : l.length ≤ 1000) : ECallsM cx 40 [Lv l] (.row 701) 701 3 1 (is .i64 l) := by
 refine ecallsM_of_awp Tryz.func40 (c := _) rfl (Nat.le_of_ble_eq_true rfl) ?_
 show awp cx 8 _ (postM cx Tryz.f40 _ 701 3 1 (is .i64 l)) ⟨[(0, Lv l)], []⟩
 refine awp_seq fun K0 hK0 => awp_region rfl (o_as Zv rfl (aops_end (hK0 _ (awp_seq fun K1 hK1 => awp_seq fun K2 hK2 => awp_region rfl (o_mv (Lv l) rfl ?_)))))
 refine o_eqlNilSl gn f2_ rfl rfl (by simp [is, ns]; omega) ?_
 refine aops_end (hK2 _ ?_)
 refine awp_condB (b := false) rfl (fun hh => absurd (hh.symm.trans rfl) (by decide)) (fun _ => ?_)
 refine awp_skip (hK1 _ (awp_seq fun K3 hK3 => awp_region rfl ?_))
 refine o_buildSlice 2 (is .i64 ([])) [] gn f10_ rfl f26_ rfl rfl rfl rfl rfl rfl rfl ?_
 refine o_mv (Lv l) rfl ?_
 refine i_appendSl 3 ([]) l [] gn f10_ f26_ rfl rfl rfl rfl (by simp only [List.length_append, List.length_cons, List.length_nil]; omega) (by decide) rfl rfl ?_
 refine o_as (.row 3) rfl (aops_end (hK3 _ ?_))
 refine awp_wk (σ' := ⟨[(2, .row 3)], [(3, .row 3 1 (is .i64 l))]⟩) (Wk.sub ⟨rfl, trivial⟩ ⟨rfl, trivial⟩) ?_
 refine awp_wk (σ' := ⟨[(2, .row 701)], [(701, .row 3 1 (is .i64 l))]⟩) (Wk.ren (id := 3) (id' := 701) rfl) ?_
 refine awp_ret ?_
 refine postM_ret ⟨[.row 701], ⟨AV.le_refl _, trivial⟩, rfl, rfl, ?_⟩
 rfl

theorem c_cloneW (l : List Int) (hl : 0 < l.length) (hb : l.length ≤ 1000) : ECallsM cx 47 [.sl 2 (gcells cW l)] (.row 701) 701 51 2 (gcells cW l) := by
 refine ecallsM_of_awp Tryz.func47 (c := _) rfl (Nat.le_of_ble_eq_true rfl) ?_
 show awp cx 8 _ (postM cx Tryz.f47 _ 701 51 2 (gcells cW l)) ⟨[(0, .sl 2 (gcells cW l))], []⟩
 refine awp_seq fun K0 hK0 => awp_region rfl (o_as Zv rfl (aops_end (hK0 _ (awp_seq fun K1 hK1 => awp_seq fun K2 hK2 => awp_region rfl (o_mv (.sl 2 (gcells cW l)) rfl ?_)))))
 refine o_eqlNilSl gn f110_ rfl rfl (by rw [gcells_len cW_len]; omega) ?_
 refine aops_end (hK2 _ ?_)
 refine awp_condB (b := false) rfl (fun hh => absurd (hh.symm.trans rfl) (by decide)) (fun _ => ?_)
 refine awp_skip (hK1 _ (awp_seq fun K3 hK3 => awp_region rfl ?_))
 refine o_buildSlice 2 (gcells cW ([])) [] gn f111_ rfl f15_ rfl rfl rfl rfl rfl rfl rfl ?_
 refine o_mv (.sl 2 (gcells cW l)) rfl ?_
 refine g_appendSl cW 3 ([]) l [] cW_len rfl gn f111_ f15_ rfl rfl rfl rfl (by simp only [List.length_append, List.length_cons, List.length_nil]; omega) (by simp only [List.length_append, List.length_cons, List.length_nil]; omega) rfl rfl ?_
 refine o_as (.row 3) rfl (aops_end (hK3 _ ?_))
 refine awp_wk (σ' := ⟨[(2, .row 3)], [(3, .row 51 2 (gcells cW l))]⟩) (Wk.sub ⟨rfl, trivial⟩ ⟨rfl, trivial⟩) ?_
 refine awp_wk (σ' := ⟨[(2, .row 701)], [(701, .row 51 2 (gcells cW l))]⟩) (Wk.ren (id := 3) (id' := 701) rfl) ?_
 refine awp_ret ?_
 refine postM_ret ⟨[.row 701], ⟨AV.le_refl _, trivial⟩, rfl, rfl, ?_⟩
 rfl

theorem c_first (w : List Int) (hl : w.length ≤ 1000) : ECalls cx 15 [Lv w] (bp (firstP w)) := by
 refine ecalls_of_awp Tryz.func15 (c := _) rfl (Nat.le_of_ble_eq_true rfl) ?_
 show awp cx 21 _ (postF cx Tryz.f15 _) ⟨[(0, Lv w)], []⟩
 refine awp_seq fun K0 hK0 => awp_region rfl (o_as Fv rfl (aops_end (hK0 _ (awp_seq fun K1 hK1 => awp_seq fun K2 hK2 => awp_region rfl (o_as (Nv 1) rfl (aops_end (hK2 _ ?_)))))))
 refine awp_block ?_
 refine awp_loopR (fun κ σ => ∃ (i : Nat), (1 ≤ i) ∧ (∀ j, j < i → 0 < j → ¬ cmpL (rotL w j) w ≤ 0) ∧ (w.length - i) = κ ∧ σ = ⟨[(0, Lv w), (3, Nv i)], []⟩) ⟨_, _, ⟨1, (by omega), (fun j h1 h2 => by omega), rfl, rfl⟩, ?wk0⟩ ?rd0
 case wk0 =>
  exact Wk.sub ⟨rfl, (by first | rfl | exact nm_int (by omega)), trivial⟩ trivial
 rintro κ _ ⟨i, hi0, hf, rfl, rfl⟩
 refine awp_seq fun K3 hK3 => awp_seq fun K4 hK4 => awp_region rfl (o_mv (Nv i) rfl (o_mv (Lv w) rfl ?_))
 refine i_len w gn f2_ rfl ?_
 refine n_lss i (w.length) gn rfl rfl ?_
 refine aops_end (hK4 _ ?_)
 refine awp_condQ (q := i < (w.length)) rfl (fun h1 => ?_) (fun h1 => ?_)
 ·refine awp_skip (hK3 _ (awp_seq fun K5 hK5 => ?_))
  refine awp_block ?_
  refine awp_seq fun K6 hK6 => awp_regionD rfl (o_mv (Lv w) rfl (o_mv (Nv i) rfl ?_))
  refine i_slice w i (w.length) gn f10_ rfl (lo_nm rfl) rfl trivial (by omega) (by omega) ?_
  refine o_callM 701 [Lv ((w.drop i).take (w.length - i))] gn f112_ rfl (c_clone ((w.drop i).take (w.length - i)) (by simp only [List.length_take, List.length_drop]; omega) (by simp only [List.length_take, List.length_drop]; omega)) rfl ?_
  refine o_mv (Lv w) rfl (o_mv (Nv i) rfl ?_)
  refine i_slice w 0 i gn f10_ rfl rfl (hi_nm rfl) trivial (by omega) (by omega) ?_
  refine i_appendSl 101 ((w.drop i).take (w.length - i)) ((w.drop 0).take (i - 0)) [] gn f10_ f26_ rfl rfl rfl rfl (by simp only [List.length_append, List.length_take, List.length_drop]; omega) (by decide) rfl rfl ?_
  refine o_mv (Lv w) rfl ?_
  refine o_callG [(101, 1, is .i64 (((w.drop i).take (w.length - i)) ++ ((w.drop 0).take (i - 0))))] [Lv (((w.drop i).take (w.length - i)) ++ ((w.drop 0).take (i - 0))), Lv w] _ (Iv (cmpL (((w.drop i).take (w.length - i)) ++ ((w.drop 0).take (i - 0))) w)) [] gn f113_ rfl ⟨⟨_, rfl⟩, trivial⟩ rfl rfl (LeL.cons (AV.le_refl _) (LeL.cons (AV.le_refl _) LeL.nil)) (c_cmpL (((w.drop i).take (w.length - i)) ++ ((w.drop 0).take (i - 0))) w) rfl ?_
  refine n_as (v' := (Iv (cmpL (rotL w i) w))) (by exact congrArg (fun z => AV.lit (.int .i64 z)) (congrArg (fun l => cmpL l w) (rot_cut w (by omega)))) ?_
  refine o_leq (a := (cmpL (rotL w i) w)) (c := ((0 : Nat) : Int)) gn rfl rfl ?_
  refine aops_end ⟨by kernel_rfl, ?_⟩
  refine hK6 _ ?_
  refine awp_condQ (q := (cmpL (rotL w i) w) ≤ ((0 : Nat) : Int)) rfl (fun h2 => ?_) (fun h2 => ?_)
  ·refine awp_seq fun K7 hK7 => awp_region rfl (o_as Fv rfl (aops_end (hK7 _ ?_)))
   refine awp_ret ?_
   refine post_ret ⟨[Fv], ⟨AV.le_refl _, trivial⟩, rfl, ?_⟩
   exact bpn (fun h => h i (by assumption) (by omega) (by assumption))
  ·refine awp_skip (hK5 _ (awp_region rfl (o_mv (Nv i) rfl ?_)))
   refine n_add i 1 gn rfl rfl (by simp only [topOf]; omega) ?_
   refine o_as (Nv (i + 1)) rfl (aops_end ?_)
   refine ⟨_, _, ?lt, ⟨i + 1, (by omega), (fun j h8 h9 => by rcases Nat.lt_or_ge j i with e | e; exact hf j e h9; rw [show j = i by omega]; assumption), rfl, rfl⟩, ?wk⟩
   case lt => omega
   case wk => exact Wk.sub ⟨rfl, (by first | rfl | exact nm_int (by omega)), trivial⟩ trivial
 ·refine awp_exit ?_
  refine hK1 _ (awp_seq fun K8 hK8 => awp_region rfl (o_as Tv rfl (aops_end (hK8 _ ?_))))
  refine awp_ret ?_
  refine post_ret ⟨[Tv], ⟨AV.le_refl _, trivial⟩, rfl, ?_⟩
  exact bpy (fun j h8 h9 => hf j (by omega) h9)

theorem c_loop (m : MapM) (x : Int) (n : Nat) (hM : OkM m) (hn1 : 1 ≤ n) (hn : n ≤ 200) (hx : (digs x.natAbs).length ≤ 1000) : ECalls cx 19 [mapV m, intW x, Nv n] (.sl 2 (gcells cW (cyc m x n))) := by
 refine ecalls_of_awp Tryz.func19 (c := _) rfl (Nat.le_of_ble_eq_true rfl) ?_
 show awp cx 58 _ (postF cx Tryz.f19 _) ⟨[(0, mapV m), (1, intW x), (2, Nv n)], []⟩
 refine awp_seq fun K0 hK0 => awp_region rfl ?_
 refine o_box 2 [Iv m.mod, Lv m.mul, Lv m.add] gn rfl rfl ?_
 refine o_box 3 [bp (x < 0), .sl 1 (ns .u32 (digs x.natAbs))] gn rfl rfl ?_
 refine o_as Zv rfl (aops_end (hK0 _ (awp_seq fun K1 hK1 => awp_region rfl ?_)))
 refine o_loadA [bp (x < 0), .sl 1 (ns .u32 (digs x.natAbs))] gn f20_ rfl rfl rfl rfl rfl ?_
 refine o_buildSlice 4 (gcells cW ([x])) [(0, [bp (x < 0), .sl 1 (ns .u32 (digs x.natAbs))])] gn f111_ rfl f15_ rfl rfl rfl rfl rfl rfl rfl ?_
 refine o_as (.row 4) rfl (aops_end (hK1 _ (awp_seq fun K2 hK2 => ?_)))
 refine awp_block ?_
 refine awp_loopR (fun κ σ => ∃ (j : Nat), (j + 1 ≤ n) ∧ (n - j) = κ ∧ σ = ⟨[(2, Nv n), (3, .ref 2 0), (7, .row 50)], [(2, oM 28 m), (50, .row 51 2 (gcells cW (orbL m x (j + 1))))]⟩) ⟨_, _, ⟨0, (by omega), rfl, rfl⟩, ?wk0⟩ ?rd0
 case wk0 =>
  exact Wk.trans (Wk.sub (σ' := ⟨[(2, Nv n), (3, .ref 2 0), (7, .row 4)], [(2, oM 28 m), (4, .row 51 2 (gcells cW ([x])))]⟩) ⟨rfl, rfl, rfl, trivial⟩ ⟨rfl, rfl, trivial⟩) (Wk.trans (Wk.ren (id := 4) (id' := 50) rfl) (Wk.sub ⟨rfl, rfl, (by first | rfl | simp), trivial⟩ ⟨(by first | rfl | (first | exact row_gs' (orbL_s m x _) | exact row_gs' (by rfl) | exact row_gs' (by rw [show j + 1 = n by omega]))), (by first | rfl | exact row_ns (by simp) | (first | exact row_gs' (orbL_s m x _) | exact row_gs' (by rfl) | exact row_gs' (by rw [show j + 1 = n by omega]))), trivial⟩))
 rintro κ _ ⟨j, hj, rfl, rfl⟩
 have k1 := orbL_len m x (j + 1)
 have k2 := iter_len hM x j
 refine awp_seq fun K3 hK3 => awp_seq fun K4 hK4 => awp_region rfl (o_mv (.row 50) rfl ?_)
 refine g_lenRow cW (orbL m x (j + 1)) cW_len gn f110_ rfl rfl ?_
 refine o_mv (Nv n) rfl ?_
 refine n_lss ((orbL m x (j + 1)).length) n gn rfl rfl ?_
 refine aops_end (hK4 _ ?_)
 refine awp_condQ (q := ((orbL m x (j + 1)).length) < n) rfl (fun h1 => ?_) (fun h1 => ?_)
 ·refine awp_skip (hK3 _ ?_)
  refine awp_block ?_
  refine awp_seq fun K5 hK5 => awp_regionD rfl ?_
  refine o_loadA [Iv m.mod, Lv m.mul, Lv m.add] gn f64_ rfl rfl rfl rfl rfl ?_
  refine o_mv (.row 50) rfl (o_mv (.row 50) rfl ?_)
  refine g_lenRow cW (orbL m x (j + 1)) cW_len gn f110_ rfl rfl ?_
  refine n_sub ((orbL m x (j + 1)).length) 1 gn rfl rfl (by omega) (by simp only [topOf]; omega) ?_
  refine g_indexRow cW (orbL m x (j + 1)) (((orbL m x (j + 1)).length) - 1) cW_len rfl gn f111_ rfl rfl rfl (by omega) ?_
  refine g_loadRowA cW (orbL m x (j + 1)) (((orbL m x (j + 1)).length) - 1) default cW_len gn f20_ rfl rfl (by omega) ?_
  refine n_as (v' := (intW (iterZ m j x))) (by exact congrArg intW ((congrArg (fun i => (orbL m x (j + 1)).getD i default) (by rw [orbL_len]; rfl)).trans (orbL_get (Nat.lt_succ_self j)))) ?_
  refine o_ct (c_sNext m (iterZ m j x) (by first | assumption | exact okM_iff.1 (by assumption)) (by first | omega | assumption | (simp only [Int.natAbs_neg]; omega))) gn f114_ rfl ?_
  refine o_mv (.tup [intW (stepZ m (iterZ m j x)), Iv ((iterZ m j x) % m.mod)]) rfl (o_extract (intW (stepZ m (iterZ m j x))) gn rfl rfl ?_)
  refine n_as (v' := (intW (iterZ m (j + 1) x))) (by exact rfl) ?_
  refine o_extract (Iv ((iterZ m j x) % m.mod)) gn rfl rfl ?_
  refine o_alloc 101 [Fv, Zv] gn f15_ rfl rfl rfl ?_
  refine o_store [(101, oZ 51 .u32 (iterZ m (j + 1) x)), (2, oM 28 m), (50, .row 51 2 (gcells cW (orbL m x (j + 1))))] gn f19_ rfl rfl rfl rfl rfl rfl ?_
  refine o_as (Iv ((iterZ m j x) % m.mod)) rfl ?_
  refine aops_end ⟨by kernel_rfl, ?_⟩
  refine hK5 _ (awp_region rfl (o_mv (.row 50) rfl ?_))
  refine o_loadA [bp ((iterZ m (j + 1) x) < 0), .sl 1 (ns .u32 (digs (iterZ m (j + 1) x).natAbs))] gn f20_ rfl rfl rfl rfl rfl ?_
  refine o_buildSlice 102 (gcells cW ([iterZ m (j + 1) x])) [(0, [bp ((iterZ m (j + 1) x) < 0), .sl 1 (ns .u32 (digs (iterZ m (j + 1) x).natAbs))])] gn f111_ rfl f15_ rfl rfl rfl rfl rfl rfl rfl ?_
  refine g_append cW 103 (orbL m x (j + 1)) ([iterZ m (j + 1) x]) [(102, .row 51 2 (gcells cW ([iterZ m (j + 1) x]))), (101, oZ 51 .u32 (iterZ m (j + 1) x)), (2, oM 28 m)] cW_len rfl gn f111_ f15_ rfl rfl rfl rfl rfl (by simp only [List.length_append, List.length_cons, List.length_nil]; omega) (by simp only [List.length_append, List.length_cons, List.length_nil]; omega) rfl rfl ?_
  refine o_as (.row 103) rfl (aops_end ?_)
  refine ⟨_, _, ?lt, ⟨j + 1, (by omega), rfl, rfl⟩, ?wk⟩
  case lt => omega
  case wk => exact Wk.trans (Wk.sub (σ' := ⟨[(2, Nv n), (3, .ref 2 0), (7, .row 103)], [(2, oM 28 m), (103, .row 51 2 (gcells cW ((orbL m x (j + 1)) ++ ([iterZ m (j + 1) x]))))]⟩) ⟨rfl, rfl, rfl, trivial⟩ ⟨rfl, rfl, trivial⟩) (Wk.trans (Wk.ren (id := 103) (id' := 50) rfl) (Wk.sub ⟨rfl, rfl, (by first | rfl | simp), trivial⟩ ⟨rfl, (by first | rfl | exact row_ns (by simp) | (first | exact row_gs' (orbL_s m x _) | exact row_gs' (by rfl) | exact row_gs' (by rw [show j + 1 = n by omega]))), trivial⟩))
 ·refine awp_exit ?_
  refine hK2 _ (awp_seq fun K6 hK6 => awp_region rfl (o_as (Nv 0) rfl ?_))
  refine n_as (v' := (Nv (leastI (orbL m x n) 0))) (by exact congrArg (nm _) (by first | rfl | exact (least_y (cmpZ_lt.1 (by assumption))).symm)) ?_
  refine aops_end (hK6 _ (awp_seq fun K7 hK7 => awp_seq fun K8 hK8 => awp_region rfl (o_mv (.row 50) rfl ?_)))
  refine g_lenRow cW (orbL m x (j + 1)) cW_len gn f110_ rfl rfl ?_
  refine n_as (v' := (Nv n)) (congrArg (nm _) (by rw [orbL_len]; omega)) ?_
  refine o_mv (Nv 0) rfl (aops_end (hK8 _ ?_))
  refine awp_block ?_
  refine awp_loopR (fun κ σ => ∃ (i : Nat), (i ≤ n) ∧ (n - i) = κ ∧ σ = ⟨[(7, .row 50), (10, Nv (leastI (orbL m x n) i)), (34, Nv n), (35, Nv i)], [(50, .row 51 2 (gcells cW (orbL m x n)))]⟩) ⟨_, _, ⟨0, (by omega), rfl, rfl⟩, ?wk1⟩ ?rd1
  case wk1 =>
   exact Wk.sub ⟨rfl, (by first | rfl | exact nm_int (by omega)), rfl, (by first | rfl | exact nm_int (by omega)), trivial⟩ ⟨(by first | rfl | exact row_ns (by simp) | (first | exact row_gs' (orbL_s m x _) | exact row_gs' (by rfl) | exact row_gs' (by rw [show j + 1 = n by omega]))), trivial⟩
  rintro κ _ ⟨i, hi, rfl, rfl⟩
  have k1 := orbL_len m x n
  have k3 := least_lt (l := orbL m x n) (by omega) i (by omega)
  refine awp_seq fun K9 hK9 => awp_region rfl ?_
  refine n_lss i n gn rfl rfl ?_
  refine aops_end (hK9 _ (awp_seq fun K10 hK10 => ?_))
  refine awp_condQ (q := i < n) rfl (fun h2 => ?_) (fun h2 => ?_)
  ·refine awp_skip (hK10 _ (awp_seq fun K11 hK11 => ?_))
   refine awp_block ?_
   refine awp_seq fun K12 hK12 => awp_region rfl (o_mv (Nv i) rfl (o_as (Nv i) rfl (aops_end (hK12 _ (awp_seq fun K13 hK13 => awp_regionD rfl (o_mv (.row 50) rfl (o_mv (Nv i) rfl ?_)))))))
   refine g_indexRow cW (orbL m x n) i cW_len rfl gn f111_ rfl rfl rfl (by omega) ?_
   refine g_loadRowA cW (orbL m x n) i default cW_len gn f20_ rfl rfl (by omega) ?_
   refine o_mv (.row 50) rfl (o_mv (Nv (leastI (orbL m x n) i)) rfl ?_)
   refine g_indexRow cW (orbL m x n) (leastI (orbL m x n) i) cW_len rfl gn f111_ rfl rfl rfl (by omega) ?_
   refine g_loadRowA cW (orbL m x n) (leastI (orbL m x n) i) default cW_len gn f20_ rfl rfl (by omega) ?_
   refine o_ct (c_wCmp ((orbL m x n).getD i default) ((orbL m x n).getD (leastI (orbL m x n) i) default)) gn f115_ rfl ?_
   refine o_lss (a := (cmpZ ((orbL m x n).getD i default) ((orbL m x n).getD (leastI (orbL m x n) i) default))) (c := ((0 : Nat) : Int)) gn rfl rfl ?_
   refine aops_end ⟨by kernel_rfl, ?_⟩
   refine hK13 _ ?_
   refine awp_condQ (q := (cmpZ ((orbL m x n).getD i default) ((orbL m x n).getD (leastI (orbL m x n) i) default)) < ((0 : Nat) : Int)) rfl (fun h3 => ?_) (fun h3 => ?_)
   ·refine awp_region rfl (o_mv (Nv i) rfl (o_as (Nv i) rfl ?_))
    refine n_as (v' := (Nv (leastI (orbL m x n) (i + 1)))) (by exact congrArg (nm _) (by first | rfl | exact (least_y (cmpZ_lt.1 (by assumption))).symm)) ?_
    refine aops_end (hK11 _ (awp_region rfl ?_))
    refine n_add i 1 gn rfl rfl (by simp only [topOf]; omega) ?_
    refine o_mv (Nv (i + 1)) rfl (aops_end ?_)
    refine ⟨_, _, ?lt, ⟨i + 1, (by omega), rfl, rfl⟩, ?wk⟩
    case lt => omega
    case wk => exact Wk.sub ⟨rfl, (by first | rfl | exact nm_int (by omega)), rfl, (by first | rfl | exact nm_int (by omega)), trivial⟩ ⟨rfl, trivial⟩
   ·refine awp_wk (Wk.slot (i := 10) (y := (Nv (leastI (orbL m x n) (i + 1)))) (AV.le_eq (by exact congrArg (nm _) (least_n (fun e => absurd (cmpZ_lt.2 e) (by assumption))).symm))) ?_
    refine awp_skip (hK11 _ (awp_region rfl ?_))
    refine n_add i 1 gn rfl rfl (by simp only [topOf]; omega) ?_
    refine o_mv (Nv (i + 1)) rfl (aops_end ?_)
    refine ⟨_, _, ?lt, ⟨i + 1, (by omega), rfl, rfl⟩, ?wk⟩
    case lt => omega
    case wk => exact Wk.sub ⟨rfl, (by first | rfl | exact nm_int (by omega)), rfl, (by first | rfl | exact nm_int (by omega)), trivial⟩ ⟨rfl, trivial⟩
  ·refine awp_exit ?_
   refine hK7 _ (awp_seq fun K14 hK14 => ?_)
   refine awp_wk (σ' := ⟨[(7, .row 50), (10, Nv (leastI (orbL m x n) i)), (35, Nv i)], [(50, .row 51 2 (gcells cW (orbL m x n)))]⟩) (Wk.sub ⟨rfl, rfl, rfl, trivial⟩ ⟨rfl, trivial⟩) ?_
   refine awp_wk (σ' := ⟨[(7, .sl 2 (gcells cW (orbL m x n))), (10, Nv (leastI (orbL m x n) i)), (35, Nv i)], []⟩) (Wk.freeze (id := 50) (e := 51) (sz := 2) (cs := (gcells cW (orbL m x n))) rfl) ?_
   refine awp_regionD rfl (o_mv (.sl 2 (gcells cW (orbL m x n))) rfl (o_mv (Nv (leastI (orbL m x n) i)) rfl ?_))
   refine g_slice cW (orbL m x n) (leastI (orbL m x n) i) ((orbL m x n).length) cW_len gn f111_ rfl (lo_nm rfl) rfl trivial (by omega) (by omega) ?_
   refine o_callM 701 [.sl 2 (gcells cW (((orbL m x n).drop (leastI (orbL m x n) i)).take ((orbL m x n).length - leastI (orbL m x n) i)))] gn f116_ rfl (c_cloneW (((orbL m x n).drop (leastI (orbL m x n) i)).take ((orbL m x n).length - leastI (orbL m x n) i)) (by simp only [List.length_take, List.length_drop]; omega) (by simp only [List.length_take, List.length_drop]; omega)) rfl ?_
   refine o_mv (.sl 2 (gcells cW (orbL m x n))) rfl (o_mv (Nv (leastI (orbL m x n) i)) rfl ?_)
   refine g_slice cW (orbL m x n) 0 (leastI (orbL m x n) i) cW_len gn f111_ rfl rfl (hi_nm rfl) trivial (by omega) (by omega) ?_
   refine g_appendSl cW 201 (((orbL m x n).drop (leastI (orbL m x n) i)).take ((orbL m x n).length - leastI (orbL m x n) i)) (((orbL m x n).drop 0).take (leastI (orbL m x n) i - 0)) [] cW_len rfl gn f111_ f15_ rfl rfl rfl rfl (by simp only [List.length_append, List.length_take, List.length_drop]; omega) (by simp only [List.length_append, List.length_take, List.length_drop]; omega) rfl rfl ?_
   refine o_as (.row 201) rfl ?_
   refine aops_end ⟨by kernel_rfl, ?_⟩
   refine hK14 _ ?_
   refine awp_wk (σ' := ⟨[(6, .row 201)], [(201, .row 51 2 (gcells cW ((((orbL m x n).drop (leastI (orbL m x n) i)).take ((orbL m x n).length - leastI (orbL m x n) i)) ++ (((orbL m x n).drop 0).take (leastI (orbL m x n) i - 0)))))]⟩) (Wk.sub ⟨rfl, trivial⟩ ⟨rfl, trivial⟩) ?_
   refine awp_wk (σ' := ⟨[(6, .sl 2 (gcells cW ((((orbL m x n).drop (leastI (orbL m x n) i)).take ((orbL m x n).length - leastI (orbL m x n) i)) ++ (((orbL m x n).drop 0).take (leastI (orbL m x n) i - 0)))))], []⟩) (Wk.freeze (id := 201) (e := 51) (sz := 2) (cs := (gcells cW ((((orbL m x n).drop (leastI (orbL m x n) i)).take ((orbL m x n).length - leastI (orbL m x n) i)) ++ (((orbL m x n).drop 0).take (leastI (orbL m x n) i - 0))))) rfl) ?_
   refine awp_ret ?_
   refine post_ret ⟨[.sl 2 (gcells cW ((((orbL m x n).drop (leastI (orbL m x n) i)).take ((orbL m x n).length - leastI (orbL m x n) i)) ++ (((orbL m x n).drop 0).take (leastI (orbL m x n) i - 0))))], ⟨AV.le_refl _, trivial⟩, rfl, ?_⟩
   have hin : i = n := by omega
   subst hin
   exact gs_as (((congrArg (fun q => rotL (orbL m x i) (leastI (orbL m x i) q)) k1).trans rfl).trans (rot_cut _ (by omega)).symm)

end Go.Proofs.YtaeknciienkijaaGreatDoor

namespace Go.Mth
open Go Go.Ab
structure Fal where
 steps : Int
 rest : Int
 lmul : ByteArray
 ladd : ByteArray
 ldiv : ByteArray
 bound : ByteArray
 deriving Inhabited, DecidableEq
def cL (f : Fal) : List AV := [.lit (.int .i64 f.steps), .lit (.int .i64 f.rest), .lit (.string f.lmul), .lit (.string f.ladd), .lit (.string f.ldiv), .lit (.string f.bound)]
def falV (f : Fal) : AV := .agg (cL f)
def zFal : Fal := ⟨0, 0, noS, noS, noS, noS⟩
def bndZ (l : LinZ) : Int := l.add / (l.div - l.mul)
def falO (s r : Int) (l : LinZ) : Fal := ⟨s, r, txt l.mul, txt l.add, txt l.div, txt (bndZ l)⟩
def fallsW (m : MapM) (w : List Int) : Prop := (lineZ m w).mul < (lineZ m w).div
instance (m : MapM) (w : List Int) : Decidable (fallsW m w) := by unfold fallsW; infer_instance
def ffal (m : MapM) (z : Int) : Nat → Nat
 | 0 => 0
 | k + 1 => if ffal m z k ≠ 0 then ffal m z k else if fallsW m (wordZ m z (k + 1)) then k + 1 else 0
def fndF (m : MapM) (z : Int) (k : Nat) : Fal := if ffal m z k = 0 then zFal else falO (ffal m z k) (z % m.mod ^ ffal m z k) (lineZ m (wordZ m z (ffal m z k)))
def fndB (m : MapM) (z : Int) (k : Nat) : Prop := ffal m z k ≠ 0
instance (m : MapM) (z : Int) (k : Nat) : Decidable (fndB m z k) := by unfold fndB; infer_instance
def mayS (m : MapM) (k : Int) : Prop := freeM m ∧ 1 ≤ k ∧ m.mod ^ k.toNat ≤ 65536
noncomputable instance (m : MapM) (k : Int) : Decidable (mayS m k) := Classical.propDecidable _
noncomputable def chkE (m : MapM) (k : Int) : Nat := if okM m = true then (if mayS m k then 0 else 2) else 1
theorem may_16 {m : MapM} (hm : OkM m) {k : Nat} (h : m.mod ^ k ≤ 65536) : k ≤ 16 := by
 refine Decidable.byContradiction fun e => ?_
 have h1 : (2 : Int) ^ k ≤ m.mod ^ k := by
  have a : (2 : Int) = ((2 : Nat) : Int) := rfl
  have b : m.mod = ((m.mod.toNat : Nat) : Int) := (Int.toNat_of_nonneg (by have := hm.1; omega)).symm
  rw [a, b, ← Int.natCast_pow, ← Int.natCast_pow]
  have : (2 : Nat) ^ k ≤ m.mod.toNat ^ k := Nat.pow_le_pow_left (by have := hm.1; omega) k
  omega
 have h2 : (2 : Nat) ^ 17 ≤ 2 ^ k := Nat.pow_le_pow_right (by decide) (by omega)
 have h3 : ((2 : Nat) ^ k : Nat) = ((2 : Int) ^ k) := by rw [Int.natCast_pow]; rfl
 have h4 : (2 : Nat) ^ 17 = 131072 := by decide
 omega
theorem pow_le_of {m : MapM} (hm : OkM m) {j k : Nat} (h : j ≤ k) : m.mod ^ j ≤ m.mod ^ k := by
 have b : m.mod = ((m.mod.toNat : Nat) : Int) := (Int.toNat_of_nonneg (by have := hm.1; omega)).symm
 rw [b, ← Int.natCast_pow, ← Int.natCast_pow]
 have : m.mod.toNat ^ j ≤ m.mod.toNat ^ k := Nat.pow_le_pow_right (by have := hm.1; omega) h
 omega
theorem chk_1 {m : MapM} {k : Int} (h : ¬ okM m = true) : chkE m k = 1 := if_neg h
theorem chk_2 {m : MapM} {k : Int} (h : okM m = true) (h2 : ¬ mayS m k) : chkE m k = 2 := (if_pos h).trans (if_neg h2)
theorem chk_0 {m : MapM} {k : Int} (h : okM m = true) (h2 : mayS m k) : chkE m k = 0 := (if_pos h).trans (if_pos h2)
theorem may_big {m : MapM} {k : Int} {i : Nat} (hm : OkM m) (h : 65536 < m.mod ^ (i + 1)) (hi : ((i : Nat) : Int) < k) : ¬ mayS m k := fun e => by
 have := pow_le_of hm (j := i + 1) (k := k.toNat) (by omega)
 have := e.2.2
 omega
noncomputable def fdE (m : MapM) (a : ByteArray) (k : Int) : Nat := if okM m = true ∧ okS a = true then chkE m k else 1
noncomputable def fdF (m : MapM) (a : ByteArray) (k : Int) : Fal := if fdE m a k = 0 then fndF m (numS a) k.toNat else zFal
def fdB (m : MapM) (a : ByteArray) (k : Int) : Prop := fdE m a k = 0 ∧ fndB m (numS a) k.toNat
noncomputable instance (m : MapM) (a : ByteArray) (k : Int) : Decidable (fdB m a k) := Classical.propDecidable _
noncomputable def rstN (m : MapM) (k : Int) : Int := if 1 ≤ k ∧ m.mod ^ k.toNat ≤ 65536 then m.mod ^ k.toNat else 0
def fln (m : MapM) (z : Int) (k : Nat) : LinZ := lineZ m (wordZ m z (if ffal m z k = 0 then k else ffal m z k))
end Go.Mth

namespace Go.Proofs
open Go.Shelf
def Tryz.sortW_ren : Go.Shelf.Ren := ⟨fun | 6 => 20 | 15 => 49 | 14 => 48 | 28 => 82 | 29 => 83 | 20 => 74 | 21 => 75 | 22 => 76 | 23 => 77 | 24 => 78 | 25 => 79 | 26 => 80 | 27 => 81 | 46 => 104 | 47 => 105 | 48 => 106 | 49 => 107 | 50 => 108 | 57 => 121 | n => n, fun | 22 => 45 | 24 => 57 | 25 => 60 | 3 => 3 | 39 => 99 | 0 => 0 | 53 => 93 | 55 => 92 | 4 => 4 | 46 => 128 | 45 => 127 | 50 => 111 | 5 => 5 | 9 => 9 | 66 => 151 | 70 => 155 | 76 => 167 | 77 => 168 | n => n, fun | n => n⟩
theorem Tryz.sortW : Go.Proofs.SlLaysF.n6 Tryz.prog Tryz.sortW_ren := {
 mixed := by kernel_rfl
 f6 := ⟨Tryz.f20.name, by decide, Tryz.func20.trans (congrArg some (by kernel_rfl))⟩
 f14 := ⟨Tryz.f48.name, by decide, Tryz.func48.trans (congrArg some (by kernel_rfl))⟩
 f15 := Tryz.func49.trans (congrArg some (by kernel_rfl))
 f20 := ⟨Tryz.f74.name, by decide, Tryz.func74.trans (congrArg some (by kernel_rfl))⟩
 f21 := ⟨Tryz.f75.name, by decide, Tryz.func75.trans (congrArg some (by kernel_rfl))⟩
 f22 := ⟨Tryz.f76.name, by decide, Tryz.func76.trans (congrArg some (by kernel_rfl))⟩
 f23 := ⟨Tryz.f77.name, by decide, Tryz.func77.trans (congrArg some (by kernel_rfl))⟩
 f24 := ⟨Tryz.f78.name, by decide, Tryz.func78.trans (congrArg some (by kernel_rfl))⟩
 f25 := ⟨Tryz.f79.name, by decide, Tryz.func79.trans (congrArg some (by kernel_rfl))⟩
 f26 := ⟨Tryz.f80.name, by decide, Tryz.func80.trans (congrArg some (by kernel_rfl))⟩
 f27 := ⟨Tryz.f81.name, by decide, Tryz.func81.trans (congrArg some (by kernel_rfl))⟩
 f28 := Tryz.func82.trans (congrArg some (by kernel_rfl))
 f29 := Tryz.func83.trans (congrArg some (by kernel_rfl))
 f46 := ⟨Tryz.f104.name, by decide, Tryz.func104.trans (congrArg some (by kernel_rfl))⟩
 f47 := Tryz.func105.trans (congrArg some (by kernel_rfl))
 f48 := Tryz.func106.trans (congrArg some (by kernel_rfl))
 f49 := ⟨Tryz.f107.name, by decide, Tryz.func107.trans (congrArg some (by kernel_rfl))⟩
 f50 := ⟨Tryz.f108.name, by decide, Tryz.func108.trans (congrArg some (by kernel_rfl))⟩
 f57 := ⟨Tryz.f121.name, by decide, Tryz.func121.trans (congrArg some (by kernel_rfl))⟩
 t0 := Tryz.underlying0
 a0 := Tryz.isAgg0
 z0 := Tryz.sizeOf0
 v0 := Tryz.zeroValue0
 t3 := Tryz.underlying3
 a3 := Tryz.isAgg3
 z3 := Tryz.sizeOf3
 v3 := Tryz.zeroValue3
 t4 := Tryz.underlying4
 a4 := Tryz.isAgg4
 z4 := Tryz.sizeOf4
 v4 := Tryz.zeroValue4
 t5 := Tryz.underlying5
 a5 := Tryz.isAgg5
 z5 := Tryz.sizeOf5
 v5 := Tryz.zeroValue5
 t9 := Tryz.underlying9
 a9 := Tryz.isAgg9
 z9 := Tryz.sizeOf9
 v9 := Tryz.zeroValue9
 t22 := Tryz.underlying45
 a22 := Tryz.isAgg45
 z22 := Tryz.sizeOf45
 v22 := Tryz.zeroValue45
 a24 := Tryz.isAgg57
 z24 := Tryz.sizeOf57
 t25 := Tryz.underlying60
 a25 := Tryz.isAgg60
 z25 := Tryz.sizeOf60
 v25 := Tryz.zeroValue60
 t39 := Tryz.underlying99
 a39 := Tryz.isAgg99
 z39 := Tryz.sizeOf99
 v39 := Tryz.zeroValue99
 t45 := Tryz.underlying127
 a45 := Tryz.isAgg127
 z45 := Tryz.sizeOf127
 v45 := Tryz.zeroValue127
 t46 := Tryz.underlying128
 a46 := Tryz.isAgg128
 z46 := Tryz.sizeOf128
 v46 := Tryz.zeroValue128
 t50 := Tryz.underlying111
 a50 := Tryz.isAgg111
 z50 := Tryz.sizeOf111
 v50 := Tryz.zeroValue111
 t53 := Tryz.underlying93
 a53 := Tryz.isAgg93
 z53 := Tryz.sizeOf93
 v53 := Tryz.zeroValue93
 t55 := Tryz.underlying92
 a55 := Tryz.isAgg92
 z55 := Tryz.sizeOf92
 v55 := Tryz.zeroValue92
 t66 := Tryz.underlying151
 a66 := Tryz.isAgg151
 z66 := Tryz.sizeOf151
 v66 := Tryz.zeroValue151
 t70 := Tryz.underlying155
 a70 := Tryz.isAgg155
 z70 := Tryz.sizeOf155
 v70 := Tryz.zeroValue155
 t76 := Tryz.underlying167
 a76 := Tryz.isAgg167
 z76 := Tryz.sizeOf167
 v76 := Tryz.zeroValue167
 t77 := Tryz.underlying168
 a77 := Tryz.isAgg168
 z77 := Tryz.sizeOf168
 v77 := Tryz.zeroValue168 }
end Go.Proofs

namespace Go.Mth
open Go.Ab
def hdL (l : List Int) : Int := l.getD 0 default
def insK (x : List Int) : List (List Int) → List (List Int)
 | [] => [x]
 | y :: l => if hdL x ≤ hdL y then x :: y :: l else y :: insK x l
def sortK (l : List (List Int)) : List (List Int) := l.foldr insK []
theorem insK_perm (x : List Int) : ∀ l, (insK x l).Perm (x :: l)
 | [] => List.Perm.refl _
 | y :: l => by
  rw [insK]
  split
  ·exact List.Perm.refl _
  ·exact ((insK_perm x l).cons y).trans (List.Perm.swap x y l)
theorem sortK_perm : ∀ l, (sortK l).Perm l
 | [] => List.Perm.refl _
 | x :: l => (insK_perm x _).trans ((sortK_perm l).cons x)
theorem insK_srt (x : List Int) : ∀ l : List (List Int), l.Pairwise (fun a b => hdL a ≤ hdL b) → (insK x l).Pairwise (fun a b => hdL a ≤ hdL b)
 | [], _ => by simp [insK]
 | y :: l, h => by
  obtain ⟨h1, h2⟩ := List.pairwise_cons.1 h
  rw [insK]
  split
  ·rename_i e
   refine List.pairwise_cons.2 ⟨fun b hb => ?_, h⟩
   rcases List.mem_cons.1 hb with q | q
   ·rw [q]; exact e
   ·have := h1 b q; omega
  ·rename_i e
   refine List.pairwise_cons.2 ⟨fun b hb => ?_, insK_srt x l h2⟩
   rcases List.mem_cons.1 ((insK_perm x l).mem_iff.1 hb) with q | q
   ·rw [q]; omega
   ·exact h1 b q
theorem sortK_srt : ∀ l : List (List Int), (sortK l).Pairwise (fun a b => hdL a ≤ hdL b)
 | [] => List.Pairwise.nil
 | x :: l => insK_srt x _ (sortK_srt l)
theorem sortK_uniq {l l' : List (List Int)} (hp : l'.Perm l) (hs : l'.Pairwise (fun a b => hdL a ≤ hdL b)) (hinj : ∀ a ∈ l, ∀ b ∈ l, hdL a = hdL b → a = b) : l' = sortK l :=
 List.Perm.eq_of_pairwise (fun a b ha hb h1 h2 => hinj a (hp.mem_iff.1 ha) b ((sortK_perm l).mem_iff.1 hb) (Int.le_antisymm h1 h2)) hs (sortK_srt l) (hp.trans (sortK_perm l).symm)
end Go.Mth
namespace Go.Ab
open Go.RowKit Go.Mth Go.Sort
abbrev TldV (H : Heap) : Type := { p : List Int × Value // p.1 ≠ [] ∧ RepV H (.sl 2 (gcells cW p.1)) noLoc p.2 }
theorem told_ex {H : Heap} : ∀ (ls : List (List Int)) (vs : List Value), RepL H (gcells cV ls) noLoc vs → (∀ l ∈ ls, l ≠ []) → ∃ ds : List (TldV H), ds.map (fun p => p.1.1) = ls ∧ ds.map (fun p => p.1.2) = vs
 | [], vs, h, _ => by
  simp only [gcells, List.flatMap_nil, RepL] at h
  exact ⟨[], rfl, by rw [h]; rfl⟩
 | l :: ls, vs, h, hne => by
  have h' : RepL H (AV.sl 2 (gcells cW l) :: gcells cV ls) noLoc vs := h
  rw [RepL] at h'
  obtain ⟨v, r, rfl, h1, h2⟩ := h'
  obtain ⟨ds, e1, e2⟩ := told_ex ls r h2 fun x hx => hne x (by simp [hx])
  exact ⟨⟨(l, v), hne l (by simp), h1⟩ :: ds, by simp [e1], by simp [e2]⟩
theorem told_rep {H : Heap} : ∀ ds : List (TldV H), RepL H (gcells cV (ds.map fun p => p.1.1)) noLoc (ds.map fun p => p.1.2)
 | [] => by simp [gcells, RepL]
 | p :: ds => by
  show RepL H (AV.sl 2 (gcells cW p.1.1) :: gcells cV (ds.map fun p => p.1.1)) noLoc (p.1.2 :: ds.map fun p => p.1.2)
  rw [RepL]
  exact ⟨_, _, rfl, p.2.2, told_rep ds⟩
theorem told_one {H : Heap} (p : TldV H) : p.1.2.oneCell' = true := by
 have h := p.2.2
 simp only [RepV] at h
 obtain ⟨A, n, cap, e, _⟩ := h
 rw [e]; rfl
theorem heap_putRow_other {α : Type} [Inhabited α] (enc : α → Value) (w : World) (g off : Nat) (d : Array α) {k : Nat} (hk : k ≠ g) : (putRow enc w g off d).heap[k]? = w.heap[k]? := by
 simp only [putRow, mapBlock, Array.getElem?_modify]
 rw [if_neg (fun e => hk e.symm)]
theorem heap_putRow_same {α : Type} [Inhabited α] (enc : α → Value) (w : World) (g off : Nat) (d : Array α) {cur : Array Value} {e : TypeId} {fr : Nat × Nat} (h : w.heap[g]? = some (.cells cur e fr)) : (putRow enc w g off d).heap[g]? = some (.cells (putCells enc off d cur) e fr) := by
 simp only [putRow, mapBlock, Array.getElem?_modify]
 rw [if_pos trivial, h]; rfl
theorem heap_grow {w : World} {os : Array Obj} {k : Nat} (hk : k < w.heap.size) : (grow w os).heap[k]? = w.heap[k]? := by
 simp only [grow]
 rw [Array.getElem?_append_left hk]
theorem SWO_hd {α : Type} (f : α → Int) : SWO (Proofs.ltOf fun x y => cmpZ (f x) (f y)) := by
 have e : ∀ x y : α, Proofs.ltOf (fun x y => cmpZ (f x) (f y)) x y = decide (f x < f y) := fun x y => by unfold Proofs.ltOf; exact decide_eq_decide.2 cmpZ_lt
 exact ⟨fun x => by rw [e]; simp, fun x y z h1 h2 => by rw [e] at *; simp at *; omega, fun x y z h1 h2 => by rw [e] at *; simp at *; omega⟩
end Go.Ab
namespace Go.Proofs.YtaeknciienkijaaGreatDoor
open Go Go.Ab Go.Mth Go.RowKit Go.Sort
def LessOk (f : FuncId) : Prop := ∀ a b : List Int, a ≠ [] → b ≠ [] → ECalls cx f [.sl 2 (gcells cW a), .sl 2 (gcells cW b)] (.lit (.int .i64 (cmpZ (hdL a) (hdL b))))
theorem cmp_lays {f : FuncId} (hf : LessOk f) {H : Heap} [Inhabited (TldV H)] {w : World} (hG : cx.G H) (hH : ∀ b o, H b = some o → w.heap[b]? = some o) {g off size : Nat} (hg : H g = none) :
  CmpLays1 Tryz.prog f #[] (fun p : TldV H => p.1.2) (fun x y => cmpZ (hdL x.1.1) (hdL y.1.1)) g off size w := fun mm os dk hdk x y => by
 have hW : ∀ b o, H b = some o → (sortWorld (fun p : TldV H => p.1.2) w g off mm dk os).heap[b]? = some o := fun b o hb => by
  have hlt := (Array.getElem?_eq_some_iff.1 (hH b o hb)).1
  have hne : b ≠ g := fun e => by rw [e, hg] at hb; cases hb
  unfold sortWorld
  rw [heap_grow (by rw [size_putRow]; exact hlt), heap_putRow_other _ _ _ _ _ hne]
  exact hH b o hb
 have h := hf x.1.1 y.1.1 x.2.1 y.2.1 H noLoc [x.1.2, y.1.2] _ hG hW (RepL.cons x.2.2 (RepL.cons y.2.2 (by simp [RepL])))
 refine Calls.mono h ?_
 rintro e w' ⟨H', v, rfl, hv, _, _, hb⟩
 simp only [RepV] at hv
 subst hv
 obtain ⟨p, hp⟩ := regrown_of_below hb.low
 refine ⟨rfl, p.d - (sortWorld (fun p : TldV H => p.1.2) w g off mm dk os).drawn, p.os, ?_⟩
 have hd := hb.drawn
 rw [hp] at hd ⊢
 have hd' : (sortWorld (fun p : TldV H => p.1.2) w g off mm dk os).drawn ≤ p.d := hd
 unfold World.drewN redrawn
 rw [Nat.add_sub_cancel' hd']
theorem c_sort (mk : List Deferred) {f : FuncId} (hf : LessOk f) (hfc : callable cx.P f = true) {n : Nat} {so : List (Nat × AV)} {m m' : List (Nat × AO)} (id : Nat) (ls : List (List Int)) (ho : lookO m id = some (.row 57 1 (gcells cV ls)))
  (hm : ∀ i, lookO m' i = if i = id then some (.row 57 1 (gcells cV (sortK ls))) else lookO m i) (hne : ∀ l ∈ ls, l ≠ []) (hinj : ∀ a ∈ ls, ∀ b ∈ ls, hdL a = hdL b → a = b) (hlen : ls.length ≤ 1000000) :
  SCalls { cx with marks := mk } n 20 [.row id, .clo f []] so m (.tup []) m' := by
 intro w0 H L a w vals hr hra
 simp only [RepL, RepV] at hra
 obtain ⟨v, _, rfl, ⟨hl, hv1⟩, _, _, rfl, ⟨vs0, rfl, rfl⟩, rfl⟩ := hra
 obtain ⟨v', vs, k, hl', hlen', hown, hrl, h1c, hsz, hmx, hH⟩ := hr.objs id _ ho
 rw [hl] at hl'
 cases hl'
 rw [gcells_len cV_len] at hlen'
 have hk : k = ls.length := by omega
 subst hk
 by_cases hls : ls = []
 ·subst hls
  have hv : ∃ p cap, v = .slice p 0 cap := by
   rcases hown.2 with ⟨rfl, _⟩ | ⟨g, cap, cur, rfl, _⟩
   ·exact ⟨none, 0, rfl⟩
   ·exact ⟨some ⟨g, 0, none⟩, cap, rfl⟩
  obtain ⟨p, cap, rfl⟩ := hv
  have h := AnyF.slices_SortFunc_none (P := Tryz.prog) (ρ := Tryz.sortW_ren) { Tryz.sortW with } p cap (.func (.func f) #[] #[]) w
  refine Calls.mono h ?_
  rintro e w' ⟨rfl, rfl⟩
  refine ⟨.tuple #[], H, L, rfl, Ext.refl _ _, by simp only [RepV]; exact ⟨[], rfl, by simp [RepL]⟩, ?_⟩
  exact hr.fewer (μ := lookO m') fun i o hi => by
   rw [hm i] at hi
   by_cases hid : i = id
   ·subst hid; rw [if_pos rfl] at hi; rw [← hi]; exact ho
   ·rw [if_neg hid] at hi; exact hi
 ·rcases hown.2 with ⟨rfl, hk0⟩ | ⟨g, cap, cur, rfl, hB, hh, hnc, hcm, hcs, htake⟩
  ·exact absurd (List.eq_nil_of_length_eq_zero hk0) hls
  obtain ⟨ds, e1, e2⟩ := told_ex ls vs hrl hne
  have hdl : ds.length = ls.length := by rw [← e1, List.length_map]
  obtain ⟨x0, _, hx0⟩ : ∃ x l, ds = x :: l := by
   cases ds with
   | nil => exact absurd (by rw [← e1]; rfl) hls
   | cons x l => exact ⟨x, l, rfl⟩
  haveI : Inhabited (TldV H) := ⟨x0⟩
  have hgn : H g = none := hH g rfl
  have hglt := (Array.getElem?_eq_some_iff.1 hh).1
  have hget : ∀ (j : Nat), j < ds.length → vs[j]? = some (ds.toArray[j]!).1.2 := fun j hj => by
   have e8 : ds.toArray[j]! = ds[j] := by
    rw [getElem!_pos ds.toArray j (by simpa using hj)]
    exact List.getElem_toArray _
   rw [← e2, List.getElem?_map, List.getElem?_eq_getElem hj, Option.map_some, e8]
  have hHd : Holds (fun p : TldV H => p.1.2) w g 0 ds.toArray := fun j hj => by
   have hj' : j < ds.length := by simpa using hj
   refine ⟨?_, by unfold World.frozen?; simp only [hh]; simp⟩
   unfold World.cell?
   simp only [hh]
   have := hget j hj'
   rw [← htake, List.getElem?_take] at this
   split at this
   ·simpa using this
   ·cases this
  have h := Any.slices_SortFunc (P := Tryz.prog) (ρ := Tryz.sortW_ren) Tryz.sortW (fun p : TldV H => p.1.2) told_one (fun x y => cmpZ (hdL x.1.1) (hdL y.1.1)) (SWO_hd fun p : TldV H => hdL p.1.1) f #[] g 0 cap ds.toArray w
   (fun args w => run_callFunc hfc args w) (cmp_lays hf hr.glob hr.heap hgn) hHd hglt (by have h9 : ds.toArray.size = ds.length := List.size_toArray; omega)
  have hsz2 : ds.toArray.size = ls.length := by simp [hdl]
  rw [hsz2] at h
  refine Calls.mono h ?_
  rintro e w' ⟨rfl, d', q, os, hp, hs, rfl⟩
  have hds : d'.size = ls.length := hp.1.trans hsz2
  have hp2 : d'.toList.Perm ds := by
   have := hp.2.2
   rw [show d'.extract 0 ls.length = d' by rw [← hds]; exact Array.extract_size, show ds.toArray.extract 0 ls.length = ds.toArray by rw [← hsz2]; exact Array.extract_size] at this
   exact this
  have hls' : d'.toList.map (fun p => p.1.1) = sortK ls := by
   refine sortK_uniq (by rw [← e1]; exact hp2.map _) ?_ hinj
   rw [List.pairwise_map, List.pairwise_iff_getElem]
   intro i j hi hj hij
   have h1 := hs i j (Nat.zero_le _) hij (by have h9 : j < d'.size := (by simpa using hj); omega)
   have e9 : ∀ x y : TldV H, Proofs.ltOf (fun x y => cmpZ (hdL x.1.1) (hdL y.1.1)) x y = decide (hdL x.1.1 < hdL y.1.1) := fun x y => by unfold Proofs.ltOf; exact decide_eq_decide.2 cmpZ_lt
   rw [e9] at h1
   have h2 := of_decide_eq_false h1
   have hi' : i < d'.size := by simpa using hi
   have hj' : j < d'.size := by simpa using hj
   rw [getElem!_pos d' i hi', getElem!_pos d' j hj'] at h2
   simp only [Array.getElem_toList]
   omega
  have hrl' := told_rep d'.toList
  rw [hls'] at hrl'
  have hsl : (sortK ls).length = ls.length := (sortK_perm ls).length_eq
  have hw1 := hr.wrote (ob' := .row 57 1 (gcells cV (sortK ls))) ho hl rfl (w' := putRow (fun p : TldV H => p.1.2) (Sort.ahead w q) g 0 d') (fun k hk => heap_putRow_other _ _ _ _ _ hk)
   ⟨rfl, rfl, rfl, by rw [size_putRow]; exact Nat.le_refl _, fun k hk => heap_putRow_other _ _ _ _ _ (by omega), Nat.le_add_right _ _⟩
   ⟨_, d'.toList.map (fun p => p.1.2), ls.length, hl, by rw [gcells_len cV_len, hsl], ⟨by rw [List.length_map, Array.length_toList, hds, Nat.mul_one], .inr ⟨g, cap, putCells (fun p : TldV H => p.1.2) 0 d' cur, rfl, hB, heap_putRow_same _ (Sort.ahead w q) _ _ _ hh, hnc, hcm, by simp [putCells, hcs], ?_⟩⟩, hrl', fun u hu => ?_, hsz, by rw [gcells_len cV_len, hsl]; rw [gcells_len cV_len] at hmx; exact hmx, hH⟩
  ·refine ⟨.tuple #[], H, L, rfl, Ext.refl _ _, by simp only [RepV]; exact ⟨[], rfl, by simp [RepL]⟩, ?_⟩
   have hg2 := hw1.grow (Ext.refl _ _) (w' := grow (putRow (fun p : TldV H => p.1.2) (Sort.ahead w q) g 0 d') os) (fun b o hb => by rw [heap_grow (Array.getElem?_eq_some_iff.1 (hw1.heap b o hb)).1]; exact hw1.heap b o hb)
    ⟨rfl, rfl, rfl, by simp [grow], fun k hk => heap_grow hk, Nat.le_refl _⟩
   exact hg2.fewer (μ := lookO m') fun i o hi => by
    rw [hm i] at hi
    exact hi
  ·apply List.ext_getElem?
   intro j
   rw [List.getElem?_take, List.getElem?_map]
   by_cases hj : j < ls.length * 1
   ·have hj2 : j < d'.size := by omega
    have hj3 : j < cur.size := by rw [hcs]; omega
    rw [if_pos hj]
    simp only [putCells, Array.getElem?_toList, Array.getElem?_mapIdx]
    rw [Array.getElem?_eq_getElem hj3, Array.getElem?_eq_getElem hj2]
    simp only [Option.map_some]
    rw [if_pos ⟨Nat.zero_le _, by omega⟩, Nat.sub_zero, getElem!_pos d' j hj2]
   ·rw [if_neg hj, Array.getElem?_toList, Array.getElem?_eq_none (by omega)]; rfl
  ·obtain ⟨p, _, rfl⟩ := List.mem_map.1 hu
   exact told_one p
end Go.Proofs.YtaeknciienkijaaGreatDoor

namespace Go.Mth
open Go.Ab
theorem iterZ_add (m : MapM) (x : Int) (a : Nat) : ∀ k, iterZ m k (iterZ m a x) = iterZ m (k + a) x
 | 0 => by rw [Nat.zero_add]; rfl
 | k + 1 => by rw [Nat.succ_add]; show stepZ m _ = stepZ m _; rw [iterZ_add m x a k]
theorem iterZ_per {m : MapM} {x : Int} {n : Nat} (h : iterZ m n x = x) (k : Nat) : iterZ m (k + n) x = iterZ m k x := by rw [← iterZ_add, h]
theorem iterZ_mul {m : MapM} {x : Int} {n : Nat} (h : iterZ m n x = x) : ∀ q, iterZ m (q * n) x = x
 | 0 => by rw [Nat.zero_mul]; rfl
 | q + 1 => by rw [Nat.succ_mul, iterZ_per h, iterZ_mul h q]
theorem iterZ_mod {m : MapM} {x : Int} {n : Nat} (h : iterZ m n x = x) (k : Nat) : iterZ m k x = iterZ m (k % n) x := by
 have e := Nat.div_add_mod k n
 have h2 := iterZ_add m x (n * (k / n)) (k % n)
 rw [Nat.mul_comm, iterZ_mul h] at h2
 rw [h2]; congr 1; rw [Nat.mul_comm]; omega
theorem rot_get {l : List Int} {a k : Nat} (ha : a ≤ l.length) (hk : k < l.length) : (rotL l a).getD k default = if a + k < l.length then l.getD (a + k) default else l.getD (a + k - l.length) default := by
 unfold rotL
 simp only [List.getD_eq_getElem?_getD]
 split
 ·rename_i h
  rw [List.getElem?_append_left (by rw [List.length_drop]; omega), List.getElem?_drop]
 ·rename_i h
  rw [List.getElem?_append_right (by rw [List.length_drop]; omega), List.length_drop, List.getElem?_take_of_lt (by omega)]
  congr 2; omega
theorem listI_ext {x y : List Int} (hl : x.length = y.length) (h : ∀ k, k < x.length → x.getD k default = y.getD k default) : x = y := by
 refine List.ext_getElem hl fun k h1 h2 => ?_
 have := h k h1
 simpa [List.getD_eq_getElem?_getD, List.getElem?_eq_getElem h1, List.getElem?_eq_getElem h2] using this
theorem cyc_orb {m : MapM} {x : Int} {n : Nat} (h : iterZ m n x = x) (hn : 0 < n) : cyc m x n = orbL m (iterZ m (leastI (orbL m x n) n) x) n := by
 have hl := orbL_len m x n
 have ha := least_lt (l := orbL m x n) (by omega) n (by omega)
 unfold cyc rotM
 rw [hl] at ha ⊢
 refine listI_ext (by rw [rot_len, hl, orbL_len]) fun k hk => ?_
 rw [rot_len, hl] at hk
 rw [rot_get (by omega) (by omega), hl, orbL_get hk, iterZ_add]
 split
 ·rename_i e; rw [orbL_get (by omega), Nat.add_comm]
 ·rename_i e
  rw [orbL_get (by omega), ← iterZ_per h]
  congr 1; omega
def hitW (m : MapM) (w : List Int) : Prop := firstP w ∧ (fixZ m w).den = 1
instance (m : MapM) (w : List Int) : Decidable (hitW m w) := inferInstanceAs (Decidable (firstP w ∧ (fixZ m w).den = 1))
def cyT (m : MapM) (n t : Nat) : List Int := cyc m (fixZ m (wordT m.mod.toNat n t)).num n
def lsT (m : MapM) (n t : Nat) : List (List Int) := ((List.range t).filter fun t => decide (hitW m (wordT m.mod.toNat n t))).map (cyT m n)
def lpN (m : MapM) (n : Nat) : List (List Int) := sortK (lsT m n (m.mod.toNat ^ n))
def cyU (m : MapM) : Nat → List (List Int)
 | 0 => []
 | k + 1 => cyU m k ++ lpN m (k + 1)
noncomputable def lpL (m : MapM) (k : Int) : List (List Int) := if chkE m k = 0 then cyU m k.toNat else []
theorem lsT_y {m : MapM} {n t : Nat} (h1 : firstP (wordT m.mod.toNat n t)) (h2 : (fixZ m (wordT m.mod.toNat n t)).den = 1) : lsT m n t ++ [cyT m n t] = lsT m n (t + 1) := by
 have h : hitW m (wordT m.mod.toNat n t) := ⟨h1, h2⟩
 unfold lsT
 rw [List.range_succ, List.filter_append, List.filter_cons, if_pos (decide_eq_true h), List.filter_nil, List.map_append]; rfl
theorem lsT_n {m : MapM} {n t : Nat} (h : ¬ (firstP (wordT m.mod.toNat n t) ∧ (fixZ m (wordT m.mod.toNat n t)).den = 1)) : lsT m n t = lsT m n (t + 1) := by
 have h : ¬ hitW m (wordT m.mod.toNat n t) := h
 unfold lsT
 rw [List.range_succ, List.filter_append, List.filter_cons, if_neg (by simp [h]), List.filter_nil, List.append_nil]
theorem lsT_len (m : MapM) (n t : Nat) : (lsT m n t).length ≤ t := by
 unfold lsT
 rw [List.length_map]
 have := List.length_filter_le (fun t => decide (hitW m (wordT m.mod.toNat n t))) (List.range t)
 rw [List.length_range] at this
 exact this
theorem lpN_len (m : MapM) (n : Nat) : (lpN m n).length ≤ m.mod.toNat ^ n := by unfold lpN; rw [(sortK_perm _).length_eq]; exact lsT_len _ _ _
structure Loo (m : MapM) (n : Nat) (l : List Int) : Prop where
 pos : 0 < n
 back : iterZ m n (hdL l) = hdL l
 orb : l = orbL m (hdL l) n
 low : ∀ i, i < n → hdL l ≤ iterZ m i (hdL l)
 alone : ∀ i, 0 < i → i < n → iterZ m i (hdL l) ≠ hdL l
 fit : Fit (hdL l)
theorem valW_pos_rot {m : MapM} (hm : OkM m) {x : Int} {n d : Nat} (h : iterZ m n x = x) (hd : d ≤ n) : rotL (wordZ m x n) d = wordZ m (iterZ m d x) n := by
 have hl := wordZ_len m x n
 refine list_extZ (by rw [rot_len, wordZ_len, wordZ_len]) fun k hk => ?_
 rw [rot_len, hl] at hk
 have h1 := rot_get (l := wordZ m x n) (a := d) (k := k) (by omega) (by omega)
 rw [show (default : Int) = 0 from rfl] at h1
 rw [h1, hl, wordZ_get m _ _ k hk, iterZ_add]
 split
 ·rw [wordZ_get m _ _ _ (by omega), Nat.add_comm]
 ·rw [wordZ_get m _ _ _ (by omega), ← iterZ_per h]
  congr 2; omega
theorem first_alone {m : MapM} (hm : OkM m) {x : Int} {n : Nat} (h : iterZ m n x = x) (hf : firstP (wordZ m x n)) : ∀ i, 0 < i → i < n → iterZ m i x ≠ x := fun i h1 h2 e => by
 have h3 := (first_val hm (wordZ_is hm x n)).1 hf i (by rw [wordZ_len]; exact h2) h1
 rw [valW_pos_rot hm h (by omega), e] at h3
 exact absurd h3 (Int.lt_irrefl _)
theorem iter_alone {m : MapM} {x : Int} {n : Nat} (h : iterZ m n x = x) (ha : ∀ i, 0 < i → i < n → iterZ m i x ≠ x) {a : Nat} (hn : a < n) : ∀ i, 0 < i → i < n → iterZ m i (iterZ m a x) ≠ iterZ m a x := fun i h1 h2 e => by
 refine ha i h1 h2 ?_
 have e2 := congrArg (iterZ m (n - a)) e
 rw [iterZ_add, iterZ_add, iterZ_add, show n - a + a = n by omega, h, show n - a + i + a = i + n by omega, iterZ_per h] at e2
 exact e2
theorem hd_orb (m : MapM) (x : Int) {n : Nat} (hn : 0 < n) : hdL (orbL m x n) = x := by unfold hdL; rw [orbL_get hn]; rfl
theorem cyc_loo {m : MapM} (hm : OkM m) {x : Int} {n : Nat} (h : iterZ m n x = x) (hn : 0 < n) (hn2 : n ≤ 200) (ha : ∀ i, 0 < i → i < n → iterZ m i x ≠ x) {E : Nat} (hE : 6 ≤ E ∧ E ≤ 1000) (hx : x.natAbs < 10 ^ E) : Loo m n (cyc m x n) := by
 have hl := orbL_len m x n
 have hlt := least_lt (l := orbL m x n) (by omega) n (by omega)
 rw [hl] at hlt
 have hc := cyc_orb h hn
 have hh : hdL (cyc m x n) = iterZ m (leastI (orbL m x n) n) x := by rw [hc, hd_orb m _ hn]
 have hb : iterZ m n (iterZ m (leastI (orbL m x n) n) x) = iterZ m (leastI (orbL m x n) n) x := by rw [iterZ_add, Nat.add_comm, iterZ_per h]
 refine ⟨hn, by rw [hh]; exact hb, by rw [hh]; exact hc, fun i hi => ?_, fun i h1 h2 => by rw [hh]; exact iter_alone h ha hlt i h1 h2, ?_⟩
 ·rw [hh, iterZ_add, iterZ_mod h (i + leastI (orbL m x n) n)]
  have h3 := least_le (l := orbL m x n) n ((i + leastI (orbL m x n) n) % n) (Nat.mod_lt _ hn)
  rw [orbL_get hlt, orbL_get (Nat.mod_lt _ hn)] at h3
  exact h3
 ·rw [hh]
  exact fit_of_pow' (iter_abs hm hE.1 hx _) (by omega) (by omega)
theorem lsT_mem {m : MapM} (hm : OkM m) (hf : freeM m) {n t : Nat} (hn : 0 < n) (hn2 : n ≤ 100) {l : List Int} (h : l ∈ lsT m n t) : ∃ t', t' < t ∧ hitW m (wordT m.mod.toNat n t') ∧ l = cyT m n t' ∧ iterZ m n (fixZ m (wordT m.mod.toNat n t')).num = (fixZ m (wordT m.mod.toNat n t')).num ∧ wordZ m (fixZ m (wordT m.mod.toNat n t')).num n = wordT m.mod.toNat n t' ∧ Loo m n l := by
 obtain ⟨t', h1, rfl⟩ := List.mem_map.1 h
 obtain ⟨h2, h3⟩ := List.mem_filter.1 h1
 have h4 := of_decide_eq_true h3
 have hw := wordT_is hm n t'
 have hl := wordT_len m.mod.toNat n t'
 have hne : wordT m.mod.toNat n t' ≠ [] := fun e => by rw [e] at hl; simp at hl; omega
 obtain ⟨_, e1, e2⟩ := fix_int hm hf hw h4.2
 rw [hl] at e1 e2
 refine ⟨t', by simpa using h2, h4, rfl, e1, e2, cyc_loo hm e1 hn (by omega) (first_alone hm e1 (by rw [e2]; exact h4.1)) (E := 3 * n + 7) (by omega) ?_⟩
 obtain ⟨a1, _⟩ := redZ_abs (n := (lineZ m (wordT m.mod.toNat n t')).add) (line_ne hm hf hw hne)
 obtain ⟨l1, l2, l3⟩ := line_abs hm _ hw
 rw [hl] at l2
 exact Nat.lt_of_le_of_lt a1 l2
theorem loo_inj {m : MapM} {n : Nat} {a b : List Int} (ha : Loo m n a) (hb : Loo m n b) (h : hdL a = hdL b) : a = b := by rw [ha.orb, hb.orb, h]
theorem loo_len {m : MapM} {n : Nat} {l : List Int} (h : Loo m n l) : l.length = n := by rw [h.orb, orbL_len]
theorem loo_get {m : MapM} {n : Nat} {l : List Int} (h : Loo m n l) {i : Nat} (hi : i < n) : l.getD i default = iterZ m i (hdL l) := by
 have e := h.orb
 rw [congrArg (fun x : List Int => x.getD i default) e]
 exact orbL_get hi
theorem lsT_ne {m : MapM} (hm : OkM m) (hf : freeM m) {n t : Nat} (hn : 0 < n) (hn2 : n ≤ 100) : ∀ l ∈ lsT m n t, l ≠ [] := fun l hl e => by
 obtain ⟨_, _, _, _, _, _, h⟩ := lsT_mem hm hf hn hn2 hl
 have := loo_len h
 rw [e] at this; simp at this; omega
theorem lsT_inj {m : MapM} (hm : OkM m) (hf : freeM m) {n t : Nat} (hn : 0 < n) (hn2 : n ≤ 100) : ∀ a ∈ lsT m n t, ∀ b ∈ lsT m n t, hdL a = hdL b → a = b := fun a ha b hb e => by
 obtain ⟨_, _, _, _, _, _, h1⟩ := lsT_mem hm hf hn hn2 ha
 obtain ⟨_, _, _, _, _, _, h2⟩ := lsT_mem hm hf hn hn2 hb
 exact loo_inj h1 h2 e
theorem lpN_loo {m : MapM} (hm : OkM m) (hf : freeM m) {n : Nat} (hn : 0 < n) (hn2 : n ≤ 100) {l : List Int} (h : l ∈ lpN m n) : Loo m n l := by
 obtain ⟨_, _, _, _, _, _, h1⟩ := lsT_mem hm hf hn hn2 ((sortK_perm _).mem_iff.1 h)
 exact h1
theorem getD_memL {l : List (List Int)} {i : Nat} (h : i < l.length) : l.getD i default ∈ l := by rw [List.getD_eq_getElem?_getD, List.getElem?_eq_getElem h]; exact List.getElem_mem h
theorem loo_dig {m : MapM} (hm : OkM m) {n : Nat} (hn2 : n ≤ 100) {l : List Int} (h : Loo m n l) {i : Nat} (hi : i < n) : (digs (l.getD i default).natAbs).length ≤ 1000 := by
 rw [loo_get h hi]
 have := iter_len hm (hdL l) i
 have := fit_len h.fit
 omega
theorem cyU_len (m : MapM) (hm : OkM m) : ∀ k, (cyU m k).length ≤ k * m.mod.toNat ^ k
 | 0 => by simp [cyU]
 | k + 1 => by
  have h1 := cyU_len m hm k
  have h2 := lpN_len m (k + 1)
  have h3 : m.mod.toNat ^ k ≤ m.mod.toNat ^ (k + 1) := Nat.pow_le_pow_right (by have := hm.1; omega) (by omega)
  have h4 := Nat.mul_le_mul_left k h3
  rw [cyU, List.length_append, Nat.succ_mul]
  omega
theorem toNat_pw {m : MapM} (hM : OkM m) (k : Nat) : ((m.mod.toNat ^ k : Nat) : Int) = m.mod ^ k := by rw [Int.natCast_pow, Int.toNat_of_nonneg (by have := hM.1; omega)]
theorem lpL_no {m : MapM} {k : Int} (h : chkE m k ≠ 0) : lpL m k = [] := if_neg h
theorem lpL_ok {m : MapM} {k : Int} (h : chkE m k = 0) : lpL m k = cyU m k.toNat := if_pos h
theorem ns_rep (n : Nat) : ns .i64 (List.replicate n 0) = is .i64 (List.replicate n (0 : Int)) := by simp [ns, is, nm, im]
theorem wordT_0 (M : Nat) : ∀ n, wordT M n 0 = List.replicate n (0 : Int)
 | 0 => rfl
 | n + 1 => by rw [wordT, Nat.zero_div, wordT_0 M n, Nat.zero_mod, List.replicate_succ']; rfl
theorem next_tot {m : MapM} (hm : OkM m) {n t q : Nat} {w : List Int} (h : nextP m n t w q) (hq : ¬ q < n) (ht : (t : Int) < m.mod ^ n) : t + 1 = m.mod.toNat ^ n := by
 have h3 := h.2.2.1
 have e : q = n := by omega
 subst e
 have h1 := next_n hm h ht
 have h2 := toNat_pw hm q
 omega
theorem out_s {A L : List (List Int)} {i q : Nat} (hi : i < L.length) (hq : (L.getD i default).length ≤ q) : (A ++ L.take i) ++ [(L.getD i default).take q] = A ++ L.take (i + 1) := by
 rw [List.take_of_length_le hq, List.append_assoc, List.take_add_one, List.getD_eq_getElem?_getD, List.getElem?_eq_getElem hi]; rfl
theorem strs_take {l : List Int} {q : Nat} (hq : q < l.length) : sbs ((l.take q).map txt) ++ [.lit (.string (txt (l.getD q default)))] = sbs ((l.take (q + 1)).map txt) := by
 rw [List.take_add_one, List.getD_eq_getElem?_getD, List.getElem?_eq_getElem hq]
 unfold sbs
 rw [List.map_append, List.map_append]; rfl
theorem row_is' {e : TypeId} {k : IntKind} {xs ys : List Int} (h : xs = ys) : (some (AO.row e 1 (is k xs)) : Option AO) = some (AO.row e 1 (is k ys)) := by rw [h]
theorem row_start (e : TypeId) (M n : Nat) : (some (AO.row e 1 (ns .i64 (List.replicate n 0))) : Option AO) = some (AO.row e 1 (is .i64 (wordT M n 0))) := by rw [ns_rep, wordT_0]
end Go.Mth

namespace Go.Proofs.YtaeknciienkijaaGreatDoor
open Go Go.Ab Go.Mth
theorem c_words (m : MapM) (n : Nat) : ECallsW cx 14 [mapV m, nm .i64 n] 38 3 [nm .i64 n] 28 [Iv m.mod, Lv m.mul, Lv m.add] := by
 refine ecallsW_of_awp Tryz.func14 (c := _) rfl (Nat.le_of_ble_eq_true rfl) rfl rfl ?_
 show awp cx 6 _ (postW cx Tryz.f14 _ _ _ _ _) ⟨[(0, mapV m), (1, nm .i64 n)], []⟩
 refine awp_seq fun K0 hK0 => awp_region rfl ?_
 refine o_box 2 [Iv m.mod, Lv m.mul, Lv m.add] gn rfl rfl ?_
 refine o_box 3 [Nv n] gn rfl rfl ?_
 refine o_as (.lit .nilFunc) rfl (aops_end (hK0 _ (awp_seq fun K1 hK1 => awp_region rfl ?_)))
 refine o_makeFunc [.ref 3 0, .ref 2 0] gn rfl ?_
 refine o_as (.clo 38 [.ref 3 0, .ref 2 0]) rfl (aops_end (hK1 _ ?_))
 refine awp_ret ?_
 exact ⟨4, 3, 2, rfl, by decide, rfl, rfl, rfl⟩

theorem c_lessE (a b : List Int) (ha : 0 < a.length) (hb : 0 < b.length) : ECalls cx 21 [.sl 2 (gcells cW a), .sl 2 (gcells cW b)] (.lit (.int .i64 (cmpZ (hdL a) (hdL b)))) := by
 refine ecalls_of_awp Tryz.func21 (c := _) rfl (Nat.le_of_ble_eq_true rfl) ?_
 show awp cx 12 _ (postF cx Tryz.f21 _) ⟨[(0, .sl 2 (gcells cW a)), (1, .sl 2 (gcells cW b))], []⟩
 refine awp_seq fun K0 hK0 => awp_region rfl (o_as (Nv 0) rfl (aops_end (hK0 _ (awp_seq fun K1 hK1 => awp_regionD rfl (o_mv (.sl 2 (gcells cW a)) rfl ?_)))))
 refine g_index cW a 0 cW_len rfl gn f111_ rfl rfl (by omega) ?_
 refine g_loadA cW a 0 default cW_len gn f20_ rfl (by omega) ?_
 refine o_mv (.sl 2 (gcells cW b)) rfl ?_
 refine g_index cW b 0 cW_len rfl gn f111_ rfl rfl (by omega) ?_
 refine g_loadA cW b 0 default cW_len gn f20_ rfl (by omega) ?_
 refine o_ct (c_wCmp (a.getD 0 default) (b.getD 0 default)) gn f115_ rfl ?_
 refine o_as (Iv (cmpZ (a.getD 0 default) (b.getD 0 default))) rfl ?_
 refine aops_end ⟨by kernel_rfl, ?_⟩
 refine hK1 _ ?_
 refine awp_ret ?_
 refine post_ret ⟨[Iv (cmpZ (a.getD 0 default) (b.getD 0 default))], ⟨AV.le_refl _, trivial⟩, rfl, ?_⟩
 rfl

theorem c_less : LessOk 21 := fun a b ha hb => c_lessE a b (List.length_pos_iff.2 ha) (List.length_pos_iff.2 hb)
end Go.Proofs.YtaeknciienkijaaGreatDoor

namespace Go.Proofs.YtaeknciienkijaaGreatDoor
open Go Go.Ab Go.Mth
theorem f117_ : tyZero cx.P 45 = some [Go.Value.slice none 0 0] := by kernel_rfl
theorem f118_ : callable cx.P 14 = true := by kernel_rfl
theorem f119_ : callable cx.P 38 = true := by kernel_rfl
theorem f120_ : callable cx.P 15 = true := by kernel_rfl
theorem f121_ : tySc cx.P 45 = true := by kernel_rfl
theorem f122_ : callable cx.P 19 = true := by kernel_rfl
theorem f123_ : tyElem cx.P 45 = some (57, 1, 24) := by kernel_rfl
theorem f124_ : tyZero cx.P 57 = some [Go.Value.slice none 0 0] := by kernel_rfl
theorem f125_ : tySize cx.P 45 = some 1 := by kernel_rfl
theorem f126_ : callable cx.P 21 = true := by kernel_rfl
theorem f127_ : callable cx.P 20 = true := by kernel_rfl
theorem f128_ : cx.P.underlying 45 = some (.slice 57) := by kernel_rfl
theorem f129_ : tySc cx.P 57 = true := by kernel_rfl
theorem f130_ : tyElem cx.P 35 = some (9, 1, 16) := by kernel_rfl
theorem f131_ : tyZero cx.P 9 = some [(Go.Value.string {data := #[]})] := by kernel_rfl
theorem f132_ : tyPlaces cx.P 41 = some (fun i => (#[(0, 1)] : Array (Nat × Nat))[i]?) := by kernel_rfl
theorem f133_ : tyZero cx.P 41 = some [Go.Value.slice none 0 0] := by kernel_rfl
theorem f134_ : tyElem cx.P 22 = some (41, 1, 24) := by kernel_rfl
theorem c_Loops (m : MapM) (k : Int) (hkb : k ≤ 9223372036854775807) : ECalls cx 4 [mapV m, Iv k] (.tup [.sl 1 (gcells cP (lpL m k)), nm .i64 (chkE m k)]) := by
 refine ecalls_of_awpM Tryz.func4 (c := _) rfl (Nat.le_of_ble_eq_true rfl) ?_
 show awpM cx 97 _ (postF cx Tryz.f4 _) ⟨[(0, mapV m), (1, Iv k)], []⟩
 refine awpM_seq fun K0 hK0 => ?_
 refine awpM_lift fun mk => ?_
 refine awp_region rfl ?_
 refine o_box 2 [Iv m.mod, Lv m.mul, Lv m.add] gn rfl rfl ?_
 refine o_as Zv rfl (o_as (Nv 0) rfl (aops_end (hK0 _ ?_)))
 refine awpM_seq fun K1 hK1 => ?_
 refine awpM_lift fun mk => ?_
 refine awp_block ?_
 refine awp_seq fun K2 hK2 => awp_region rfl ?_
 refine o_loadA [Iv m.mod, Lv m.mul, Lv m.add] gn f64_ rfl rfl rfl rfl rfl ?_
 refine o_ct (c_sValid m) gn f102_ rfl ?_
 refine o_not (b := okM m) gn rfl ?_
 refine o_as (.lit (.bool (!(okM m)))) rfl (aops_end (hK2 _ ?_))
 refine awp_condB (b := !(okM m)) rfl (fun h1 => ?_) (fun h1 => ?_)
 ·have hm' : ¬ okM m = true := by simpa using h1
  refine awp_seq fun K3 hK3 => awp_region rfl (o_as Zv rfl (o_as (Nv 1) rfl (aops_end (hK3 _ ?_))))
  refine awp_ret ?_
  refine post_ret ⟨[.sl 1 (gcells cP ([])), Nv 1], ⟨(AV.le_nil' (by decide) (by first | rfl | simp [digs_zero, ns, is])), AV.le_refl _, trivial⟩, rfl, ?_⟩
  first | exact tup_eq2 (gs_as (lpL_no (by rw [chk_1 hm']; decide))) (congrArg (nm _) (chk_1 hm')) | exact tup_eq2 (gs_as (lpL_no (by rw [chk_2 hm' (fun e => absurd e.1 (by assumption))]; decide))) (congrArg (nm _) (chk_2 hm' (fun e => absurd e.1 (by assumption)))) | exact tup_eq2 (gs_as (lpL_no (by rw [chk_2 hm' (fun e => absurd e.2.1 (by omega))]; decide))) (congrArg (nm _) (chk_2 hm' (fun e => absurd e.2.1 (by omega)))) | exact tup_eq2 (gs_as (lpL_no (by rw [chk_2 hm' (may_big hM (i := i) (by omega) (by omega))]; decide))) (congrArg (nm _) (chk_2 hm' (may_big hM (i := i) (by omega) (by omega)))) | (have hjk : k.toNat = j := (by omega); exact tup_eq2 (gs_as ((lpL_ok (chk_0 hm' hmy)).trans (by rw [hjk]))) (congrArg (nm _) (chk_0 hm' hmy)))
 ·have hm' : okM m = true := by simpa using h1
  have hM := okM_iff.1 hm'
  have hM2 := hM
  obtain ⟨o1, o2, o3, o4, o5⟩ := hM2
  refine awp_seq fun K4 hK4 => awp_region rfl ?_
  refine o_loadA [Iv m.mod, Lv m.mul, Lv m.add] gn f64_ rfl rfl rfl rfl rfl ?_
  refine o_ct (c_sFree m (by first | assumption | exact okM_iff.1 (by assumption))) gn f103_ rfl ?_
  refine o_notP (q := freeM m) gn rfl ?_
  refine o_mv (bp (¬ (freeM m))) rfl ?_
  refine o_splitP (q := ¬ (freeM m)) 26 rfl (fun h2 => ?_) (fun h2 => ?_)
  ·refine o_skip rfl rfl (decide_eq_true h2) (o_skip rfl rfl (decide_eq_true h2) ?_)
   refine o_pickT Tv gn rfl (decide_eq_true h2) rfl ?_
   refine o_as Tv rfl (aops_end (hK4 _ ?_))
   refine awp_condB (b := true) rfl (fun _ => ?_) (fun hh => absurd (hh.symm.trans rfl) (by decide))
   refine awp_seq fun K5 hK5 => awp_region rfl (o_as Zv rfl (o_as (Nv 2) rfl (aops_end (hK5 _ ?_))))
   refine awp_ret ?_
   refine post_ret ⟨[.sl 1 (gcells cP ([])), Nv 2], ⟨(AV.le_nil' (by decide) (by first | rfl | simp [digs_zero, ns, is])), AV.le_refl _, trivial⟩, rfl, ?_⟩
   first | exact tup_eq2 (gs_as (lpL_no (by rw [chk_1 hm']; decide))) (congrArg (nm _) (chk_1 hm')) | exact tup_eq2 (gs_as (lpL_no (by rw [chk_2 hm' (fun e => absurd e.1 (by assumption))]; decide))) (congrArg (nm _) (chk_2 hm' (fun e => absurd e.1 (by assumption)))) | exact tup_eq2 (gs_as (lpL_no (by rw [chk_2 hm' (fun e => absurd e.2.1 (by omega))]; decide))) (congrArg (nm _) (chk_2 hm' (fun e => absurd e.2.1 (by omega)))) | exact tup_eq2 (gs_as (lpL_no (by rw [chk_2 hm' (may_big hM (i := i) (by omega) (by omega))]; decide))) (congrArg (nm _) (chk_2 hm' (may_big hM (i := i) (by omega) (by omega)))) | (have hjk : k.toNat = j := (by omega); exact tup_eq2 (gs_as ((lpL_ok (chk_0 hm' hmy)).trans (by rw [hjk]))) (congrArg (nm _) (chk_0 hm' hmy)))
  ·refine o_move (Iv k) (Gd.yes rfl rfl (decide_eq_false h2)) rfl ?_
   refine o_lss (a := k) (c := ((1 : Nat) : Int)) (Gd.yes rfl rfl (decide_eq_false h2)) rfl rfl ?_
   refine o_pickF (bp (k < ((1 : Nat) : Int))) gn rfl (decide_eq_false h2) rfl ?_
   refine o_as (bp (k < ((1 : Nat) : Int))) rfl (aops_end (hK4 _ ?_))
   refine awp_condQ (q := k < ((1 : Nat) : Int)) rfl (fun h3 => ?_) (fun h3 => ?_)
   ·refine awp_seq fun K6 hK6 => awp_region rfl (o_as Zv rfl (o_as (Nv 2) rfl (aops_end (hK6 _ ?_))))
    refine awp_ret ?_
    refine post_ret ⟨[.sl 1 (gcells cP ([])), Nv 2], ⟨(AV.le_nil' (by decide) (by first | rfl | simp [digs_zero, ns, is])), AV.le_refl _, trivial⟩, rfl, ?_⟩
    first | exact tup_eq2 (gs_as (lpL_no (by rw [chk_1 hm']; decide))) (congrArg (nm _) (chk_1 hm')) | exact tup_eq2 (gs_as (lpL_no (by rw [chk_2 hm' (fun e => absurd e.1 (by assumption))]; decide))) (congrArg (nm _) (chk_2 hm' (fun e => absurd e.1 (by assumption)))) | exact tup_eq2 (gs_as (lpL_no (by rw [chk_2 hm' (fun e => absurd e.2.1 (by omega))]; decide))) (congrArg (nm _) (chk_2 hm' (fun e => absurd e.2.1 (by omega)))) | exact tup_eq2 (gs_as (lpL_no (by rw [chk_2 hm' (may_big hM (i := i) (by omega) (by omega))]; decide))) (congrArg (nm _) (chk_2 hm' (may_big hM (i := i) (by omega) (by omega)))) | (have hjk : k.toNat = j := (by omega); exact tup_eq2 (gs_as ((lpL_ok (chk_0 hm' hmy)).trans (by rw [hjk]))) (congrArg (nm _) (chk_0 hm' hmy)))
   ·refine awp_skip (hK1 _ ?_)
    refine awpM_seq fun K7 hK7 => ?_
    refine awpM_seq fun K8 hK8 => ?_
    refine awpM_lift fun mk => ?_
    refine awp_region rfl (o_as (Nv 1) rfl ?_)
    refine n_as (v' := (Iv (m.mod ^ 0))) (by exact congrArg (fun z => AV.lit (.int .i64 z)) (Int.pow_zero _).symm) ?_
    refine o_as (Nv 0) rfl (aops_end (hK8 _ ?_))
    refine awpM_lift fun mk => ?_
    refine awp_block ?_
    refine awp_loopR (fun κ σ => ∃ (i : Nat), (((i : Nat) : Int) ≤ k) ∧ (m.mod ^ i ≤ 65536) ∧ ((k - ((i : Nat) : Int)).toNat) = κ ∧ σ = ⟨[(1, Iv k), (2, .ref 2 0), (6, Iv (m.mod ^ i)), (7, Nv i)], [(2, oM 28 m)]⟩) ⟨_, _, ⟨0, (by omega), (by rw [Int.pow_zero]; decide), rfl, rfl⟩, ?wk0⟩ ?rd0
    case wk0 =>
     exact Wk.sub ⟨rfl, rfl, (by first | rfl | exact int_eq (by omega) | exact int_nm (by omega)), (by first | rfl | exact nm_int (by omega)), trivial⟩ ⟨(by first | rfl | (first | exact row_gs' (lsT_y (Decidable.not_not.1 (by assumption)) (cmpZ_eq0.1 (by assumption))) | exact row_gs' (lsT_n (fun e => absurd e.1 (by assumption))) | exact row_gs' (lsT_n (fun e => absurd (cmpZ_eq0.2 e.2) (by assumption))) | exact row_gs' (out_s (by omega) (by rw [loo_len hlo]; omega)) | exact row_gs' (by rw [List.take_of_length_le (by omega)]; rfl) | exact row_gs' (by simp))), trivial⟩
    rintro κ _ ⟨i, hi, hb, rfl, rfl⟩
    have hpp : 0 < m.mod ^ i := Int.pow_pos (by omega)
    have hmb := Int.mul_le_mul hb o2 (show (0 : Int) ≤ m.mod by omega) (by decide)
    have hml := Int.mul_pos hpp (show 0 < m.mod by omega)
    refine awp_seq fun K9 hK9 => awp_seq fun K10 hK10 => awp_region rfl (o_mv (Nv i) rfl (o_mv (Iv k) rfl ?_))
    refine o_lss (a := ((i : Nat) : Int)) (c := k) gn rfl rfl ?_
    refine aops_end (hK10 _ ?_)
    refine awp_condQ (q := ((i : Nat) : Int) < k) rfl (fun h4 => ?_) (fun h4 => ?_)
    ·refine awp_skip (hK9 _ (awp_seq fun K11 hK11 => ?_))
     refine awp_block ?_
     refine awp_seq fun K12 hK12 => awp_region rfl (o_mv (Iv (m.mod ^ i)) rfl ?_)
     refine o_fieldRef 0 gn f62_ rfl rfl ?_
     refine o_loadS (Iv m.mod) gn f11_ rfl rfl rfl ?_
     refine o_mul (a := (m.mod ^ i)) (c := m.mod) gn rfl rfl (by exact wrap64 (by omega) (by omega)) ?_
     refine n_as (v' := (Iv (m.mod ^ (i + 1)))) (by exact congrArg (fun z => AV.lit (.int .i64 z)) (Int.pow_succ _ _).symm) ?_
     refine o_as (Iv (m.mod ^ (i + 1))) rfl (aops_end (hK12 _ (awp_seq fun K13 hK13 => awp_region rfl (o_mv (Iv (m.mod ^ (i + 1))) rfl ?_))))
     refine o_gtr (a := (m.mod ^ (i + 1))) (c := ((65536 : Nat) : Int)) gn rfl rfl ?_
     refine aops_end (hK13 _ ?_)
     refine awp_condQ (q := ((65536 : Nat) : Int) < (m.mod ^ (i + 1))) rfl (fun h5 => ?_) (fun h5 => ?_)
     ·refine awp_seq fun K14 hK14 => awp_region rfl (o_as Zv rfl (o_as (Nv 2) rfl (aops_end (hK14 _ ?_))))
      refine awp_ret ?_
      refine post_ret ⟨[.sl 1 (gcells cP ([])), Nv 2], ⟨(AV.le_nil' (by decide) (by first | rfl | simp [digs_zero, ns, is])), AV.le_refl _, trivial⟩, rfl, ?_⟩
      first | exact tup_eq2 (gs_as (lpL_no (by rw [chk_1 hm']; decide))) (congrArg (nm _) (chk_1 hm')) | exact tup_eq2 (gs_as (lpL_no (by rw [chk_2 hm' (fun e => absurd e.1 (by assumption))]; decide))) (congrArg (nm _) (chk_2 hm' (fun e => absurd e.1 (by assumption)))) | exact tup_eq2 (gs_as (lpL_no (by rw [chk_2 hm' (fun e => absurd e.2.1 (by omega))]; decide))) (congrArg (nm _) (chk_2 hm' (fun e => absurd e.2.1 (by omega)))) | exact tup_eq2 (gs_as (lpL_no (by rw [chk_2 hm' (may_big hM (i := i) (by omega) (by omega))]; decide))) (congrArg (nm _) (chk_2 hm' (may_big hM (i := i) (by omega) (by omega)))) | (have hjk : k.toNat = j := (by omega); exact tup_eq2 (gs_as ((lpL_ok (chk_0 hm' hmy)).trans (by rw [hjk]))) (congrArg (nm _) (chk_0 hm' hmy)))
     ·refine awp_skip (hK11 _ (awp_region rfl (o_mv (Nv i) rfl ?_)))
      refine n_add i 1 gn rfl rfl (by simp only [topOf]; omega) ?_
      refine o_as (Nv (i + 1)) rfl (aops_end ?_)
      refine ⟨_, _, ?lt, ⟨i + 1, (by omega), (by omega), rfl, rfl⟩, ?wk⟩
      case lt => omega
      case wk => exact Wk.sub ⟨rfl, rfl, (by first | rfl | exact int_eq (by omega) | exact int_nm (by omega)), (by first | rfl | exact nm_int (by omega)), trivial⟩ ⟨rfl, trivial⟩
    ·refine awp_exit ?_
     refine hK7 _ ?_
     refine awpM_seq fun K15 hK15 => ?_
     refine awpM_lift fun mk => ?_
     have hf : freeM m := Decidable.not_not.1 (show ¬ ¬ freeM m by assumption)
     have hk1 : 1 ≤ k := by omega
     have hmy : mayS m k := ⟨hf, hk1, by rw [show k.toNat = i by omega]; exact hb⟩
     have hk16 : k.toNat ≤ 16 := may_16 hM hmy.2.2
     refine awp_region rfl (o_as Zv rfl (aops_end (hK15 _ ?_)))
     refine awpM_seq fun K16 hK16 => ?_
     refine awpM_seq fun K17 hK17 => ?_
     refine awpM_lift fun mk => ?_
     refine awp_region rfl ?_
     refine o_alloc 101 [Nv 0] gn f26_ rfl rfl rfl ?_
     refine o_store [(101, .var 3 [Nv 1]), (2, oM 28 m)] gn f41_ rfl rfl rfl rfl rfl rfl ?_
     refine aops_end (hK17 _ ?_)
     refine awpM_block ?_
     refine awpM_loopR (fun κ σ => ∃ (j : Nat), (((j : Nat) : Int) ≤ k) ∧ ((k + 1 - ((j : Nat) : Int)).toNat) = κ ∧ σ = ⟨[(1, Iv k), (2, .ref 2 0), (8, .row 50), (9, .ref 20 0)], [(2, oM 28 m), (20, .var 3 [Nv (j + 1)]), (50, .row 41 1 (gcells cP (cyU m j)))]⟩) ⟨_, _, ⟨0, (by omega), rfl, rfl⟩, ?wk1⟩ ?rd1
     case wk1 =>
      exact fun mk => Wk.trans (Wk.newNil (i := 8) (id := 602) (e := 41) (sz := 1) rfl rfl (by decide)) (Wk.trans (Wk.sub (σ' := ⟨[(1, Iv k), (2, .ref 2 0), (8, .row 602), (9, .ref 101 0)], [(2, oM 28 m), (602, .row 41 1 (gcells cP ([]))), (101, .var 3 [Nv 1])]⟩) ⟨rfl, rfl, rfl, rfl, trivial⟩ ⟨rfl, rfl, rfl, trivial⟩) (Wk.trans (Wk.ren (id := 602) (id' := 50) rfl) (Wk.trans (Wk.ren (id := 101) (id' := 20) rfl) (Wk.sub ⟨rfl, rfl, (by first | rfl | simp), (by first | rfl | simp), trivial⟩ ⟨rfl, (by first | rfl | (first | exact row_gs' (lsT_y (Decidable.not_not.1 (by assumption)) (cmpZ_eq0.1 (by assumption))) | exact row_gs' (lsT_n (fun e => absurd e.1 (by assumption))) | exact row_gs' (lsT_n (fun e => absurd (cmpZ_eq0.2 e.2) (by assumption))) | exact row_gs' (out_s (by omega) (by rw [loo_len hlo]; omega)) | exact row_gs' (by rw [List.take_of_length_le (by omega)]; rfl) | exact row_gs' (by simp))), (by first | rfl | exact row_ns (by simp) | (first | exact row_gs' (lsT_y (Decidable.not_not.1 (by assumption)) (cmpZ_eq0.1 (by assumption))) | exact row_gs' (lsT_n (fun e => absurd e.1 (by assumption))) | exact row_gs' (lsT_n (fun e => absurd (cmpZ_eq0.2 e.2) (by assumption))) | exact row_gs' (out_s (by omega) (by rw [loo_len hlo]; omega)) | exact row_gs' (by rw [List.take_of_length_le (by omega)]; rfl) | exact row_gs' (by simp))), trivial⟩))))
     rintro κ _ ⟨j, hj, rfl, rfl⟩
     refine awpM_seq fun K18 hK18 => ?_
     refine awpM_seq fun K19 hK19 => ?_
     refine awpM_lift fun mk => ?_
     refine awp_region rfl ?_
     refine o_loadS (Nv (j + 1)) gn f11_ rfl rfl rfl ?_
     refine o_mv (Iv k) rfl ?_
     refine o_leq (a := ((j + 1 : Nat) : Int)) (c := k) gn rfl rfl ?_
     refine aops_end (hK19 _ ?_)
     refine awpM_lift fun mk => ?_
     refine awp_condQ (q := ((j + 1 : Nat) : Int) ≤ k) rfl (fun h6 => ?_) (fun h6 => ?_)
     ·refine awp_skip (hK18 _ ?_)
      refine awpM_seq fun K20 hK20 => ?_
      refine awpM_block ?_
      refine awpM_seq fun K21 hK21 => ?_
      refine awpM_lift fun mk => ?_
      have hpj : m.mod ^ (j + 1) ≤ 65536 := Int.le_trans (pow_le_of hM (j := (j + 1)) (k := k.toNat) (by omega)) hmy.2.2
      have hpp : 0 < m.mod ^ (j + 1) := Int.pow_pos (by omega)
      have hpl := lpN_len m (j + 1)
      have hpw := toNat_pw hM (j + 1)
      have hcu := cyU_len m hM j
      have hpj2 := pow_le_of hM (j := j) (k := (j + 1)) (by omega)
      have hpw2 := toNat_pw hM j
      have hcu2 := Nat.mul_le_mul (show j ≤ 16 by omega) (show m.mod.toNat ^ j ≤ 65536 by omega)
      refine awp_region rfl ?_
      refine o_alloc 201 [Zv] gn f117_ rfl rfl rfl ?_
      refine aops_end (hK21 _ ?_)
      refine awpM_seq fun K22 hK22 => ?_
      refine awpM_seq fun K23 hK23 => ?_
      refine awpM_lift fun mk => ?_
      refine awp_region rfl ?_
      refine o_loadA [Iv m.mod, Lv m.mul, Lv m.add] gn f64_ rfl rfl rfl rfl rfl ?_
      refine o_loadS (Nv (j + 1)) gn f11_ rfl rfl rfl ?_
      refine o_callW 8001 8002 [mapV m, Nv (j + 1)] gn f118_ rfl rfl rfl rfl (c_words m (j + 1)) rfl rfl ?_
      refine aops_end (hK23 _ ?_)
      refine awpM_block ?_
      refine awpM_wk (fun mk => Wk.nilIn (i := 201) (id := 61) (ty := 45) (e := 57) (sz := 1) rfl rfl (by decide)) ?_
      refine awpM_wk (σ' := ⟨[(1, Iv k), (2, .ref 2 0), (8, .row 50), (9, .ref 20 0), (10, .ref 201 0), (48, .clo 38 [.ref 8001 0, .ref 8002 0])], [(8001, .var 3 [Nv (j + 1)]), (8002, oM 28 m), (2, oM 28 m), (20, .var 3 [Nv (j + 1)]), (201, .var 45 [.row 61]), (61, .row 57 1 ([])), (50, .row 41 1 (gcells cP (cyU m j)))]⟩) (fun mk => Wk.sub ⟨rfl, rfl, rfl, rfl, rfl, rfl, trivial⟩ ⟨rfl, rfl, rfl, rfl, rfl, rfl, rfl, trivial⟩) ?_
      refine awpM_rangeG (C := cx) rfl (gf := 38) (fnI := Tryz.f38) (caps := [.ref 8001 0, .ref 8002 0]) (so := [(1, Iv k), (2, .ref 2 0), (8, .row 50), (9, .ref 20 0), (10, .ref 201 0), (48, .clo 38 [.ref 8001 0, .ref 8002 0])]) ⟨rfl, rfl, rfl, rfl, rfl, rfl, trivial⟩ Tryz.func38 rfl f119_ (by decide) rfl rfl rfl rfl rfl (fun fn tmps D l pe m' => pe = none ∧ m' = [(2, oM 28 m), (20, .var 3 [Nv (j + 1)]), (201, .var 45 [.row 61]), (61, .row 57 1 (gcells cV (lsT m (j + 1) (m.mod.toNat ^ (j + 1))))), (50, .row 41 1 (gcells cP (cyU m j)))]) ?it2 ?nx2
      case it2 =>
       intro ps' as' bo' e1' e2' e3' fn tmps D l hsz
       refine awp_wk (σ' := ⟨[(0, .lit (.func (.yield l) #[] #[])), (1, .ref 8001 0), (2, .ref 8002 0)], [(9001, .blk (.loop (lrec fn tmps ps' as' bo' D .ready none))), (9002, .blk (.deferred (some []))), (9003, pinA [(1, Iv k), (2, .ref 2 0), (8, .row 50), (9, .ref 20 0), (10, .ref 201 0), (48, .clo 38 [.ref 8001 0, .ref 8002 0])] tmps), (9004, pinL l D), (8001, .var 3 [Nv (j + 1)]), (8002, oM 28 m), (2, oM 28 m), (20, .var 3 [Nv (j + 1)]), (201, .var 45 [.row 61]), (61, .row 57 1 ([])), (50, .row 41 1 (gcells cP (cyU m j)))]⟩) (Wk.sub ⟨rfl, rfl, rfl, trivial⟩ ⟨rfl, rfl, rfl, rfl, rfl, rfl, rfl, rfl, rfl, rfl, rfl, trivial⟩) ?_
       refine awp_seq fun K24 hK24 => awp_region rfl ?_
       refine o_loadS (Nv (j + 1)) gn f11_ rfl rfl rfl ?_
       refine n_make 8003 (j + 1) gn f10_ f26_ rfl rfl (by omega) rfl rfl ?_
       refine o_as (.row 8003) rfl (aops_end (hK24 _ ?_))
       refine awp_block ?_
       refine awp_loopR (fun κ σ => ∃ (t : Nat), (((t : Nat) : Int) < m.mod ^ (j + 1)) ∧ ((m.mod ^ (j + 1)).toNat - t) = κ ∧ σ = ⟨[(0, .lit (.func (.yield l) #[] #[])), (1, .ref 8001 0), (2, .ref 8002 0), (4, .row 8003)], [(9001, .blk (.loop (lrec fn tmps ps' as' bo' D .ready none))), (9002, .blk (.deferred (some []))), (9003, pinA [(1, Iv k), (2, .ref 2 0), (8, .row 50), (9, .ref 20 0), (10, .ref 201 0), (48, .clo 38 [.ref 8001 0, .ref 8002 0])] tmps), (9004, pinL l D), (8001, .var 3 [Nv (j + 1)]), (8002, oM 28 m), (2, oM 28 m), (20, .var 3 [Nv (j + 1)]), (201, .var 45 [.row 61]), (50, .row 41 1 (gcells cP (cyU m j))), (8003, .row 3 1 (is .i64 (wordT m.mod.toNat (j + 1) t))), (61, .row 57 1 (gcells cV (lsT m (j + 1) t)))]⟩) ⟨_, _, ⟨0, (by have : 0 < m.mod ^ (j + 1) := Int.pow_pos (by omega); omega), rfl, rfl⟩, ?wk3⟩ ?rd3
       case wk3 =>
        exact Wk.sub ⟨rfl, rfl, rfl, rfl, trivial⟩ ⟨rfl, rfl, rfl, rfl, rfl, rfl, rfl, rfl, rfl, rfl, (by first | rfl | exact row_ns (by simp) | (first | exact row_is' (next_y hM hnx (by omega) (fun e => by omega)).1 | exact row_gs' (congrArg (lsT m (j + 1)) (next_tot hM hnx (by omega) ht)) | exact row_start _ _ _)), (by first | rfl | exact row_ns (by simp) | (first | exact row_is' (next_y hM hnx (by omega) (fun e => by omega)).1 | exact row_gs' (congrArg (lsT m (j + 1)) (next_tot hM hnx (by omega) ht)) | exact row_start _ _ _)), trivial⟩
       rintro κ _ ⟨t, ht, rfl, rfl⟩
       refine awp_block ?_
       refine awp_seq fun K25 hK25 => awp_seq fun K26 hK26 => ?_
       refine awp_regionYK 2 10 _ _ _ _ _ _ l [.row 8003] rfl rfl ?_
       refine o_mv (.lit (.func (.yield l) #[] #[])) rfl (o_mv (.row 8003) rfl ?_)
       refine aops_end ⟨⟨[(8, .lit (.func (.yield l) #[] #[])), (9, .row 8003), (0, .lit (.func (.yield l) #[] #[])), (1, .ref 8001 0), (2, .ref 8002 0), (4, .row 8003)], [(9001, .blk (.loop (lrec fn tmps ps' as' bo' D .ready none))), (9002, .blk (.deferred (some []))), (9003, pinA [(1, Iv k), (2, .ref 2 0), (8, .row 50), (9, .ref 20 0), (10, .ref 201 0), (48, .clo 38 [.ref 8001 0, .ref 8002 0])] tmps), (9004, pinL l D), (8001, .var 3 [Nv (j + 1)]), (8002, oM 28 m), (2, oM 28 m), (20, .var 3 [Nv (j + 1)]), (201, .var 45 [.row 61]), (50, .row 41 1 (gcells cP (cyU m j))), (8003, .row 3 1 (is .i64 (wordT m.mod.toNat (j + 1) t))), (61, .row 57 1 (gcells cV (lsT m (j + 1) t)))]⟩, Wk.sub ⟨rfl, rfl, rfl, rfl, rfl, rfl, trivial⟩ ⟨rfl, rfl, rfl, rfl, rfl, rfl, rfl, rfl, rfl, rfl, rfl, rfl, trivial⟩, rfl, rfl, YldAt.mono (yldAt_of_roundG (so := [(1, Iv k), (2, .ref 2 0), (8, .row 50), (9, .ref 20 0), (10, .ref 201 0), (48, .clo 38 [.ref 8001 0, .ref 8002 0])]) (n := 97) (D' := D) (KN := fun mm => mm = [(9002, .blk (.deferred (some []))), (9003, pinA [(1, Iv k), (2, .ref 2 0), (8, .row 50), (9, .ref 20 0), (10, .ref 201 0), (48, .clo 38 [.ref 8001 0, .ref 8002 0])] tmps), (9004, pinL l D), (8001, .var 3 [Nv (j + 1)]), (8002, oM 28 m), (2, oM 28 m), (20, .var 3 [Nv (j + 1)]), (201, .var 45 [.row 61]), (50, .row 41 1 (gcells cP (cyU m j))), (8003, .row 3 1 (is .i64 (wordT m.mod.toNat (j + 1) t))), (61, .row 57 1 (gcells cV (lsT m (j + 1) (t + 1))))]) (KX := fun _ _ => False) rfl e1' e2' e3' hsz (by decide) rfl rfl rfl rfl rfl rfl fun us => ?rnd4) ?aft4⟩
       case rnd4 =>
        have hwl := wordT_len m.mod.toNat (j + 1) t
        have hW : OkW m (wordT m.mod.toNat (j + 1) t) := ⟨wordT_is hM _ _, by omega⟩
        have hne : (wordT m.mod.toNat (j + 1) t) ≠ [] := fun e => by rw [e] at hwl; simp at hwl
        obtain ⟨f1, f2⟩ := fix_len hM hf hW hne
        obtain ⟨l1, l2, l3⟩ := line_len hM (wordT m.mod.toNat (j + 1) t) hW.1
        have l4 := hW.2
        have l5 := len_subZ (lineZ m (wordT m.mod.toNat (j + 1) t)).div (lineZ m (wordT m.mod.toNat (j + 1) t)).mul
        have l6 := line_ne hM hf hW.1 hne
        have t1 := lsT_len m (j + 1) t
        have t2 : t < 65536 := by have := toNat_pw hM (j + 1); omega
        show awp cx 97 _ _ ⟨[(49, .row 8003), (1, Iv k), (2, .ref 2 0), (8, .row 50), (9, .ref 20 0), (10, .ref 201 0), (48, .clo 38 [.ref 8001 0, .ref 8002 0])], [(9005, .pin [.lit (.func (.yield l) #[] #[]), .row 8003, .lit (.func (.yield l) #[] #[]), .ref 8001 0, .ref 8002 0, .row 8003] us), (9001, .blk (.loop (lrec fn tmps ps' as' bo' D .ready none))), (9002, .blk (.deferred (some []))), (9003, pinA [(1, Iv k), (2, .ref 2 0), (8, .row 50), (9, .ref 20 0), (10, .ref 201 0), (48, .clo 38 [.ref 8001 0, .ref 8002 0])] tmps), (9004, pinL l D), (8001, .var 3 [Nv (j + 1)]), (8002, oM 28 m), (2, oM 28 m), (20, .var 3 [Nv (j + 1)]), (201, .var 45 [.row 61]), (50, .row 41 1 (gcells cP (cyU m j))), (8003, .row 3 1 (is .i64 (wordT m.mod.toNat (j + 1) t))), (61, .row 57 1 (gcells cV (lsT m (j + 1) t)))]⟩
        refine awp_region rfl (o_as (.row 8003) rfl (aops_end ?_))
        refine ⟨[(49, .row 8003), (1, Iv k), (2, .ref 2 0), (8, .row 50), (9, .ref 20 0), (10, .ref 201 0), (48, .clo 38 [.ref 8001 0, .ref 8002 0]), (11, .row 8003)], [(9005, .pin [.lit (.func (.yield l) #[] #[]), .row 8003, .lit (.func (.yield l) #[] #[]), .ref 8001 0, .ref 8002 0, .row 8003] us), (9002, .blk (.deferred (some []))), (9003, pinA [(1, Iv k), (2, .ref 2 0), (8, .row 50), (9, .ref 20 0), (10, .ref 201 0), (48, .clo 38 [.ref 8001 0, .ref 8002 0])] tmps), (9004, pinL l D), (8001, .var 3 [Nv (j + 1)]), (8002, oM 28 m), (2, oM 28 m), (20, .var 3 [Nv (j + 1)]), (201, .var 45 [.row 61]), (50, .row 41 1 (gcells cP (cyU m j))), (8003, .row 3 1 (is .i64 (wordT m.mod.toNat (j + 1) t))), (61, .row 57 1 (gcells cV (lsT m (j + 1) t)))], Wk.sub ⟨rfl, rfl, rfl, rfl, rfl, rfl, rfl, rfl, trivial⟩ ⟨rfl, rfl, rfl, rfl, rfl, rfl, rfl, rfl, rfl, rfl, rfl, rfl, rfl, trivial⟩, rfl, ?_⟩
        refine awp_block ?_
        refine awp_seq fun K27 hK27 => awp_seq fun K28 hK28 => awp_region rfl (o_mv (.row 8003) rfl ?_)
        refine o_callB [(8003, 1, is .i64 (wordT m.mod.toNat (j + 1) t))] [Lv (wordT m.mod.toNat (j + 1) t)] _ (.bool (decide (firstP (wordT m.mod.toNat (j + 1) t)))) gn f120_ rfl ⟨⟨_, rfl⟩, trivial⟩ rfl rfl (LeL.cons (AV.le_refl _) LeL.nil) (c_first (wordT m.mod.toNat (j + 1) t) (by first | (rw [wordT_len]; omega) | omega)) ?_
        refine o_notP (q := firstP (wordT m.mod.toNat (j + 1) t)) gn rfl ?_
        refine aops_end (hK28 _ ?_)
        refine awp_condQ (q := ¬ (firstP (wordT m.mod.toNat (j + 1) t))) rfl (fun h7 => ?_) (fun h7 => ?_)
        ·refine awp_exit ?_
         exact ⟨[(9002, .blk (.deferred (some []))), (9003, pinA [(1, Iv k), (2, .ref 2 0), (8, .row 50), (9, .ref 20 0), (10, .ref 201 0), (48, .clo 38 [.ref 8001 0, .ref 8002 0])] tmps), (9004, pinL l D), (8001, .var 3 [Nv (j + 1)]), (8002, oM 28 m), (2, oM 28 m), (20, .var 3 [Nv (j + 1)]), (201, .var 45 [.row 61]), (50, .row 41 1 (gcells cP (cyU m j))), (8003, .row 3 1 (is .i64 (wordT m.mod.toNat (j + 1) t))), (61, .row 57 1 (gcells cV (lsT m (j + 1) (t + 1))))], Wk.sub trivial ⟨rfl, rfl, rfl, rfl, rfl, rfl, rfl, rfl, rfl, rfl, rfl, rfl, (by first | rfl | exact row_ns (by simp) | (first | exact row_gs' (lsT_y (Decidable.not_not.1 (by assumption)) (cmpZ_eq0.1 (by assumption))) | exact row_gs' (lsT_n (fun e => absurd e.1 (by assumption))) | exact row_gs' (lsT_n (fun e => absurd (cmpZ_eq0.2 e.2) (by assumption))) | exact row_gs' (out_s (by omega) (by rw [loo_len hlo]; omega)) | exact row_gs' (by rw [List.take_of_length_le (by omega)]; rfl) | exact row_gs' (by simp))), trivial⟩, rfl, rfl, rfl⟩
        ·refine awp_skip (hK27 _ (awp_seq fun K29 hK29 => ?_))
         refine awp_wk (σ' := ⟨[(49, .row 8003), (1, Iv k), (2, .ref 2 0), (8, .row 50), (9, .ref 20 0), (10, .ref 201 0), (48, .clo 38 [.ref 8001 0, .ref 8002 0]), (11, .row 8003), (50, .row 8003), (51, bp (firstP (wordT m.mod.toNat (j + 1) t))), (52, bp (¬ (firstP (wordT m.mod.toNat (j + 1) t))))], [(9001, .blk (.loop (lrec fn tmps ps' as' bo' D .busy none))), (9005, .pin [.lit (.func (.yield l) #[] #[]), .row 8003, .lit (.func (.yield l) #[] #[]), .ref 8001 0, .ref 8002 0, .row 8003] us), (9002, .blk (.deferred (some []))), (9003, pinA [(1, Iv k), (2, .ref 2 0), (8, .row 50), (9, .ref 20 0), (10, .ref 201 0), (48, .clo 38 [.ref 8001 0, .ref 8002 0])] tmps), (9004, pinL l D), (8001, .var 3 [Nv (j + 1)]), (8002, oM 28 m), (2, oM 28 m), (20, .var 3 [Nv (j + 1)]), (201, .var 45 [.row 61]), (50, .row 41 1 (gcells cP (cyU m j))), (8003, .row 3 1 (is .i64 (wordT m.mod.toNat (j + 1) t))), (61, .row 57 1 (gcells cV (lsT m (j + 1) t)))]⟩) (Wk.sub ⟨rfl, rfl, rfl, rfl, rfl, rfl, rfl, rfl, rfl, rfl, rfl, trivial⟩ ⟨rfl, rfl, rfl, rfl, rfl, rfl, rfl, rfl, rfl, rfl, rfl, rfl, rfl, trivial⟩) ?_
         refine awp_regionSK 2 55 _ 16 [] _ _ _ _ _ [mapV m, .row 8003] (frW (fixZ m (wordT m.mod.toNat (j + 1) t))) [(9001, .blk (.loop (lrec fn tmps ps' as' bo' D .busy none))), (9005, .pin [.lit (.func (.yield l) #[] #[]), .row 8003, .lit (.func (.yield l) #[] #[]), .ref 8001 0, .ref 8002 0, .row 8003] us), (9002, .blk (.deferred (some []))), (9003, pinA [(1, Iv k), (2, .ref 2 0), (8, .row 50), (9, .ref 20 0), (10, .ref 201 0), (48, .clo 38 [.ref 8001 0, .ref 8002 0])] tmps), (9004, pinL l D), (8001, .var 3 [Nv (j + 1)]), (8002, oM 28 m), (2, oM 28 m), (20, .var 3 [Nv (j + 1)]), (201, .var 45 [.row 61]), (50, .row 41 1 (gcells cP (cyU m j))), (8003, .row 3 1 (is .i64 (wordT m.mod.toNat (j + 1) t))), (61, .row 57 1 (gcells cV (lsT m (j + 1) t)))] rfl rfl f106_ ?_
         refine o_loadA [Iv m.mod, Lv m.mul, Lv m.add] gn f64_ rfl rfl rfl rfl rfl ?_
         refine o_mv (.row 8003) rfl ?_
         refine aops_end ⟨rfl, rfl, ?sc5, ?_⟩
         case sc5 =>
          refine scalls_of_awpB 9014 Tryz.func16 (c := _) rfl (Nat.le_of_ble_eq_true rfl) rfl rfl rfl (fun us5 => ?_)
          show awp cx 17 _ (postS cx Tryz.f16 (frW (fixZ m (wordT m.mod.toNat (j + 1) t))) [(9001, .blk (.loop (lrec fn tmps ps' as' bo' D .busy none))), (9005, .pin [.lit (.func (.yield l) #[] #[]), .row 8003, .lit (.func (.yield l) #[] #[]), .ref 8001 0, .ref 8002 0, .row 8003] us), (9002, .blk (.deferred (some []))), (9003, pinA [(1, Iv k), (2, .ref 2 0), (8, .row 50), (9, .ref 20 0), (10, .ref 201 0), (48, .clo 38 [.ref 8001 0, .ref 8002 0])] tmps), (9004, pinL l D), (8001, .var 3 [Nv (j + 1)]), (8002, oM 28 m), (2, oM 28 m), (20, .var 3 [Nv (j + 1)]), (201, .var 45 [.row 61]), (50, .row 41 1 (gcells cP (cyU m j))), (8003, .row 3 1 (is .i64 (wordT m.mod.toNat (j + 1) t))), (61, .row 57 1 (gcells cV (lsT m (j + 1) t)))] 9014 [.row 8003, mapV m, .row 8003, Iv k, .ref 2 0, .row 50, .ref 20 0, .ref 201 0, .clo 38 [.ref 8001 0, .ref 8002 0], .row 8003, .row 8003, bp (firstP (wordT m.mod.toNat (j + 1) t)), bp (¬ (firstP (wordT m.mod.toNat (j + 1) t)))] us5) ⟨[(0, mapV m), (1, .row 8003)], [(9014, .pin [.row 8003, mapV m, .row 8003, Iv k, .ref 2 0, .row 50, .ref 20 0, .ref 201 0, .clo 38 [.ref 8001 0, .ref 8002 0], .row 8003, .row 8003, bp (firstP (wordT m.mod.toNat (j + 1) t)), bp (¬ (firstP (wordT m.mod.toNat (j + 1) t)))] us5), (9001, .blk (.loop (lrec fn tmps ps' as' bo' D .busy none))), (9005, .pin [.lit (.func (.yield l) #[] #[]), .row 8003, .lit (.func (.yield l) #[] #[]), .ref 8001 0, .ref 8002 0, .row 8003] us), (9002, .blk (.deferred (some []))), (9003, pinA [(1, Iv k), (2, .ref 2 0), (8, .row 50), (9, .ref 20 0), (10, .ref 201 0), (48, .clo 38 [.ref 8001 0, .ref 8002 0])] tmps), (9004, pinL l D), (8001, .var 3 [Nv (j + 1)]), (8002, oM 28 m), (2, oM 28 m), (20, .var 3 [Nv (j + 1)]), (201, .var 45 [.row 61]), (50, .row 41 1 (gcells cP (cyU m j))), (8003, .row 3 1 (is .i64 (wordT m.mod.toNat (j + 1) t))), (61, .row 57 1 (gcells cV (lsT m (j + 1) t)))]⟩
          refine awp_seq fun K30 hK30 => awp_region rfl ?_
          refine o_box 8004 [Iv m.mod, Lv m.mul, Lv m.add] gn rfl rfl ?_
          refine o_alloc 8005 [Fv, Zv, Fv, Zv] gn f88_ rfl rfl rfl ?_
          refine aops_end (hK30 _ (awp_seq fun K31 hK31 => ?_))
          refine awp_wk (σ' := ⟨[(0, mapV m), (1, .row 8003), (2, .ref 8004 0), (4, .ref 8005 0)], [(8005, .var 53 [Fv, Zv, Fv, Zv]), (8004, oM 28 m), (9014, .pin [.row 8003, mapV m, .row 8003, Iv k, .ref 2 0, .row 50, .ref 20 0, .ref 201 0, .clo 38 [.ref 8001 0, .ref 8002 0], .row 8003, .row 8003, bp (firstP (wordT m.mod.toNat (j + 1) t)), bp (¬ (firstP (wordT m.mod.toNat (j + 1) t)))] us5), (9001, .blk (.loop (lrec fn tmps ps' as' bo' D .busy none))), (9005, .pin [.lit (.func (.yield l) #[] #[]), .row 8003, .lit (.func (.yield l) #[] #[]), .ref 8001 0, .ref 8002 0, .row 8003] us), (9002, .blk (.deferred (some []))), (9003, pinA [(1, Iv k), (2, .ref 2 0), (8, .row 50), (9, .ref 20 0), (10, .ref 201 0), (48, .clo 38 [.ref 8001 0, .ref 8002 0])] tmps), (9004, pinL l D), (8001, .var 3 [Nv (j + 1)]), (8002, oM 28 m), (2, oM 28 m), (20, .var 3 [Nv (j + 1)]), (201, .var 45 [.row 61]), (50, .row 41 1 (gcells cP (cyU m j))), (8003, .row 3 1 (is .i64 (wordT m.mod.toNat (j + 1) t))), (61, .row 57 1 (gcells cV (lsT m (j + 1) t)))]⟩) (Wk.sub ⟨rfl, rfl, rfl, rfl, trivial⟩ ⟨rfl, rfl, rfl, rfl, rfl, rfl, rfl, rfl, rfl, rfl, rfl, rfl, rfl, rfl, rfl, rfl, trivial⟩) ?_
          refine awp_regionSK 2 8 _ 41 [] _ _ _ _ _ [mapV m, .row 8003] (linW (lineZ m (wordT m.mod.toNat (j + 1) t))) [(8005, .var 53 [Fv, Zv, Fv, Zv]), (8004, oM 28 m), (9014, .pin [.row 8003, mapV m, .row 8003, Iv k, .ref 2 0, .row 50, .ref 20 0, .ref 201 0, .clo 38 [.ref 8001 0, .ref 8002 0], .row 8003, .row 8003, bp (firstP (wordT m.mod.toNat (j + 1) t)), bp (¬ (firstP (wordT m.mod.toNat (j + 1) t)))] us5), (9001, .blk (.loop (lrec fn tmps ps' as' bo' D .busy none))), (9005, .pin [.lit (.func (.yield l) #[] #[]), .row 8003, .lit (.func (.yield l) #[] #[]), .ref 8001 0, .ref 8002 0, .row 8003] us), (9002, .blk (.deferred (some []))), (9003, pinA [(1, Iv k), (2, .ref 2 0), (8, .row 50), (9, .ref 20 0), (10, .ref 201 0), (48, .clo 38 [.ref 8001 0, .ref 8002 0])] tmps), (9004, pinL l D), (8001, .var 3 [Nv (j + 1)]), (8002, oM 28 m), (2, oM 28 m), (20, .var 3 [Nv (j + 1)]), (201, .var 45 [.row 61]), (50, .row 41 1 (gcells cP (cyU m j))), (8003, .row 3 1 (is .i64 (wordT m.mod.toNat (j + 1) t))), (61, .row 57 1 (gcells cV (lsT m (j + 1) t)))] rfl rfl f100_ ?_
          refine o_loadA [Iv m.mod, Lv m.mul, Lv m.add] gn f64_ rfl rfl rfl rfl rfl ?_
          refine o_mv (.row 8003) rfl ?_
          refine aops_end ⟨rfl, rfl, ?sc6, ?_⟩
          case sc6 =>
           refine scalls_of_awpB 9015 Tryz.func41 (c := _) rfl (Nat.le_of_ble_eq_true rfl) rfl rfl rfl (fun us6 => ?_)
           show awp cx 25 _ (postS cx Tryz.f41 (linW (lineZ m (wordT m.mod.toNat (j + 1) t))) [(8005, .var 53 [Fv, Zv, Fv, Zv]), (8004, oM 28 m), (9014, .pin [.row 8003, mapV m, .row 8003, Iv k, .ref 2 0, .row 50, .ref 20 0, .ref 201 0, .clo 38 [.ref 8001 0, .ref 8002 0], .row 8003, .row 8003, bp (firstP (wordT m.mod.toNat (j + 1) t)), bp (¬ (firstP (wordT m.mod.toNat (j + 1) t)))] us5), (9001, .blk (.loop (lrec fn tmps ps' as' bo' D .busy none))), (9005, .pin [.lit (.func (.yield l) #[] #[]), .row 8003, .lit (.func (.yield l) #[] #[]), .ref 8001 0, .ref 8002 0, .row 8003] us), (9002, .blk (.deferred (some []))), (9003, pinA [(1, Iv k), (2, .ref 2 0), (8, .row 50), (9, .ref 20 0), (10, .ref 201 0), (48, .clo 38 [.ref 8001 0, .ref 8002 0])] tmps), (9004, pinL l D), (8001, .var 3 [Nv (j + 1)]), (8002, oM 28 m), (2, oM 28 m), (20, .var 3 [Nv (j + 1)]), (201, .var 45 [.row 61]), (50, .row 41 1 (gcells cP (cyU m j))), (8003, .row 3 1 (is .i64 (wordT m.mod.toNat (j + 1) t))), (61, .row 57 1 (gcells cV (lsT m (j + 1) t)))] 9015 [.row 8003, mapV m, mapV m, .row 8003, .ref 8004 0, .ref 8005 0] us6) ⟨[(0, mapV m), (1, .row 8003)], [(9015, .pin [.row 8003, mapV m, mapV m, .row 8003, .ref 8004 0, .ref 8005 0] us6), (8005, .var 53 [Fv, Zv, Fv, Zv]), (8004, oM 28 m), (9014, .pin [.row 8003, mapV m, .row 8003, Iv k, .ref 2 0, .row 50, .ref 20 0, .ref 201 0, .clo 38 [.ref 8001 0, .ref 8002 0], .row 8003, .row 8003, bp (firstP (wordT m.mod.toNat (j + 1) t)), bp (¬ (firstP (wordT m.mod.toNat (j + 1) t)))] us5), (9001, .blk (.loop (lrec fn tmps ps' as' bo' D .busy none))), (9005, .pin [.lit (.func (.yield l) #[] #[]), .row 8003, .lit (.func (.yield l) #[] #[]), .ref 8001 0, .ref 8002 0, .row 8003] us), (9002, .blk (.deferred (some []))), (9003, pinA [(1, Iv k), (2, .ref 2 0), (8, .row 50), (9, .ref 20 0), (10, .ref 201 0), (48, .clo 38 [.ref 8001 0, .ref 8002 0])] tmps), (9004, pinL l D), (8001, .var 3 [Nv (j + 1)]), (8002, oM 28 m), (2, oM 28 m), (20, .var 3 [Nv (j + 1)]), (201, .var 45 [.row 61]), (50, .row 41 1 (gcells cP (cyU m j))), (8003, .row 3 1 (is .i64 (wordT m.mod.toNat (j + 1) t))), (61, .row 57 1 (gcells cV (lsT m (j + 1) t)))]⟩
           refine awp_seq fun K32 hK32 => awp_region rfl ?_
           refine o_box 8006 [Iv m.mod, Lv m.mul, Lv m.add] gn rfl rfl ?_
           refine o_alloc 8007 [Fv, Zv, Fv, Zv, Fv, Zv] gn f80_ rfl rfl rfl ?_
           refine aops_end (hK32 _ (awp_seq fun K33 hK33 => awp_region rfl ?_))
           refine o_ct (c_wOf (1 : Int) (by first | decide | omega) (by first | decide | omega)) gn f46_ rfl ?_
           refine o_ct (c_wOf (0 : Int) (by first | decide | omega) (by first | decide | omega)) gn f46_ rfl ?_
           refine o_ct (c_wOf (1 : Int) (by first | decide | omega) (by first | decide | omega)) gn f46_ rfl ?_
           refine o_build [(bp ((1 : Int) < 0)), (.sl 1 (ns .u32 (digs (1 : Int).natAbs))), (bp ((0 : Int) < 0)), (.sl 1 (ns .u32 (digs (0 : Int).natAbs))), (bp ((1 : Int) < 0)), (.sl 1 (ns .u32 (digs (1 : Int).natAbs)))] [(0, [(bp ((1 : Int) < 0)), (.sl 1 (ns .u32 (digs (1 : Int).natAbs)))]), (1, [(bp ((0 : Int) < 0)), (.sl 1 (ns .u32 (digs (0 : Int).natAbs)))]), (2, [(bp ((1 : Int) < 0)), (.sl 1 (ns .u32 (digs (1 : Int).natAbs)))])] gn f81_ f80_ rfl rfl rfl ?_
           refine o_alloc 8008 [Fv, Zv, Fv, Zv, Fv, Zv] gn f80_ rfl rfl rfl ?_
           refine o_store [(8008, (.var 88 [(bp ((1 : Int) < 0)), (.sl 1 (ns .u32 (digs (1 : Int).natAbs))), (bp ((0 : Int) < 0)), (.sl 1 (ns .u32 (digs (0 : Int).natAbs))), (bp ((1 : Int) < 0)), (.sl 1 (ns .u32 (digs (1 : Int).natAbs)))])), (8007, .var 88 [Fv, Zv, Fv, Zv, Fv, Zv]), (8006, oM 28 m), (9015, .pin [.row 8003, mapV m, mapV m, .row 8003, .ref 8004 0, .ref 8005 0] us6), (8005, .var 53 [Fv, Zv, Fv, Zv]), (8004, oM 28 m), (9014, .pin [.row 8003, mapV m, .row 8003, Iv k, .ref 2 0, .row 50, .ref 20 0, .ref 201 0, .clo 38 [.ref 8001 0, .ref 8002 0], .row 8003, .row 8003, bp (firstP (wordT m.mod.toNat (j + 1) t)), bp (¬ (firstP (wordT m.mod.toNat (j + 1) t)))] us5), (9001, .blk (.loop (lrec fn tmps ps' as' bo' D .busy none))), (9005, .pin [.lit (.func (.yield l) #[] #[]), .row 8003, .lit (.func (.yield l) #[] #[]), .ref 8001 0, .ref 8002 0, .row 8003] us), (9002, .blk (.deferred (some []))), (9003, pinA [(1, Iv k), (2, .ref 2 0), (8, .row 50), (9, .ref 20 0), (10, .ref 201 0), (48, .clo 38 [.ref 8001 0, .ref 8002 0])] tmps), (9004, pinL l D), (8001, .var 3 [Nv (j + 1)]), (8002, oM 28 m), (2, oM 28 m), (20, .var 3 [Nv (j + 1)]), (201, .var 45 [.row 61]), (50, .row 41 1 (gcells cP (cyU m j))), (8003, .row 3 1 (is .i64 (wordT m.mod.toNat (j + 1) t))), (61, .row 57 1 (gcells cV (lsT m (j + 1) t)))] gn f82_ rfl rfl rfl rfl rfl rfl ?_
           refine aops_end (hK33 _ (awp_seq fun K34 hK34 => awp_region rfl ?_))
           refine o_makeFunc [.ref 8006 0, .ref 8008 0] gn rfl ?_
           refine o_as (.clo 68 [.ref 8006 0, .ref 8008 0]) rfl (aops_end (hK34 _ (awp_seq fun K35 hK35 => awp_seq fun K36 hK36 => awp_region rfl (o_mv (.row 8003) rfl ?_))))
           refine o_lenRow ((wordT m.mod.toNat (j + 1) t).length) gn f2_ rfl rfl (by simp [is]) ?_
           refine o_mv (Nv 0) rfl (aops_end (hK36 _ ?_))
           refine awp_block ?_
           refine awp_loopR (fun κ σ => ∃ (v : Nat), ∃ (ln : LinZ), (v ≤ (wordT m.mod.toNat (j + 1) t).length) ∧ (ln = lineZ m ((wordT m.mod.toNat (j + 1) t).take v)) ∧ ((wordT m.mod.toNat (j + 1) t).length - v) = κ ∧ σ = ⟨[(2, .ref 8006 0), (4, .ref 8007 0), (5, .ref 8008 0), (6, .clo 68 [.ref 8006 0, .ref 8008 0]), (14, .row 8003), (15, Nv ((wordT m.mod.toNat (j + 1) t).length)), (16, Nv v)], [(9015, .pin [.row 8003, mapV m, mapV m, .row 8003, .ref 8004 0, .ref 8005 0] us6), (8005, .var 53 [Fv, Zv, Fv, Zv]), (8004, oM 28 m), (9014, .pin [.row 8003, mapV m, .row 8003, Iv k, .ref 2 0, .row 50, .ref 20 0, .ref 201 0, .clo 38 [.ref 8001 0, .ref 8002 0], .row 8003, .row 8003, bp (firstP (wordT m.mod.toNat (j + 1) t)), bp (¬ (firstP (wordT m.mod.toNat (j + 1) t)))] us5), (9001, .blk (.loop (lrec fn tmps ps' as' bo' D .busy none))), (9005, .pin [.lit (.func (.yield l) #[] #[]), .row 8003, .lit (.func (.yield l) #[] #[]), .ref 8001 0, .ref 8002 0, .row 8003] us), (9002, .blk (.deferred (some []))), (9003, pinA [(1, Iv k), (2, .ref 2 0), (8, .row 50), (9, .ref 20 0), (10, .ref 201 0), (48, .clo 38 [.ref 8001 0, .ref 8002 0])] tmps), (9004, pinL l D), (8001, .var 3 [Nv (j + 1)]), (8002, oM 28 m), (2, oM 28 m), (20, .var 3 [Nv (j + 1)]), (201, .var 45 [.row 61]), (50, .row 41 1 (gcells cP (cyU m j))), (8003, .row 3 1 (is .i64 (wordT m.mod.toNat (j + 1) t))), (61, .row 57 1 (gcells cV (lsT m (j + 1) t))), (8006, oM 28 m), (8007, .var 88 [Fv, Zv, Fv, Zv, Fv, Zv]), (8008, .var 88 [Bv (ln.mul), Dv (ln.mul), Bv (ln.add), Dv (ln.add), Bv (ln.div), Dv (ln.div)])]⟩) ⟨_, _, ⟨0, oneZ, (by omega), rfl, rfl, rfl⟩, ?wk7⟩ ?rd7
           case wk7 =>
            exact Wk.sub ⟨rfl, rfl, rfl, rfl, rfl, rfl, (by first | rfl | exact nm_int (by omega)), trivial⟩ ⟨rfl, rfl, rfl, rfl, rfl, rfl, rfl, rfl, rfl, rfl, rfl, rfl, rfl, rfl, rfl, rfl, rfl, rfl, rfl, rfl, trivial⟩
           rintro κ _ ⟨v, ln, hv, hl2, rfl, rfl⟩
           refine awp_seq fun K37 hK37 => awp_region rfl ?_
           refine n_lss v ((wordT m.mod.toNat (j + 1) t).length) gn rfl rfl ?_
           refine aops_end (hK37 _ (awp_seq fun K38 hK38 => ?_))
           refine awp_condQ (q := v < ((wordT m.mod.toNat (j + 1) t).length)) rfl (fun h8 => ?_) (fun h8 => ?_)
           ·refine awp_skip (hK38 _ (awp_seq fun K39 hK39 => ?_))
            refine awp_block ?_
            refine awp_seq fun K40 hK40 => awp_region rfl ?_
            refine i_indexRow (wordT m.mod.toNat (j + 1) t) v gn f10_ rfl rfl rfl (by omega) ?_
            refine i_loadRow (wordT m.mod.toNat (j + 1) t) v gn f11_ rfl rfl (by omega) ?_
            refine n_as (v' := (Nv (((wordT m.mod.toNat (j + 1) t).getD v 0).toNat))) (nm_int (by have hwj := isW_get hW.1 (show v < (wordT m.mod.toNat (j + 1) t).length by assumption); omega)) ?_
            refine o_as (Nv (((wordT m.mod.toNat (j + 1) t).getD v 0).toNat)) rfl (aops_end (hK40 _ ?_))
            refine awp_wk (σ' := ⟨[(2, .ref 8006 0), (4, .ref 8007 0), (5, .ref 8008 0), (6, .clo 68 [.ref 8006 0, .ref 8008 0]), (14, .row 8003), (15, Nv ((wordT m.mod.toNat (j + 1) t).length)), (16, Nv v), (17, bp (v < ((wordT m.mod.toNat (j + 1) t).length))), (18, .ref 8003 v), (19, Nv (((wordT m.mod.toNat (j + 1) t).getD v 0).toNat)), (8, Nv (((wordT m.mod.toNat (j + 1) t).getD v 0).toNat))], [(9015, .pin [.row 8003, mapV m, mapV m, .row 8003, .ref 8004 0, .ref 8005 0] us6), (8005, .var 53 [Fv, Zv, Fv, Zv]), (8004, oM 28 m), (9014, .pin [.row 8003, mapV m, .row 8003, Iv k, .ref 2 0, .row 50, .ref 20 0, .ref 201 0, .clo 38 [.ref 8001 0, .ref 8002 0], .row 8003, .row 8003, bp (firstP (wordT m.mod.toNat (j + 1) t)), bp (¬ (firstP (wordT m.mod.toNat (j + 1) t)))] us5), (9001, .blk (.loop (lrec fn tmps ps' as' bo' D .busy none))), (9005, .pin [.lit (.func (.yield l) #[] #[]), .row 8003, .lit (.func (.yield l) #[] #[]), .ref 8001 0, .ref 8002 0, .row 8003] us), (9002, .blk (.deferred (some []))), (9003, pinA [(1, Iv k), (2, .ref 2 0), (8, .row 50), (9, .ref 20 0), (10, .ref 201 0), (48, .clo 38 [.ref 8001 0, .ref 8002 0])] tmps), (9004, pinL l D), (8001, .var 3 [Nv (j + 1)]), (8002, oM 28 m), (2, oM 28 m), (20, .var 3 [Nv (j + 1)]), (201, .var 45 [.row 61]), (50, .row 41 1 (gcells cP (cyU m j))), (8003, .row 3 1 (is .i64 (wordT m.mod.toNat (j + 1) t))), (61, .row 57 1 (gcells cV (lsT m (j + 1) t))), (8006, oM 28 m), (8007, .var 88 [Fv, Zv, Fv, Zv, Fv, Zv]), (8008, .var 88 [Bv (ln.mul), Dv (ln.mul), Bv (ln.add), Dv (ln.add), Bv (ln.div), Dv (ln.div)])]⟩) (Wk.sub ⟨rfl, rfl, rfl, rfl, rfl, rfl, rfl, rfl, rfl, rfl, rfl, trivial⟩ ⟨rfl, rfl, rfl, rfl, rfl, rfl, rfl, rfl, rfl, rfl, rfl, rfl, rfl, rfl, rfl, rfl, rfl, rfl, rfl, rfl, trivial⟩) ?_
            refine awp_regionSK 2 22 _ 68 [.ref 8006 0, .ref 8008 0] _ _ _ _ _ [Nv (((wordT m.mod.toNat (j + 1) t).getD v 0).toNat), .ref 8006 0, .ref 8008 0] (linW (thenZ m ln ((wordT m.mod.toNat (j + 1) t).getD v 0))) [(9015, .pin [.row 8003, mapV m, mapV m, .row 8003, .ref 8004 0, .ref 8005 0] us6), (8005, .var 53 [Fv, Zv, Fv, Zv]), (8004, oM 28 m), (9014, .pin [.row 8003, mapV m, .row 8003, Iv k, .ref 2 0, .row 50, .ref 20 0, .ref 201 0, .clo 38 [.ref 8001 0, .ref 8002 0], .row 8003, .row 8003, bp (firstP (wordT m.mod.toNat (j + 1) t)), bp (¬ (firstP (wordT m.mod.toNat (j + 1) t)))] us5), (9001, .blk (.loop (lrec fn tmps ps' as' bo' D .busy none))), (9005, .pin [.lit (.func (.yield l) #[] #[]), .row 8003, .lit (.func (.yield l) #[] #[]), .ref 8001 0, .ref 8002 0, .row 8003] us), (9002, .blk (.deferred (some []))), (9003, pinA [(1, Iv k), (2, .ref 2 0), (8, .row 50), (9, .ref 20 0), (10, .ref 201 0), (48, .clo 38 [.ref 8001 0, .ref 8002 0])] tmps), (9004, pinL l D), (8001, .var 3 [Nv (j + 1)]), (8002, oM 28 m), (2, oM 28 m), (20, .var 3 [Nv (j + 1)]), (201, .var 45 [.row 61]), (50, .row 41 1 (gcells cP (cyU m j))), (8003, .row 3 1 (is .i64 (wordT m.mod.toNat (j + 1) t))), (61, .row 57 1 (gcells cV (lsT m (j + 1) t))), (8006, oM 28 m), (8007, .var 88 [Fv, Zv, Fv, Zv, Fv, Zv]), (8008, .var 88 [Bv (ln.mul), Dv (ln.mul), Bv (ln.add), Dv (ln.add), Bv (ln.div), Dv (ln.div)])] rfl rfl f83_ ?_
            refine o_mv (.clo 68 [.ref 8006 0, .ref 8008 0]) rfl (o_mv (Nv (((wordT m.mod.toNat (j + 1) t).getD v 0).toNat)) rfl ?_)
            refine aops_end ⟨rfl, rfl, ?sc8, ?_⟩
            case sc8 =>
             refine scalls_of_awpB 9017 Tryz.func68 (c := _) rfl (Nat.le_of_ble_eq_true rfl) rfl rfl rfl (fun us8 => ?_)
             show awp cx 37 _ (postS cx Tryz.f68 (linW (thenZ m ln ((wordT m.mod.toNat (j + 1) t).getD v 0))) [(9015, .pin [.row 8003, mapV m, mapV m, .row 8003, .ref 8004 0, .ref 8005 0] us6), (8005, .var 53 [Fv, Zv, Fv, Zv]), (8004, oM 28 m), (9014, .pin [.row 8003, mapV m, .row 8003, Iv k, .ref 2 0, .row 50, .ref 20 0, .ref 201 0, .clo 38 [.ref 8001 0, .ref 8002 0], .row 8003, .row 8003, bp (firstP (wordT m.mod.toNat (j + 1) t)), bp (¬ (firstP (wordT m.mod.toNat (j + 1) t)))] us5), (9001, .blk (.loop (lrec fn tmps ps' as' bo' D .busy none))), (9005, .pin [.lit (.func (.yield l) #[] #[]), .row 8003, .lit (.func (.yield l) #[] #[]), .ref 8001 0, .ref 8002 0, .row 8003] us), (9002, .blk (.deferred (some []))), (9003, pinA [(1, Iv k), (2, .ref 2 0), (8, .row 50), (9, .ref 20 0), (10, .ref 201 0), (48, .clo 38 [.ref 8001 0, .ref 8002 0])] tmps), (9004, pinL l D), (8001, .var 3 [Nv (j + 1)]), (8002, oM 28 m), (2, oM 28 m), (20, .var 3 [Nv (j + 1)]), (201, .var 45 [.row 61]), (50, .row 41 1 (gcells cP (cyU m j))), (8003, .row 3 1 (is .i64 (wordT m.mod.toNat (j + 1) t))), (61, .row 57 1 (gcells cV (lsT m (j + 1) t))), (8006, oM 28 m), (8007, .var 88 [Fv, Zv, Fv, Zv, Fv, Zv]), (8008, .var 88 [Bv (ln.mul), Dv (ln.mul), Bv (ln.add), Dv (ln.add), Bv (ln.div), Dv (ln.div)])] 9017 [Nv (((wordT m.mod.toNat (j + 1) t).getD v 0).toNat), .clo 68 [.ref 8006 0, .ref 8008 0], .ref 8006 0, .ref 8007 0, .ref 8008 0, .clo 68 [.ref 8006 0, .ref 8008 0], .row 8003, Nv ((wordT m.mod.toNat (j + 1) t).length), Nv v, bp (v < ((wordT m.mod.toNat (j + 1) t).length)), .ref 8003 v, Nv (((wordT m.mod.toNat (j + 1) t).getD v 0).toNat), Nv (((wordT m.mod.toNat (j + 1) t).getD v 0).toNat)] us8) ⟨[(0, Nv (((wordT m.mod.toNat (j + 1) t).getD v 0).toNat)), (1, .ref 8006 0), (2, .ref 8008 0)], [(9017, .pin [Nv (((wordT m.mod.toNat (j + 1) t).getD v 0).toNat), .clo 68 [.ref 8006 0, .ref 8008 0], .ref 8006 0, .ref 8007 0, .ref 8008 0, .clo 68 [.ref 8006 0, .ref 8008 0], .row 8003, Nv ((wordT m.mod.toNat (j + 1) t).length), Nv v, bp (v < ((wordT m.mod.toNat (j + 1) t).length)), .ref 8003 v, Nv (((wordT m.mod.toNat (j + 1) t).getD v 0).toNat), Nv (((wordT m.mod.toNat (j + 1) t).getD v 0).toNat)] us8), (9015, .pin [.row 8003, mapV m, mapV m, .row 8003, .ref 8004 0, .ref 8005 0] us6), (8005, .var 53 [Fv, Zv, Fv, Zv]), (8004, oM 28 m), (9014, .pin [.row 8003, mapV m, .row 8003, Iv k, .ref 2 0, .row 50, .ref 20 0, .ref 201 0, .clo 38 [.ref 8001 0, .ref 8002 0], .row 8003, .row 8003, bp (firstP (wordT m.mod.toNat (j + 1) t)), bp (¬ (firstP (wordT m.mod.toNat (j + 1) t)))] us5), (9001, .blk (.loop (lrec fn tmps ps' as' bo' D .busy none))), (9005, .pin [.lit (.func (.yield l) #[] #[]), .row 8003, .lit (.func (.yield l) #[] #[]), .ref 8001 0, .ref 8002 0, .row 8003] us), (9002, .blk (.deferred (some []))), (9003, pinA [(1, Iv k), (2, .ref 2 0), (8, .row 50), (9, .ref 20 0), (10, .ref 201 0), (48, .clo 38 [.ref 8001 0, .ref 8002 0])] tmps), (9004, pinL l D), (8001, .var 3 [Nv (j + 1)]), (8002, oM 28 m), (2, oM 28 m), (20, .var 3 [Nv (j + 1)]), (201, .var 45 [.row 61]), (50, .row 41 1 (gcells cP (cyU m j))), (8003, .row 3 1 (is .i64 (wordT m.mod.toNat (j + 1) t))), (61, .row 57 1 (gcells cV (lsT m (j + 1) t))), (8006, oM 28 m), (8007, .var 88 [Fv, Zv, Fv, Zv, Fv, Zv]), (8008, .var 88 [Bv (ln.mul), Dv (ln.mul), Bv (ln.add), Dv (ln.add), Bv (ln.div), Dv (ln.div)])]⟩
             have hwj := isW_get hW.1 (show v < (wordT m.mod.toNat (j + 1) t).length by assumption)
             have hor := o5 (((wordT m.mod.toNat (j + 1) t).getD v 0).toNat) (by omega)
             obtain ⟨J1, J2, J3⟩ := line_len hM ((wordT m.mod.toNat (j + 1) t).take v) (isW_take hW.1 v)
             have J4 : ((wordT m.mod.toNat (j + 1) t).take v).length ≤ 200 := by rw [List.length_take]; omega
             rw [← hl2] at J1 J2 J3
             have hq1 := small_len (z := ((m.mul).getD (((wordT m.mod.toNat (j + 1) t).getD v 0).toNat) 0)) (by omega)
             have ha1 := small_len (z := ((m.add).getD (((wordT m.mod.toNat (j + 1) t).getD v 0).toNat) 0)) (by omega)
             have hd1 := small_len (z := m.mod) (by omega)
             have hm1 := len_mulZ ln.mul ((m.mul).getD (((wordT m.mod.toNat (j + 1) t).getD v 0).toNat) 0)
             have hm2 := len_mulZ ln.add ((m.mul).getD (((wordT m.mod.toNat (j + 1) t).getD v 0).toNat) 0)
             have hm3 := len_mulZ ln.div ((m.add).getD (((wordT m.mod.toNat (j + 1) t).getD v 0).toNat) 0)
             refine awp_seq fun K41 hK41 => awp_region rfl ?_
             refine o_alloc 8009 [Fv, Zv, Fv, Zv, Fv, Zv] gn f80_ rfl rfl rfl ?_
             refine aops_end (hK41 _ (awp_seq fun K42 hK42 => awp_region rfl ?_))
             refine o_fieldRef 1 gn f66_ rfl rfl ?_
             refine o_loadS (Lv m.mul) gn f1_ rfl rfl rfl ?_
             refine o_mv (Nv (((wordT m.mod.toNat (j + 1) t).getD v 0).toNat)) rfl ?_
             refine i_index m.mul (((wordT m.mod.toNat (j + 1) t).getD v 0).toNat) gn f10_ rfl rfl (by omega) ?_
             refine i_loadI m.mul (((wordT m.mod.toNat (j + 1) t).getD v 0).toNat) gn f11_ rfl (by omega) ?_
             refine o_ct (c_wOf ((m.mul).getD (((wordT m.mod.toNat (j + 1) t).getD v 0).toNat) 0) (by first | decide | omega) (by first | decide | omega)) gn f46_ rfl ?_
             refine o_alloc 8010 [Fv, Zv] gn f15_ rfl rfl rfl ?_
             refine o_store [(8010, oZ 51 .u32 ((m.mul).getD (((wordT m.mod.toNat (j + 1) t).getD v 0).toNat) 0)), (8009, .var 88 [Fv, Zv, Fv, Zv, Fv, Zv]), (9017, .pin [Nv (((wordT m.mod.toNat (j + 1) t).getD v 0).toNat), .clo 68 [.ref 8006 0, .ref 8008 0], .ref 8006 0, .ref 8007 0, .ref 8008 0, .clo 68 [.ref 8006 0, .ref 8008 0], .row 8003, Nv ((wordT m.mod.toNat (j + 1) t).length), Nv v, bp (v < ((wordT m.mod.toNat (j + 1) t).length)), .ref 8003 v, Nv (((wordT m.mod.toNat (j + 1) t).getD v 0).toNat), Nv (((wordT m.mod.toNat (j + 1) t).getD v 0).toNat)] us8), (9015, .pin [.row 8003, mapV m, mapV m, .row 8003, .ref 8004 0, .ref 8005 0] us6), (8005, .var 53 [Fv, Zv, Fv, Zv]), (8004, oM 28 m), (9014, .pin [.row 8003, mapV m, .row 8003, Iv k, .ref 2 0, .row 50, .ref 20 0, .ref 201 0, .clo 38 [.ref 8001 0, .ref 8002 0], .row 8003, .row 8003, bp (firstP (wordT m.mod.toNat (j + 1) t)), bp (¬ (firstP (wordT m.mod.toNat (j + 1) t)))] us5), (9001, .blk (.loop (lrec fn tmps ps' as' bo' D .busy none))), (9005, .pin [.lit (.func (.yield l) #[] #[]), .row 8003, .lit (.func (.yield l) #[] #[]), .ref 8001 0, .ref 8002 0, .row 8003] us), (9002, .blk (.deferred (some []))), (9003, pinA [(1, Iv k), (2, .ref 2 0), (8, .row 50), (9, .ref 20 0), (10, .ref 201 0), (48, .clo 38 [.ref 8001 0, .ref 8002 0])] tmps), (9004, pinL l D), (8001, .var 3 [Nv (j + 1)]), (8002, oM 28 m), (2, oM 28 m), (20, .var 3 [Nv (j + 1)]), (201, .var 45 [.row 61]), (50, .row 41 1 (gcells cP (cyU m j))), (8003, .row 3 1 (is .i64 (wordT m.mod.toNat (j + 1) t))), (61, .row 57 1 (gcells cV (lsT m (j + 1) t))), (8006, oM 28 m), (8007, .var 88 [Fv, Zv, Fv, Zv, Fv, Zv]), (8008, .var 88 [Bv (ln.mul), Dv (ln.mul), Bv (ln.add), Dv (ln.add), Bv (ln.div), Dv (ln.div)])] gn f19_ rfl rfl rfl rfl rfl rfl ?_
             refine aops_end (hK42 _ (awp_seq fun K43 hK43 => awp_regionD rfl ?_))
             refine o_fieldRef 0 gn f84_ rfl rfl ?_
             refine o_loadA [Bv (ln.mul), Dv (ln.mul)] gn f20_ rfl rfl rfl rfl rfl ?_
             refine o_loadA [bp ((m.mul).getD (((wordT m.mod.toNat (j + 1) t).getD v 0).toNat) 0 < 0), .sl 1 (ns .u32 (digs ((m.mul).getD (((wordT m.mod.toNat (j + 1) t).getD v 0).toNat) 0).natAbs))] gn f20_ rfl rfl rfl rfl rfl ?_
             refine o_ct (c_wMul (ln.mul) ((m.mul).getD (((wordT m.mod.toNat (j + 1) t).getD v 0).toNat) 0) (by first | omega | assumption | (simp only [Int.natAbs_neg]; omega)) (by first | omega | assumption | (simp only [Int.natAbs_neg]; omega))) gn f70_ rfl ?_
             refine o_fieldRef 2 gn f85_ rfl rfl ?_
             refine o_loadA [Bv (ln.add), Dv (ln.add)] gn f20_ rfl rfl rfl rfl rfl ?_
             refine o_loadA [bp ((m.mul).getD (((wordT m.mod.toNat (j + 1) t).getD v 0).toNat) 0 < 0), .sl 1 (ns .u32 (digs ((m.mul).getD (((wordT m.mod.toNat (j + 1) t).getD v 0).toNat) 0).natAbs))] gn f20_ rfl rfl rfl rfl rfl ?_
             refine o_ct (c_wMul (ln.add) ((m.mul).getD (((wordT m.mod.toNat (j + 1) t).getD v 0).toNat) 0) (by first | omega | assumption | (simp only [Int.natAbs_neg]; omega)) (by first | omega | assumption | (simp only [Int.natAbs_neg]; omega))) gn f70_ rfl ?_
             refine o_fieldRef 4 gn f86_ rfl rfl ?_
             refine o_loadA [Bv (ln.div), Dv (ln.div)] gn f20_ rfl rfl rfl rfl rfl ?_
             refine o_fieldRef 2 gn f68_ rfl rfl ?_
             refine o_loadS (Lv m.add) gn f1_ rfl rfl rfl ?_
             refine o_mv (Nv (((wordT m.mod.toNat (j + 1) t).getD v 0).toNat)) rfl ?_
             refine i_index m.add (((wordT m.mod.toNat (j + 1) t).getD v 0).toNat) gn f10_ rfl rfl (by omega) ?_
             refine i_loadI m.add (((wordT m.mod.toNat (j + 1) t).getD v 0).toNat) gn f11_ rfl (by omega) ?_
             refine o_ct (c_wOf ((m.add).getD (((wordT m.mod.toNat (j + 1) t).getD v 0).toNat) 0) (by first | decide | omega) (by first | decide | omega)) gn f46_ rfl ?_
             refine o_ct (c_wMul (ln.div) ((m.add).getD (((wordT m.mod.toNat (j + 1) t).getD v 0).toNat) 0) (by first | omega | assumption | (simp only [Int.natAbs_neg]; omega)) (by first | omega | assumption | (simp only [Int.natAbs_neg]; omega))) gn f70_ rfl ?_
             refine o_ct (c_wAdd ((ln.add) * (m.mul).getD (((wordT m.mod.toNat (j + 1) t).getD v 0).toNat) 0) ((ln.div) * (m.add).getD (((wordT m.mod.toNat (j + 1) t).getD v 0).toNat) 0) (by first | omega | assumption | (simp only [Int.natAbs_neg]; omega)) (by first | omega | assumption | (simp only [Int.natAbs_neg]; omega))) gn f38_ rfl ?_
             refine o_fieldRef 4 gn f86_ rfl rfl ?_
             refine o_loadA [Bv (ln.div), Dv (ln.div)] gn f20_ rfl rfl rfl rfl rfl ?_
             refine o_fieldRef 0 gn f62_ rfl rfl ?_
             refine o_loadS (Iv m.mod) gn f11_ rfl rfl rfl ?_
             refine o_ct (c_wOf m.mod (by first | decide | omega) (by first | decide | omega)) gn f46_ rfl ?_
             refine o_ct (c_wMul (ln.div) m.mod (by first | omega | assumption | (simp only [Int.natAbs_neg]; omega)) (by first | omega | assumption | (simp only [Int.natAbs_neg]; omega))) gn f70_ rfl ?_
             refine o_build [bp (((ln.mul) * (m.mul).getD (((wordT m.mod.toNat (j + 1) t).getD v 0).toNat) 0) < 0), .sl 1 (ns .u32 (digs ((ln.mul) * (m.mul).getD (((wordT m.mod.toNat (j + 1) t).getD v 0).toNat) 0).natAbs)), bp ((((ln.add) * (m.mul).getD (((wordT m.mod.toNat (j + 1) t).getD v 0).toNat) 0) + ((ln.div) * (m.add).getD (((wordT m.mod.toNat (j + 1) t).getD v 0).toNat) 0)) < 0), .sl 1 (ns .u32 (digs (((ln.add) * (m.mul).getD (((wordT m.mod.toNat (j + 1) t).getD v 0).toNat) 0) + ((ln.div) * (m.add).getD (((wordT m.mod.toNat (j + 1) t).getD v 0).toNat) 0)).natAbs)), bp (((ln.div) * m.mod) < 0), .sl 1 (ns .u32 (digs ((ln.div) * m.mod).natAbs))] [(0, [bp (((ln.mul) * (m.mul).getD (((wordT m.mod.toNat (j + 1) t).getD v 0).toNat) 0) < 0), .sl 1 (ns .u32 (digs ((ln.mul) * (m.mul).getD (((wordT m.mod.toNat (j + 1) t).getD v 0).toNat) 0).natAbs))]), (1, [bp ((((ln.add) * (m.mul).getD (((wordT m.mod.toNat (j + 1) t).getD v 0).toNat) 0) + ((ln.div) * (m.add).getD (((wordT m.mod.toNat (j + 1) t).getD v 0).toNat) 0)) < 0), .sl 1 (ns .u32 (digs (((ln.add) * (m.mul).getD (((wordT m.mod.toNat (j + 1) t).getD v 0).toNat) 0) + ((ln.div) * (m.add).getD (((wordT m.mod.toNat (j + 1) t).getD v 0).toNat) 0)).natAbs))]), (2, [bp (((ln.div) * m.mod) < 0), .sl 1 (ns .u32 (digs ((ln.div) * m.mod).natAbs))])] gn f81_ f80_ rfl rfl rfl ?_
             refine o_store [(8010, oZ 51 .u32 ((m.mul).getD (((wordT m.mod.toNat (j + 1) t).getD v 0).toNat) 0)), (8009, .var 88 [bp (((ln.mul) * (m.mul).getD (((wordT m.mod.toNat (j + 1) t).getD v 0).toNat) 0) < 0), .sl 1 (ns .u32 (digs ((ln.mul) * (m.mul).getD (((wordT m.mod.toNat (j + 1) t).getD v 0).toNat) 0).natAbs)), bp ((((ln.add) * (m.mul).getD (((wordT m.mod.toNat (j + 1) t).getD v 0).toNat) 0) + ((ln.div) * (m.add).getD (((wordT m.mod.toNat (j + 1) t).getD v 0).toNat) 0)) < 0), .sl 1 (ns .u32 (digs (((ln.add) * (m.mul).getD (((wordT m.mod.toNat (j + 1) t).getD v 0).toNat) 0) + ((ln.div) * (m.add).getD (((wordT m.mod.toNat (j + 1) t).getD v 0).toNat) 0)).natAbs)), bp (((ln.div) * m.mod) < 0), .sl 1 (ns .u32 (digs ((ln.div) * m.mod).natAbs))]), (9017, .pin [Nv (((wordT m.mod.toNat (j + 1) t).getD v 0).toNat), .clo 68 [.ref 8006 0, .ref 8008 0], .ref 8006 0, .ref 8007 0, .ref 8008 0, .clo 68 [.ref 8006 0, .ref 8008 0], .row 8003, Nv ((wordT m.mod.toNat (j + 1) t).length), Nv v, bp (v < ((wordT m.mod.toNat (j + 1) t).length)), .ref 8003 v, Nv (((wordT m.mod.toNat (j + 1) t).getD v 0).toNat), Nv (((wordT m.mod.toNat (j + 1) t).getD v 0).toNat)] us8), (9015, .pin [.row 8003, mapV m, mapV m, .row 8003, .ref 8004 0, .ref 8005 0] us6), (8005, .var 53 [Fv, Zv, Fv, Zv]), (8004, oM 28 m), (9014, .pin [.row 8003, mapV m, .row 8003, Iv k, .ref 2 0, .row 50, .ref 20 0, .ref 201 0, .clo 38 [.ref 8001 0, .ref 8002 0], .row 8003, .row 8003, bp (firstP (wordT m.mod.toNat (j + 1) t)), bp (¬ (firstP (wordT m.mod.toNat (j + 1) t)))] us5), (9001, .blk (.loop (lrec fn tmps ps' as' bo' D .busy none))), (9005, .pin [.lit (.func (.yield l) #[] #[]), .row 8003, .lit (.func (.yield l) #[] #[]), .ref 8001 0, .ref 8002 0, .row 8003] us), (9002, .blk (.deferred (some []))), (9003, pinA [(1, Iv k), (2, .ref 2 0), (8, .row 50), (9, .ref 20 0), (10, .ref 201 0), (48, .clo 38 [.ref 8001 0, .ref 8002 0])] tmps), (9004, pinL l D), (8001, .var 3 [Nv (j + 1)]), (8002, oM 28 m), (2, oM 28 m), (20, .var 3 [Nv (j + 1)]), (201, .var 45 [.row 61]), (50, .row 41 1 (gcells cP (cyU m j))), (8003, .row 3 1 (is .i64 (wordT m.mod.toNat (j + 1) t))), (61, .row 57 1 (gcells cV (lsT m (j + 1) t))), (8006, oM 28 m), (8007, .var 88 [Fv, Zv, Fv, Zv, Fv, Zv]), (8008, .var 88 [Bv (ln.mul), Dv (ln.mul), Bv (ln.add), Dv (ln.add), Bv (ln.div), Dv (ln.div)])] gn f82_ rfl rfl rfl rfl rfl rfl ?_
             refine aops_end ⟨by kernel_rfl, ?_⟩
             refine hK43 _ ?_
             refine awp_wk (σ' := ⟨[(4, .ref 8009 0)], [(9017, .pin [Nv (((wordT m.mod.toNat (j + 1) t).getD v 0).toNat), .clo 68 [.ref 8006 0, .ref 8008 0], .ref 8006 0, .ref 8007 0, .ref 8008 0, .clo 68 [.ref 8006 0, .ref 8008 0], .row 8003, Nv ((wordT m.mod.toNat (j + 1) t).length), Nv v, bp (v < ((wordT m.mod.toNat (j + 1) t).length)), .ref 8003 v, Nv (((wordT m.mod.toNat (j + 1) t).getD v 0).toNat), Nv (((wordT m.mod.toNat (j + 1) t).getD v 0).toNat)] us8), (9015, .pin [.row 8003, mapV m, mapV m, .row 8003, .ref 8004 0, .ref 8005 0] us6), (8005, .var 53 [Fv, Zv, Fv, Zv]), (8004, oM 28 m), (9014, .pin [.row 8003, mapV m, .row 8003, Iv k, .ref 2 0, .row 50, .ref 20 0, .ref 201 0, .clo 38 [.ref 8001 0, .ref 8002 0], .row 8003, .row 8003, bp (firstP (wordT m.mod.toNat (j + 1) t)), bp (¬ (firstP (wordT m.mod.toNat (j + 1) t)))] us5), (9001, .blk (.loop (lrec fn tmps ps' as' bo' D .busy none))), (9005, .pin [.lit (.func (.yield l) #[] #[]), .row 8003, .lit (.func (.yield l) #[] #[]), .ref 8001 0, .ref 8002 0, .row 8003] us), (9002, .blk (.deferred (some []))), (9003, pinA [(1, Iv k), (2, .ref 2 0), (8, .row 50), (9, .ref 20 0), (10, .ref 201 0), (48, .clo 38 [.ref 8001 0, .ref 8002 0])] tmps), (9004, pinL l D), (8001, .var 3 [Nv (j + 1)]), (8002, oM 28 m), (2, oM 28 m), (20, .var 3 [Nv (j + 1)]), (201, .var 45 [.row 61]), (50, .row 41 1 (gcells cP (cyU m j))), (8003, .row 3 1 (is .i64 (wordT m.mod.toNat (j + 1) t))), (61, .row 57 1 (gcells cV (lsT m (j + 1) t))), (8006, oM 28 m), (8007, .var 88 [Fv, Zv, Fv, Zv, Fv, Zv]), (8008, .var 88 [Bv (ln.mul), Dv (ln.mul), Bv (ln.add), Dv (ln.add), Bv (ln.div), Dv (ln.div)]), (8009, .var 88 [bp (((ln.mul) * (m.mul).getD (((wordT m.mod.toNat (j + 1) t).getD v 0).toNat) 0) < 0), .sl 1 (ns .u32 (digs ((ln.mul) * (m.mul).getD (((wordT m.mod.toNat (j + 1) t).getD v 0).toNat) 0).natAbs)), bp ((((ln.add) * (m.mul).getD (((wordT m.mod.toNat (j + 1) t).getD v 0).toNat) 0) + ((ln.div) * (m.add).getD (((wordT m.mod.toNat (j + 1) t).getD v 0).toNat) 0)) < 0), .sl 1 (ns .u32 (digs (((ln.add) * (m.mul).getD (((wordT m.mod.toNat (j + 1) t).getD v 0).toNat) 0) + ((ln.div) * (m.add).getD (((wordT m.mod.toNat (j + 1) t).getD v 0).toNat) 0)).natAbs)), bp (((ln.div) * m.mod) < 0), .sl 1 (ns .u32 (digs ((ln.div) * m.mod).natAbs))])]⟩) (Wk.sub ⟨rfl, trivial⟩ ⟨rfl, rfl, rfl, rfl, rfl, rfl, rfl, rfl, rfl, rfl, rfl, rfl, rfl, rfl, rfl, rfl, rfl, rfl, rfl, rfl, rfl, rfl, trivial⟩) ?_
             refine awp_ret ?_
             try dsimp only [thenK, inBlk]
             refine postS_ret (extra := [(8009, .var 88 [bp (((ln.mul) * (m.mul).getD (((wordT m.mod.toNat (j + 1) t).getD v 0).toNat) 0) < 0), .sl 1 (ns .u32 (digs ((ln.mul) * (m.mul).getD (((wordT m.mod.toNat (j + 1) t).getD v 0).toNat) 0).natAbs)), bp ((((ln.add) * (m.mul).getD (((wordT m.mod.toNat (j + 1) t).getD v 0).toNat) 0) + ((ln.div) * (m.add).getD (((wordT m.mod.toNat (j + 1) t).getD v 0).toNat) 0)) < 0), .sl 1 (ns .u32 (digs (((ln.add) * (m.mul).getD (((wordT m.mod.toNat (j + 1) t).getD v 0).toNat) 0) + ((ln.div) * (m.add).getD (((wordT m.mod.toNat (j + 1) t).getD v 0).toNat) 0)).natAbs)), bp (((ln.div) * m.mod) < 0), .sl 1 (ns .u32 (digs ((ln.div) * m.mod).natAbs))])]) ?_ rfl
             refine ⟨[.agg [bp (((ln.mul) * (m.mul).getD (((wordT m.mod.toNat (j + 1) t).getD v 0).toNat) 0) < 0), .sl 1 (ns .u32 (digs ((ln.mul) * (m.mul).getD (((wordT m.mod.toNat (j + 1) t).getD v 0).toNat) 0).natAbs)), bp ((((ln.add) * (m.mul).getD (((wordT m.mod.toNat (j + 1) t).getD v 0).toNat) 0) + ((ln.div) * (m.add).getD (((wordT m.mod.toNat (j + 1) t).getD v 0).toNat) 0)) < 0), .sl 1 (ns .u32 (digs (((ln.add) * (m.mul).getD (((wordT m.mod.toNat (j + 1) t).getD v 0).toNat) 0) + ((ln.div) * (m.add).getD (((wordT m.mod.toNat (j + 1) t).getD v 0).toNat) 0)).natAbs)), bp (((ln.div) * m.mod) < 0), .sl 1 (ns .u32 (digs ((ln.div) * m.mod).natAbs))]], ⟨⟨8009, .var 88 [bp (((ln.mul) * (m.mul).getD (((wordT m.mod.toNat (j + 1) t).getD v 0).toNat) 0) < 0), .sl 1 (ns .u32 (digs ((ln.mul) * (m.mul).getD (((wordT m.mod.toNat (j + 1) t).getD v 0).toNat) 0).natAbs)), bp ((((ln.add) * (m.mul).getD (((wordT m.mod.toNat (j + 1) t).getD v 0).toNat) 0) + ((ln.div) * (m.add).getD (((wordT m.mod.toNat (j + 1) t).getD v 0).toNat) 0)) < 0), .sl 1 (ns .u32 (digs (((ln.add) * (m.mul).getD (((wordT m.mod.toNat (j + 1) t).getD v 0).toNat) 0) + ((ln.div) * (m.add).getD (((wordT m.mod.toNat (j + 1) t).getD v 0).toNat) 0)).natAbs)), bp (((ln.div) * m.mod) < 0), .sl 1 (ns .u32 (digs ((ln.div) * m.mod).natAbs))], rfl, rfl, rfl, Or.inl ⟨f87_, AV.le_refl _⟩⟩, trivial⟩, ?_⟩
             exact linK_eq (Int.mul_comm _ _) (congr (congrArg HAdd.hAdd (Int.mul_comm _ _)) (Int.mul_comm _ _)) rfl
            refine o_store [(9015, .pin [.row 8003, mapV m, mapV m, .row 8003, .ref 8004 0, .ref 8005 0] us6), (8005, .var 53 [Fv, Zv, Fv, Zv]), (8004, oM 28 m), (9014, .pin [.row 8003, mapV m, .row 8003, Iv k, .ref 2 0, .row 50, .ref 20 0, .ref 201 0, .clo 38 [.ref 8001 0, .ref 8002 0], .row 8003, .row 8003, bp (firstP (wordT m.mod.toNat (j + 1) t)), bp (¬ (firstP (wordT m.mod.toNat (j + 1) t)))] us5), (9001, .blk (.loop (lrec fn tmps ps' as' bo' D .busy none))), (9005, .pin [.lit (.func (.yield l) #[] #[]), .row 8003, .lit (.func (.yield l) #[] #[]), .ref 8001 0, .ref 8002 0, .row 8003] us), (9002, .blk (.deferred (some []))), (9003, pinA [(1, Iv k), (2, .ref 2 0), (8, .row 50), (9, .ref 20 0), (10, .ref 201 0), (48, .clo 38 [.ref 8001 0, .ref 8002 0])] tmps), (9004, pinL l D), (8001, .var 3 [Nv (j + 1)]), (8002, oM 28 m), (2, oM 28 m), (20, .var 3 [Nv (j + 1)]), (201, .var 45 [.row 61]), (50, .row 41 1 (gcells cP (cyU m j))), (8003, .row 3 1 (is .i64 (wordT m.mod.toNat (j + 1) t))), (61, .row 57 1 (gcells cV (lsT m (j + 1) t))), (8006, oM 28 m), (8007, .var 88 [Fv, Zv, Fv, Zv, Fv, Zv]), (8008, .var 88 [Bv ((thenZ m ln ((wordT m.mod.toNat (j + 1) t).getD v 0)).mul), Dv ((thenZ m ln ((wordT m.mod.toNat (j + 1) t).getD v 0)).mul), Bv ((thenZ m ln ((wordT m.mod.toNat (j + 1) t).getD v 0)).add), Dv ((thenZ m ln ((wordT m.mod.toNat (j + 1) t).getD v 0)).add), Bv ((thenZ m ln ((wordT m.mod.toNat (j + 1) t).getD v 0)).div), Dv ((thenZ m ln ((wordT m.mod.toNat (j + 1) t).getD v 0)).div)])] gn f82_ rfl rfl rfl rfl rfl rfl ?_
            refine aops_end (hK39 _ (awp_region rfl ?_))
            refine n_add v 1 gn rfl rfl (by simp only [topOf]; omega) ?_
            refine o_mv (Nv (v + 1)) rfl (aops_end ?_)
            refine ⟨_, _, ?lt, ⟨v + 1, thenZ m ln ((wordT m.mod.toNat (j + 1) t).getD v 0), (by omega), (by rw [hl2]; exact lineZ_next (by assumption)), rfl, rfl⟩, ?wk⟩
            case lt => omega
            case wk => exact Wk.sub ⟨rfl, rfl, rfl, rfl, rfl, rfl, (by first | rfl | exact nm_int (by omega)), trivial⟩ ⟨rfl, rfl, rfl, rfl, rfl, rfl, rfl, rfl, rfl, rfl, rfl, rfl, rfl, rfl, rfl, rfl, rfl, rfl, rfl, rfl, trivial⟩
           ·refine awp_exit ?_
            refine hK35 _ (awp_seq fun K44 hK44 => awp_region rfl ?_)
            refine o_loadA [Bv (ln.mul), Dv (ln.mul), Bv (ln.add), Dv (ln.add), Bv (ln.div), Dv (ln.div)] gn f87_ rfl rfl rfl rfl rfl ?_
            refine o_store [(9015, .pin [.row 8003, mapV m, mapV m, .row 8003, .ref 8004 0, .ref 8005 0] us6), (8005, .var 53 [Fv, Zv, Fv, Zv]), (8004, oM 28 m), (9014, .pin [.row 8003, mapV m, .row 8003, Iv k, .ref 2 0, .row 50, .ref 20 0, .ref 201 0, .clo 38 [.ref 8001 0, .ref 8002 0], .row 8003, .row 8003, bp (firstP (wordT m.mod.toNat (j + 1) t)), bp (¬ (firstP (wordT m.mod.toNat (j + 1) t)))] us5), (9001, .blk (.loop (lrec fn tmps ps' as' bo' D .busy none))), (9005, .pin [.lit (.func (.yield l) #[] #[]), .row 8003, .lit (.func (.yield l) #[] #[]), .ref 8001 0, .ref 8002 0, .row 8003] us), (9002, .blk (.deferred (some []))), (9003, pinA [(1, Iv k), (2, .ref 2 0), (8, .row 50), (9, .ref 20 0), (10, .ref 201 0), (48, .clo 38 [.ref 8001 0, .ref 8002 0])] tmps), (9004, pinL l D), (8001, .var 3 [Nv (j + 1)]), (8002, oM 28 m), (2, oM 28 m), (20, .var 3 [Nv (j + 1)]), (201, .var 45 [.row 61]), (50, .row 41 1 (gcells cP (cyU m j))), (8003, .row 3 1 (is .i64 (wordT m.mod.toNat (j + 1) t))), (61, .row 57 1 (gcells cV (lsT m (j + 1) t))), (8006, oM 28 m), (8007, .var 88 [Bv (ln.mul), Dv (ln.mul), Bv (ln.add), Dv (ln.add), Bv (ln.div), Dv (ln.div)]), (8008, .var 88 [Bv (ln.mul), Dv (ln.mul), Bv (ln.add), Dv (ln.add), Bv (ln.div), Dv (ln.div)])] gn f82_ rfl rfl rfl rfl rfl rfl ?_
            refine aops_end (hK44 _ ?_)
            refine awp_wk (σ' := ⟨[(4, .ref 8007 0)], [(9015, .pin [.row 8003, mapV m, mapV m, .row 8003, .ref 8004 0, .ref 8005 0] us6), (8005, .var 53 [Fv, Zv, Fv, Zv]), (8004, oM 28 m), (9014, .pin [.row 8003, mapV m, .row 8003, Iv k, .ref 2 0, .row 50, .ref 20 0, .ref 201 0, .clo 38 [.ref 8001 0, .ref 8002 0], .row 8003, .row 8003, bp (firstP (wordT m.mod.toNat (j + 1) t)), bp (¬ (firstP (wordT m.mod.toNat (j + 1) t)))] us5), (9001, .blk (.loop (lrec fn tmps ps' as' bo' D .busy none))), (9005, .pin [.lit (.func (.yield l) #[] #[]), .row 8003, .lit (.func (.yield l) #[] #[]), .ref 8001 0, .ref 8002 0, .row 8003] us), (9002, .blk (.deferred (some []))), (9003, pinA [(1, Iv k), (2, .ref 2 0), (8, .row 50), (9, .ref 20 0), (10, .ref 201 0), (48, .clo 38 [.ref 8001 0, .ref 8002 0])] tmps), (9004, pinL l D), (8001, .var 3 [Nv (j + 1)]), (8002, oM 28 m), (2, oM 28 m), (20, .var 3 [Nv (j + 1)]), (201, .var 45 [.row 61]), (50, .row 41 1 (gcells cP (cyU m j))), (8003, .row 3 1 (is .i64 (wordT m.mod.toNat (j + 1) t))), (61, .row 57 1 (gcells cV (lsT m (j + 1) t))), (8007, .var 88 [Bv (ln.mul), Dv (ln.mul), Bv (ln.add), Dv (ln.add), Bv (ln.div), Dv (ln.div)])]⟩) (Wk.sub ⟨rfl, trivial⟩ ⟨rfl, rfl, rfl, rfl, rfl, rfl, rfl, rfl, rfl, rfl, rfl, rfl, rfl, rfl, rfl, rfl, rfl, rfl, trivial⟩) ?_
            refine awp_ret ?_
            try dsimp only [thenK, inBlk]
            refine postS_ret (extra := [(8007, .var 88 [Bv (ln.mul), Dv (ln.mul), Bv (ln.add), Dv (ln.add), Bv (ln.div), Dv (ln.div)])]) ?_ rfl
            refine ⟨[.agg [Bv (ln.mul), Dv (ln.mul), Bv (ln.add), Dv (ln.add), Bv (ln.div), Dv (ln.div)]], ⟨⟨8007, .var 88 [Bv (ln.mul), Dv (ln.mul), Bv (ln.add), Dv (ln.add), Bv (ln.div), Dv (ln.div)], rfl, rfl, rfl, Or.inl ⟨f87_, AV.le_refl _⟩⟩, trivial⟩, ?_⟩
            have e9 : v = (wordT m.mod.toNat (j + 1) t).length := (by omega)
            exact congrArg linW (by rw [hl2, e9, List.take_length])
          refine o_alloc 8006 [Fv, Zv, Fv, Zv, Fv, Zv] gn f80_ rfl rfl rfl ?_
          refine o_store [(8006, .var 88 [Bv ((lineZ m (wordT m.mod.toNat (j + 1) t)).mul), Dv ((lineZ m (wordT m.mod.toNat (j + 1) t)).mul), Bv ((lineZ m (wordT m.mod.toNat (j + 1) t)).add), Dv ((lineZ m (wordT m.mod.toNat (j + 1) t)).add), Bv ((lineZ m (wordT m.mod.toNat (j + 1) t)).div), Dv ((lineZ m (wordT m.mod.toNat (j + 1) t)).div)]), (8005, .var 53 [Fv, Zv, Fv, Zv]), (8004, oM 28 m), (9014, .pin [.row 8003, mapV m, .row 8003, Iv k, .ref 2 0, .row 50, .ref 20 0, .ref 201 0, .clo 38 [.ref 8001 0, .ref 8002 0], .row 8003, .row 8003, bp (firstP (wordT m.mod.toNat (j + 1) t)), bp (¬ (firstP (wordT m.mod.toNat (j + 1) t)))] us5), (9001, .blk (.loop (lrec fn tmps ps' as' bo' D .busy none))), (9005, .pin [.lit (.func (.yield l) #[] #[]), .row 8003, .lit (.func (.yield l) #[] #[]), .ref 8001 0, .ref 8002 0, .row 8003] us), (9002, .blk (.deferred (some []))), (9003, pinA [(1, Iv k), (2, .ref 2 0), (8, .row 50), (9, .ref 20 0), (10, .ref 201 0), (48, .clo 38 [.ref 8001 0, .ref 8002 0])] tmps), (9004, pinL l D), (8001, .var 3 [Nv (j + 1)]), (8002, oM 28 m), (2, oM 28 m), (20, .var 3 [Nv (j + 1)]), (201, .var 45 [.row 61]), (50, .row 41 1 (gcells cP (cyU m j))), (8003, .row 3 1 (is .i64 (wordT m.mod.toNat (j + 1) t))), (61, .row 57 1 (gcells cV (lsT m (j + 1) t)))] gn f82_ rfl rfl rfl rfl rfl rfl ?_
          refine aops_end (hK31 _ (awp_seq fun K45 hK45 => awp_regionD rfl ?_))
          refine o_fieldRef 2 gn f85_ rfl rfl ?_
          refine o_loadA [Bv ((lineZ m (wordT m.mod.toNat (j + 1) t)).add), Dv ((lineZ m (wordT m.mod.toNat (j + 1) t)).add)] gn f20_ rfl rfl rfl rfl rfl ?_
          refine o_fieldRef 4 gn f86_ rfl rfl ?_
          refine o_loadA [Bv ((lineZ m (wordT m.mod.toNat (j + 1) t)).div), Dv ((lineZ m (wordT m.mod.toNat (j + 1) t)).div)] gn f20_ rfl rfl rfl rfl rfl ?_
          refine o_fieldRef 0 gn f84_ rfl rfl ?_
          refine o_loadA [Bv ((lineZ m (wordT m.mod.toNat (j + 1) t)).mul), Dv ((lineZ m (wordT m.mod.toNat (j + 1) t)).mul)] gn f20_ rfl rfl rfl rfl rfl ?_
          refine o_ct (c_wSub ((lineZ m (wordT m.mod.toNat (j + 1) t)).div) ((lineZ m (wordT m.mod.toNat (j + 1) t)).mul) (by first | omega | assumption | (simp only [Int.natAbs_neg]; omega)) (by first | omega | assumption | (simp only [Int.natAbs_neg]; omega))) gn f47_ rfl ?_
          refine o_ct (c_yRed ((lineZ m (wordT m.mod.toNat (j + 1) t)).add) (((lineZ m (wordT m.mod.toNat (j + 1) t)).div) - ((lineZ m (wordT m.mod.toNat (j + 1) t)).mul)) (by first | omega | assumption) (by first | omega | assumption) (by first | omega | assumption)) gn f101_ rfl ?_
          refine o_store [(8006, .var 88 [Bv ((lineZ m (wordT m.mod.toNat (j + 1) t)).mul), Dv ((lineZ m (wordT m.mod.toNat (j + 1) t)).mul), Bv ((lineZ m (wordT m.mod.toNat (j + 1) t)).add), Dv ((lineZ m (wordT m.mod.toNat (j + 1) t)).add), Bv ((lineZ m (wordT m.mod.toNat (j + 1) t)).div), Dv ((lineZ m (wordT m.mod.toNat (j + 1) t)).div)]), (8005, .var 53 [bp ((redZ ((lineZ m (wordT m.mod.toNat (j + 1) t)).add) (((lineZ m (wordT m.mod.toNat (j + 1) t)).div) - ((lineZ m (wordT m.mod.toNat (j + 1) t)).mul))).num < 0), .sl 1 (ns .u32 (digs ((redZ ((lineZ m (wordT m.mod.toNat (j + 1) t)).add) (((lineZ m (wordT m.mod.toNat (j + 1) t)).div) - ((lineZ m (wordT m.mod.toNat (j + 1) t)).mul))).num).natAbs)), bp ((redZ ((lineZ m (wordT m.mod.toNat (j + 1) t)).add) (((lineZ m (wordT m.mod.toNat (j + 1) t)).div) - ((lineZ m (wordT m.mod.toNat (j + 1) t)).mul))).den < 0), .sl 1 (ns .u32 (digs ((redZ ((lineZ m (wordT m.mod.toNat (j + 1) t)).add) (((lineZ m (wordT m.mod.toNat (j + 1) t)).div) - ((lineZ m (wordT m.mod.toNat (j + 1) t)).mul))).den).natAbs))]), (8004, oM 28 m), (9014, .pin [.row 8003, mapV m, .row 8003, Iv k, .ref 2 0, .row 50, .ref 20 0, .ref 201 0, .clo 38 [.ref 8001 0, .ref 8002 0], .row 8003, .row 8003, bp (firstP (wordT m.mod.toNat (j + 1) t)), bp (¬ (firstP (wordT m.mod.toNat (j + 1) t)))] us5), (9001, .blk (.loop (lrec fn tmps ps' as' bo' D .busy none))), (9005, .pin [.lit (.func (.yield l) #[] #[]), .row 8003, .lit (.func (.yield l) #[] #[]), .ref 8001 0, .ref 8002 0, .row 8003] us), (9002, .blk (.deferred (some []))), (9003, pinA [(1, Iv k), (2, .ref 2 0), (8, .row 50), (9, .ref 20 0), (10, .ref 201 0), (48, .clo 38 [.ref 8001 0, .ref 8002 0])] tmps), (9004, pinL l D), (8001, .var 3 [Nv (j + 1)]), (8002, oM 28 m), (2, oM 28 m), (20, .var 3 [Nv (j + 1)]), (201, .var 45 [.row 61]), (50, .row 41 1 (gcells cP (cyU m j))), (8003, .row 3 1 (is .i64 (wordT m.mod.toNat (j + 1) t))), (61, .row 57 1 (gcells cV (lsT m (j + 1) t)))] gn f91_ rfl rfl rfl rfl rfl rfl ?_
          refine aops_end ⟨by kernel_rfl, ?_⟩
          refine hK45 _ ?_
          refine awp_wk (σ' := ⟨[(4, .ref 8005 0)], [(9014, .pin [.row 8003, mapV m, .row 8003, Iv k, .ref 2 0, .row 50, .ref 20 0, .ref 201 0, .clo 38 [.ref 8001 0, .ref 8002 0], .row 8003, .row 8003, bp (firstP (wordT m.mod.toNat (j + 1) t)), bp (¬ (firstP (wordT m.mod.toNat (j + 1) t)))] us5), (9001, .blk (.loop (lrec fn tmps ps' as' bo' D .busy none))), (9005, .pin [.lit (.func (.yield l) #[] #[]), .row 8003, .lit (.func (.yield l) #[] #[]), .ref 8001 0, .ref 8002 0, .row 8003] us), (9002, .blk (.deferred (some []))), (9003, pinA [(1, Iv k), (2, .ref 2 0), (8, .row 50), (9, .ref 20 0), (10, .ref 201 0), (48, .clo 38 [.ref 8001 0, .ref 8002 0])] tmps), (9004, pinL l D), (8001, .var 3 [Nv (j + 1)]), (8002, oM 28 m), (2, oM 28 m), (20, .var 3 [Nv (j + 1)]), (201, .var 45 [.row 61]), (50, .row 41 1 (gcells cP (cyU m j))), (8003, .row 3 1 (is .i64 (wordT m.mod.toNat (j + 1) t))), (61, .row 57 1 (gcells cV (lsT m (j + 1) t))), (8005, .var 53 [bp ((redZ ((lineZ m (wordT m.mod.toNat (j + 1) t)).add) (((lineZ m (wordT m.mod.toNat (j + 1) t)).div) - ((lineZ m (wordT m.mod.toNat (j + 1) t)).mul))).num < 0), .sl 1 (ns .u32 (digs ((redZ ((lineZ m (wordT m.mod.toNat (j + 1) t)).add) (((lineZ m (wordT m.mod.toNat (j + 1) t)).div) - ((lineZ m (wordT m.mod.toNat (j + 1) t)).mul))).num).natAbs)), bp ((redZ ((lineZ m (wordT m.mod.toNat (j + 1) t)).add) (((lineZ m (wordT m.mod.toNat (j + 1) t)).div) - ((lineZ m (wordT m.mod.toNat (j + 1) t)).mul))).den < 0), .sl 1 (ns .u32 (digs ((redZ ((lineZ m (wordT m.mod.toNat (j + 1) t)).add) (((lineZ m (wordT m.mod.toNat (j + 1) t)).div) - ((lineZ m (wordT m.mod.toNat (j + 1) t)).mul))).den).natAbs))])]⟩) (Wk.sub ⟨rfl, trivial⟩ ⟨rfl, rfl, rfl, rfl, rfl, rfl, rfl, rfl, rfl, rfl, rfl, rfl, rfl, rfl, rfl, trivial⟩) ?_
          refine awp_ret ?_
          try dsimp only [thenK, inBlk]
          refine postS_ret (extra := [(8005, .var 53 [bp ((redZ ((lineZ m (wordT m.mod.toNat (j + 1) t)).add) (((lineZ m (wordT m.mod.toNat (j + 1) t)).div) - ((lineZ m (wordT m.mod.toNat (j + 1) t)).mul))).num < 0), .sl 1 (ns .u32 (digs ((redZ ((lineZ m (wordT m.mod.toNat (j + 1) t)).add) (((lineZ m (wordT m.mod.toNat (j + 1) t)).div) - ((lineZ m (wordT m.mod.toNat (j + 1) t)).mul))).num).natAbs)), bp ((redZ ((lineZ m (wordT m.mod.toNat (j + 1) t)).add) (((lineZ m (wordT m.mod.toNat (j + 1) t)).div) - ((lineZ m (wordT m.mod.toNat (j + 1) t)).mul))).den < 0), .sl 1 (ns .u32 (digs ((redZ ((lineZ m (wordT m.mod.toNat (j + 1) t)).add) (((lineZ m (wordT m.mod.toNat (j + 1) t)).div) - ((lineZ m (wordT m.mod.toNat (j + 1) t)).mul))).den).natAbs))])]) ?_ rfl
          refine ⟨[.agg [bp ((redZ ((lineZ m (wordT m.mod.toNat (j + 1) t)).add) (((lineZ m (wordT m.mod.toNat (j + 1) t)).div) - ((lineZ m (wordT m.mod.toNat (j + 1) t)).mul))).num < 0), .sl 1 (ns .u32 (digs ((redZ ((lineZ m (wordT m.mod.toNat (j + 1) t)).add) (((lineZ m (wordT m.mod.toNat (j + 1) t)).div) - ((lineZ m (wordT m.mod.toNat (j + 1) t)).mul))).num).natAbs)), bp ((redZ ((lineZ m (wordT m.mod.toNat (j + 1) t)).add) (((lineZ m (wordT m.mod.toNat (j + 1) t)).div) - ((lineZ m (wordT m.mod.toNat (j + 1) t)).mul))).den < 0), .sl 1 (ns .u32 (digs ((redZ ((lineZ m (wordT m.mod.toNat (j + 1) t)).add) (((lineZ m (wordT m.mod.toNat (j + 1) t)).div) - ((lineZ m (wordT m.mod.toNat (j + 1) t)).mul))).den).natAbs))]], ⟨⟨8005, .var 53 [bp ((redZ ((lineZ m (wordT m.mod.toNat (j + 1) t)).add) (((lineZ m (wordT m.mod.toNat (j + 1) t)).div) - ((lineZ m (wordT m.mod.toNat (j + 1) t)).mul))).num < 0), .sl 1 (ns .u32 (digs ((redZ ((lineZ m (wordT m.mod.toNat (j + 1) t)).add) (((lineZ m (wordT m.mod.toNat (j + 1) t)).div) - ((lineZ m (wordT m.mod.toNat (j + 1) t)).mul))).num).natAbs)), bp ((redZ ((lineZ m (wordT m.mod.toNat (j + 1) t)).add) (((lineZ m (wordT m.mod.toNat (j + 1) t)).div) - ((lineZ m (wordT m.mod.toNat (j + 1) t)).mul))).den < 0), .sl 1 (ns .u32 (digs ((redZ ((lineZ m (wordT m.mod.toNat (j + 1) t)).add) (((lineZ m (wordT m.mod.toNat (j + 1) t)).div) - ((lineZ m (wordT m.mod.toNat (j + 1) t)).mul))).den).natAbs))], rfl, rfl, rfl, Or.inl ⟨f92_, AV.le_refl _⟩⟩, trivial⟩, ?_⟩
          rfl
         refine o_alloc 8004 [Fv, Zv, Fv, Zv] gn f88_ rfl rfl rfl ?_
         refine o_store [(8004, .var 53 [bp ((fixZ m (wordT m.mod.toNat (j + 1) t)).num < 0), .sl 1 (ns .u32 (digs ((fixZ m (wordT m.mod.toNat (j + 1) t)).num).natAbs)), bp ((fixZ m (wordT m.mod.toNat (j + 1) t)).den < 0), .sl 1 (ns .u32 (digs ((fixZ m (wordT m.mod.toNat (j + 1) t)).den).natAbs))]), (9001, .blk (.loop (lrec fn tmps ps' as' bo' D .busy none))), (9005, .pin [.lit (.func (.yield l) #[] #[]), .row 8003, .lit (.func (.yield l) #[] #[]), .ref 8001 0, .ref 8002 0, .row 8003] us), (9002, .blk (.deferred (some []))), (9003, pinA [(1, Iv k), (2, .ref 2 0), (8, .row 50), (9, .ref 20 0), (10, .ref 201 0), (48, .clo 38 [.ref 8001 0, .ref 8002 0])] tmps), (9004, pinL l D), (8001, .var 3 [Nv (j + 1)]), (8002, oM 28 m), (2, oM 28 m), (20, .var 3 [Nv (j + 1)]), (201, .var 45 [.row 61]), (50, .row 41 1 (gcells cP (cyU m j))), (8003, .row 3 1 (is .i64 (wordT m.mod.toNat (j + 1) t))), (61, .row 57 1 (gcells cV (lsT m (j + 1) t)))] gn f91_ rfl rfl rfl rfl rfl rfl ?_
         refine aops_end (hK29 _ (awp_seq fun K46 hK46 => awp_regionD rfl ?_))
         refine o_fieldRef 2 gn f96_ rfl rfl ?_
         refine o_loadA [bp ((fixZ m (wordT m.mod.toNat (j + 1) t)).den < 0), .sl 1 (ns .u32 (digs ((fixZ m (wordT m.mod.toNat (j + 1) t)).den).natAbs))] gn f20_ rfl rfl rfl rfl rfl ?_
         refine o_ct (c_wOf (1 : Int) (by first | decide | omega) (by first | decide | omega)) gn f46_ rfl ?_
         refine o_ct (c_wCmp ((fixZ m (wordT m.mod.toNat (j + 1) t)).den) (1 : Int)) gn f115_ rfl ?_
         refine o_eql (a := (cmpZ ((fixZ m (wordT m.mod.toNat (j + 1) t)).den) (1 : Int))) (c := ((0 : Nat) : Int)) gn rfl rfl ?_
         refine aops_end ⟨by kernel_rfl, ?_⟩
         refine hK46 _ ?_
         refine awp_condQ (q := (cmpZ ((fixZ m (wordT m.mod.toNat (j + 1) t)).den) (1 : Int)) = ((0 : Nat) : Int)) rfl (fun h9 => ?_) (fun h9 => ?_)
         ·refine awp_regionD rfl ?_
          refine o_loadS (.row 61) gn f121_ rfl rfl rfl ?_
          refine o_loadA [Iv m.mod, Lv m.mul, Lv m.add] gn f64_ rfl rfl rfl rfl rfl ?_
          refine o_fieldRef 0 gn f94_ rfl rfl ?_
          refine o_loadA [bp ((fixZ m (wordT m.mod.toNat (j + 1) t)).num < 0), .sl 1 (ns .u32 (digs ((fixZ m (wordT m.mod.toNat (j + 1) t)).num).natAbs))] gn f20_ rfl rfl rfl rfl rfl ?_
          refine o_loadS (Nv (j + 1)) gn f11_ rfl rfl rfl ?_
          refine o_ct (c_loop m ((fixZ m (wordT m.mod.toNat (j + 1) t)).num) (j + 1) hM (by omega) (by omega) (by omega)) gn f122_ rfl ?_
          refine o_buildSlice 8005 (gcells cV ([cyc m ((fixZ m (wordT m.mod.toNat (j + 1) t)).num) (j + 1)])) [(0, [.sl 2 (gcells cW (cyc m ((fixZ m (wordT m.mod.toNat (j + 1) t)).num) (j + 1)))])] gn f123_ rfl f124_ rfl rfl rfl rfl rfl rfl rfl ?_
          refine g_append cV 8006 (lsT m (j + 1) t) ([cyc m ((fixZ m (wordT m.mod.toNat (j + 1) t)).num) (j + 1)]) [(8005, .row 57 1 (gcells cV ([cyc m ((fixZ m (wordT m.mod.toNat (j + 1) t)).num) (j + 1)]))), (8004, .var 53 [bp ((fixZ m (wordT m.mod.toNat (j + 1) t)).num < 0), .sl 1 (ns .u32 (digs ((fixZ m (wordT m.mod.toNat (j + 1) t)).num).natAbs)), bp ((fixZ m (wordT m.mod.toNat (j + 1) t)).den < 0), .sl 1 (ns .u32 (digs ((fixZ m (wordT m.mod.toNat (j + 1) t)).den).natAbs))]), (9001, .blk (.loop (lrec fn tmps ps' as' bo' D .busy none))), (9005, .pin [.lit (.func (.yield l) #[] #[]), .row 8003, .lit (.func (.yield l) #[] #[]), .ref 8001 0, .ref 8002 0, .row 8003] us), (9002, .blk (.deferred (some []))), (9003, pinA [(1, Iv k), (2, .ref 2 0), (8, .row 50), (9, .ref 20 0), (10, .ref 201 0), (48, .clo 38 [.ref 8001 0, .ref 8002 0])] tmps), (9004, pinL l D), (8001, .var 3 [Nv (j + 1)]), (8002, oM 28 m), (2, oM 28 m), (20, .var 3 [Nv (j + 1)]), (201, .var 45 [.row 61]), (50, .row 41 1 (gcells cP (cyU m j))), (8003, .row 3 1 (is .i64 (wordT m.mod.toNat (j + 1) t)))] cV_len rfl gn f123_ f124_ rfl rfl rfl rfl rfl (by simp only [List.length_append, List.length_cons, List.length_nil]; omega) (by simp only [List.length_append, List.length_cons, List.length_nil]; omega) rfl rfl ?_
          refine o_store [(8006, .row 57 1 (gcells cV ((lsT m (j + 1) t) ++ ([cyc m ((fixZ m (wordT m.mod.toNat (j + 1) t)).num) (j + 1)])))), (8005, .row 57 1 (gcells cV ([cyc m ((fixZ m (wordT m.mod.toNat (j + 1) t)).num) (j + 1)]))), (8004, .var 53 [bp ((fixZ m (wordT m.mod.toNat (j + 1) t)).num < 0), .sl 1 (ns .u32 (digs ((fixZ m (wordT m.mod.toNat (j + 1) t)).num).natAbs)), bp ((fixZ m (wordT m.mod.toNat (j + 1) t)).den < 0), .sl 1 (ns .u32 (digs ((fixZ m (wordT m.mod.toNat (j + 1) t)).den).natAbs))]), (9001, .blk (.loop (lrec fn tmps ps' as' bo' D .busy none))), (9005, .pin [.lit (.func (.yield l) #[] #[]), .row 8003, .lit (.func (.yield l) #[] #[]), .ref 8001 0, .ref 8002 0, .row 8003] us), (9002, .blk (.deferred (some []))), (9003, pinA [(1, Iv k), (2, .ref 2 0), (8, .row 50), (9, .ref 20 0), (10, .ref 201 0), (48, .clo 38 [.ref 8001 0, .ref 8002 0])] tmps), (9004, pinL l D), (8001, .var 3 [Nv (j + 1)]), (8002, oM 28 m), (2, oM 28 m), (20, .var 3 [Nv (j + 1)]), (201, .var 45 [.row 8006]), (50, .row 41 1 (gcells cP (cyU m j))), (8003, .row 3 1 (is .i64 (wordT m.mod.toNat (j + 1) t)))] gn f125_ rfl rfl rfl rfl rfl rfl ?_
          refine aops_end ⟨by kernel_rfl, ?_⟩
          exact ⟨[(9002, .blk (.deferred (some []))), (9003, pinA [(1, Iv k), (2, .ref 2 0), (8, .row 50), (9, .ref 20 0), (10, .ref 201 0), (48, .clo 38 [.ref 8001 0, .ref 8002 0])] tmps), (9004, pinL l D), (8001, .var 3 [Nv (j + 1)]), (8002, oM 28 m), (2, oM 28 m), (20, .var 3 [Nv (j + 1)]), (201, .var 45 [.row 61]), (50, .row 41 1 (gcells cP (cyU m j))), (8003, .row 3 1 (is .i64 (wordT m.mod.toNat (j + 1) t))), (61, .row 57 1 (gcells cV (lsT m (j + 1) (t + 1))))], Wk.trans (Wk.sub (σ' := ⟨[], [(9005, .pin [.lit (.func (.yield l) #[] #[]), .row 8003, .lit (.func (.yield l) #[] #[]), .ref 8001 0, .ref 8002 0, .row 8003] us), (9001, .blk (.loop (lrec fn tmps ps' as' bo' D .busy none))), (9002, .blk (.deferred (some []))), (9003, pinA [(1, Iv k), (2, .ref 2 0), (8, .row 50), (9, .ref 20 0), (10, .ref 201 0), (48, .clo 38 [.ref 8001 0, .ref 8002 0])] tmps), (9004, pinL l D), (8001, .var 3 [Nv (j + 1)]), (8002, oM 28 m), (2, oM 28 m), (20, .var 3 [Nv (j + 1)]), (201, .var 45 [.row 8006]), (8006, .row 57 1 (gcells cV ((lsT m (j + 1) t) ++ ([cyc m ((fixZ m (wordT m.mod.toNat (j + 1) t)).num) (j + 1)])))), (50, .row 41 1 (gcells cP (cyU m j))), (8003, .row 3 1 (is .i64 (wordT m.mod.toNat (j + 1) t)))]⟩) trivial ⟨rfl, rfl, rfl, rfl, rfl, rfl, rfl, rfl, rfl, rfl, rfl, rfl, rfl, trivial⟩) (Wk.trans (Wk.ren (id := 8006) (id' := 61) rfl) (Wk.sub trivial ⟨(by first | rfl | (first | exact row_gs' (lsT_y (Decidable.not_not.1 (by assumption)) (cmpZ_eq0.1 (by assumption))) | exact row_gs' (lsT_n (fun e => absurd e.1 (by assumption))) | exact row_gs' (lsT_n (fun e => absurd (cmpZ_eq0.2 e.2) (by assumption))) | exact row_gs' (out_s (by omega) (by rw [loo_len hlo]; omega)) | exact row_gs' (by rw [List.take_of_length_le (by omega)]; rfl) | exact row_gs' (by simp))), (by first | rfl | (first | exact row_gs' (lsT_y (Decidable.not_not.1 (by assumption)) (cmpZ_eq0.1 (by assumption))) | exact row_gs' (lsT_n (fun e => absurd e.1 (by assumption))) | exact row_gs' (lsT_n (fun e => absurd (cmpZ_eq0.2 e.2) (by assumption))) | exact row_gs' (out_s (by omega) (by rw [loo_len hlo]; omega)) | exact row_gs' (by rw [List.take_of_length_le (by omega)]; rfl) | exact row_gs' (by simp))), (by first | rfl | (first | exact row_gs' (lsT_y (Decidable.not_not.1 (by assumption)) (cmpZ_eq0.1 (by assumption))) | exact row_gs' (lsT_n (fun e => absurd e.1 (by assumption))) | exact row_gs' (lsT_n (fun e => absurd (cmpZ_eq0.2 e.2) (by assumption))) | exact row_gs' (out_s (by omega) (by rw [loo_len hlo]; omega)) | exact row_gs' (by rw [List.take_of_length_le (by omega)]; rfl) | exact row_gs' (by simp))), (by first | rfl | (first | exact row_gs' (lsT_y (Decidable.not_not.1 (by assumption)) (cmpZ_eq0.1 (by assumption))) | exact row_gs' (lsT_n (fun e => absurd e.1 (by assumption))) | exact row_gs' (lsT_n (fun e => absurd (cmpZ_eq0.2 e.2) (by assumption))) | exact row_gs' (out_s (by omega) (by rw [loo_len hlo]; omega)) | exact row_gs' (by rw [List.take_of_length_le (by omega)]; rfl) | exact row_gs' (by simp))), (by first | rfl | (first | exact row_gs' (lsT_y (Decidable.not_not.1 (by assumption)) (cmpZ_eq0.1 (by assumption))) | exact row_gs' (lsT_n (fun e => absurd e.1 (by assumption))) | exact row_gs' (lsT_n (fun e => absurd (cmpZ_eq0.2 e.2) (by assumption))) | exact row_gs' (out_s (by omega) (by rw [loo_len hlo]; omega)) | exact row_gs' (by rw [List.take_of_length_le (by omega)]; rfl) | exact row_gs' (by simp))), rfl, rfl, rfl, rfl, (by first | rfl | (first | exact row_gs' (lsT_y (Decidable.not_not.1 (by assumption)) (cmpZ_eq0.1 (by assumption))) | exact row_gs' (lsT_n (fun e => absurd e.1 (by assumption))) | exact row_gs' (lsT_n (fun e => absurd (cmpZ_eq0.2 e.2) (by assumption))) | exact row_gs' (out_s (by omega) (by rw [loo_len hlo]; omega)) | exact row_gs' (by rw [List.take_of_length_le (by omega)]; rfl) | exact row_gs' (by simp))), (by first | rfl | exact row_ns (by simp) | (first | exact row_gs' (lsT_y (Decidable.not_not.1 (by assumption)) (cmpZ_eq0.1 (by assumption))) | exact row_gs' (lsT_n (fun e => absurd e.1 (by assumption))) | exact row_gs' (lsT_n (fun e => absurd (cmpZ_eq0.2 e.2) (by assumption))) | exact row_gs' (out_s (by omega) (by rw [loo_len hlo]; omega)) | exact row_gs' (by rw [List.take_of_length_le (by omega)]; rfl) | exact row_gs' (by simp))), (by first | rfl | exact row_ns (by simp) | (first | exact row_gs' (lsT_y (Decidable.not_not.1 (by assumption)) (cmpZ_eq0.1 (by assumption))) | exact row_gs' (lsT_n (fun e => absurd e.1 (by assumption))) | exact row_gs' (lsT_n (fun e => absurd (cmpZ_eq0.2 e.2) (by assumption))) | exact row_gs' (out_s (by omega) (by rw [loo_len hlo]; omega)) | exact row_gs' (by rw [List.take_of_length_le (by omega)]; rfl) | exact row_gs' (by simp))), (by first | rfl | exact row_ns (by simp) | (first | exact row_gs' (lsT_y (Decidable.not_not.1 (by assumption)) (cmpZ_eq0.1 (by assumption))) | exact row_gs' (lsT_n (fun e => absurd e.1 (by assumption))) | exact row_gs' (lsT_n (fun e => absurd (cmpZ_eq0.2 e.2) (by assumption))) | exact row_gs' (out_s (by omega) (by rw [loo_len hlo]; omega)) | exact row_gs' (by rw [List.take_of_length_le (by omega)]; rfl) | exact row_gs' (by simp))), trivial⟩)), rfl, rfl, rfl⟩
         ·refine awp_skip ?_
          exact ⟨[(9002, .blk (.deferred (some []))), (9003, pinA [(1, Iv k), (2, .ref 2 0), (8, .row 50), (9, .ref 20 0), (10, .ref 201 0), (48, .clo 38 [.ref 8001 0, .ref 8002 0])] tmps), (9004, pinL l D), (8001, .var 3 [Nv (j + 1)]), (8002, oM 28 m), (2, oM 28 m), (20, .var 3 [Nv (j + 1)]), (201, .var 45 [.row 61]), (50, .row 41 1 (gcells cP (cyU m j))), (8003, .row 3 1 (is .i64 (wordT m.mod.toNat (j + 1) t))), (61, .row 57 1 (gcells cV (lsT m (j + 1) (t + 1))))], Wk.sub trivial ⟨rfl, rfl, rfl, rfl, rfl, rfl, rfl, rfl, rfl, rfl, rfl, rfl, (by first | rfl | exact row_ns (by simp) | (first | exact row_gs' (lsT_y (Decidable.not_not.1 (by assumption)) (cmpZ_eq0.1 (by assumption))) | exact row_gs' (lsT_n (fun e => absurd e.1 (by assumption))) | exact row_gs' (lsT_n (fun e => absurd (cmpZ_eq0.2 e.2) (by assumption))) | exact row_gs' (out_s (by omega) (by rw [loo_len hlo]; omega)) | exact row_gs' (by rw [List.take_of_length_le (by omega)]; rfl) | exact row_gs' (by simp))), trivial⟩, rfl, rfl, rfl⟩
       case aft4 =>
        rintro b σ2 (⟨rfl, m', rfl, rfl⟩ | ⟨_, _, _, _, hF⟩)
        ·refine o_not (b := true) gn rfl ?_
         refine aops_end (hK26 _ ?_)
         refine awp_condB (b := false) rfl (fun hh => absurd (hh.symm.trans rfl) (by decide)) (fun _ => ?_)
         refine awp_skip (hK25 _ (awp_seq fun K47 hK47 => awp_region rfl ?_))
         refine o_loadS (Nv (j + 1)) gn f11_ rfl rfl rfl ?_
         refine n_sub (j + 1) 1 gn rfl rfl (by omega) (by simp only [topOf]; omega) ?_
         refine o_as (Nv ((j + 1) - 1)) rfl (aops_end (hK47 _ (awp_seq fun K48 hK48 => ?_)))
         refine awp_block ?_
         refine awp_loopR (fun κ σ => ∃ (w : List Int), ∃ (q : Nat), (nextP m (j + 1) t w q) ∧ ((j + 1) - q) = κ ∧ σ = ⟨[(0, .lit (.func (.yield l) #[] #[])), (1, .ref 8001 0), (2, .ref 8002 0), (4, .row 8003), (5, (Iv ((((j + 1) : Nat) : Int) - 1 - ((q : Nat) : Int))))], [(9001, .blk (.loop (lrec fn tmps ps' as' bo' D .ready none))), (9002, .blk (.deferred (some []))), (9003, pinA [(1, Iv k), (2, .ref 2 0), (8, .row 50), (9, .ref 20 0), (10, .ref 201 0), (48, .clo 38 [.ref 8001 0, .ref 8002 0])] tmps), (9004, pinL l D), (8001, .var 3 [Nv (j + 1)]), (8002, oM 28 m), (2, oM 28 m), (20, .var 3 [Nv (j + 1)]), (201, .var 45 [.row 61]), (50, .row 41 1 (gcells cP (cyU m j))), (61, .row 57 1 (gcells cV (lsT m (j + 1) (t + 1)))), (8003, .row 3 1 (is .i64 w))]⟩) ⟨_, _, ⟨wordT m.mod.toNat (j + 1) t, 0, next_0 hM ht, rfl, rfl⟩, ?wk9⟩ ?rd9
         case wk9 =>
          exact Wk.sub ⟨rfl, rfl, rfl, rfl, (by first | rfl | exact int_eq (by omega) | exact int_nm (by omega)), trivial⟩ ⟨rfl, rfl, rfl, rfl, rfl, rfl, rfl, rfl, rfl, rfl, rfl, (by first | rfl | exact row_ns (by simp) | (first | exact row_is' (next_y hM hnx (by omega) (fun e => by omega)).1 | exact row_gs' (congrArg (lsT m (j + 1)) (next_tot hM hnx (by omega) ht)) | exact row_start _ _ _)), trivial⟩
         rintro κ _ ⟨w, q, hnx, rfl, rfl⟩
         have hwl := hnx.2.1
         have hq0 := hnx.2.2.1
         refine awp_seq fun K49 hK49 => awp_seq fun K50 hK50 => awp_regionD rfl (o_mv (Iv ((((j + 1) : Nat) : Int) - 1 - ((q : Nat) : Int))) rfl ?_)
         refine o_geq (a := ((((j + 1) : Nat) : Int) - 1 - ((q : Nat) : Int))) (c := ((0 : Nat) : Int)) gn rfl rfl ?_
         refine o_mv (bp (((0 : Nat) : Int) ≤ ((((j + 1) : Nat) : Int) - 1 - ((q : Nat) : Int)))) rfl ?_
         refine o_splitP (q := ((0 : Nat) : Int) ≤ ((((j + 1) : Nat) : Int) - 1 - ((q : Nat) : Int))) 16 rfl (fun h10 => ?_) (fun h10 => ?_)
         ·refine o_move (.row 8003) (Gd.yes rfl rfl (decide_eq_true h10)) rfl (o_move (Iv ((((j + 1) : Nat) : Int) - 1 - ((q : Nat) : Int))) (Gd.yes rfl rfl (decide_eq_true h10)) rfl ?_)
          refine n_as (v' := (Nv ((j + 1) - 1 - q))) (nm_int (by omega)) ?_
          refine i_indexRow w ((j + 1) - 1 - q) (Gd.yes rfl rfl (decide_eq_true h10)) f10_ rfl rfl rfl (by omega) ?_
          refine i_loadRow w ((j + 1) - 1 - q) (Gd.yes rfl rfl (decide_eq_true h10)) f11_ rfl rfl (by omega) ?_
          refine o_fieldRef 0 (Gd.yes rfl rfl (decide_eq_true h10)) f62_ rfl rfl ?_
          refine o_loadS (Iv m.mod) (Gd.yes rfl rfl (decide_eq_true h10)) f11_ rfl rfl rfl ?_
          refine o_sub (a := m.mod) (c := ((1 : Nat) : Int)) (Gd.yes rfl rfl (decide_eq_true h10)) rfl rfl (by exact wrap64 (by omega) (by omega)) ?_
          refine o_eql (a := (w.getD ((j + 1) - 1 - q) 0)) (c := (m.mod - ((1 : Nat) : Int))) (Gd.yes rfl rfl (decide_eq_true h10)) rfl rfl ?_
          refine o_pickT (bp ((w.getD ((j + 1) - 1 - q) 0) = (m.mod - ((1 : Nat) : Int)))) gn rfl (decide_eq_true h10) rfl ?_
          refine aops_end ⟨by kernel_rfl, ?_⟩
          refine hK50 _ ?_
          refine awp_condQ (q := (w.getD ((j + 1) - 1 - q) 0) = (m.mod - ((1 : Nat) : Int))) rfl (fun h11 => ?_) (fun h11 => ?_)
          ·refine awp_skip (hK49 _ ?_)
           refine awp_block ?_
           refine awp_seq fun K51 hK51 => awp_region rfl (o_mv (.row 8003) rfl (o_mv (Iv ((((j + 1) : Nat) : Int) - 1 - ((q : Nat) : Int))) rfl ?_))
           refine n_as (v' := (Nv ((j + 1) - 1 - q))) (nm_int (by omega)) ?_
           refine i_indexRow w ((j + 1) - 1 - q) gn f10_ rfl rfl rfl (by omega) ?_
           refine i_storeRow w ((j + 1) - 1 - q) ((0 : Nat) : Int) [(9001, .blk (.loop (lrec fn tmps ps' as' bo' D .ready none))), (9002, .blk (.deferred (some []))), (9003, pinA [(1, Iv k), (2, .ref 2 0), (8, .row 50), (9, .ref 20 0), (10, .ref 201 0), (48, .clo 38 [.ref 8001 0, .ref 8002 0])] tmps), (9004, pinL l D), (8001, .var 3 [Nv (j + 1)]), (8002, oM 28 m), (2, oM 28 m), (20, .var 3 [Nv (j + 1)]), (201, .var 45 [.row 61]), (50, .row 41 1 (gcells cP (cyU m j))), (61, .row 57 1 (gcells cV (lsT m (j + 1) (t + 1)))), (8003, (.row 3 1 (is .i64 (w.set ((j + 1) - 1 - q) ((0 : Nat) : Int)))))] gn f41_ rfl rfl rfl (by omega) rfl ?_
           refine aops_end (hK51 _ (awp_region rfl (o_mv (Iv ((((j + 1) : Nat) : Int) - 1 - ((q : Nat) : Int))) rfl ?_)))
           refine o_sub (a := ((((j + 1) : Nat) : Int) - 1 - ((q : Nat) : Int))) (c := ((1 : Nat) : Int)) gn rfl rfl (by exact wrap64 (by omega) (by omega)) ?_
           refine o_as (Iv (((((j + 1) : Nat) : Int) - 1 - ((q : Nat) : Int)) - ((1 : Nat) : Int))) rfl (aops_end ?_)
           refine ⟨_, _, ?lt, ⟨w.set ((j + 1) - 1 - q) 0, q + 1, (next_s hM hnx (by omega) (by omega)), rfl, rfl⟩, ?wk⟩
           case lt => omega
           case wk => exact Wk.sub ⟨rfl, rfl, rfl, rfl, (by first | rfl | exact int_eq (by omega) | exact int_nm (by omega)), trivial⟩ ⟨rfl, rfl, rfl, rfl, rfl, rfl, rfl, rfl, rfl, rfl, rfl, (by first | rfl | exact row_ns (by simp) | (first | exact row_is' (next_y hM hnx (by omega) (fun e => by omega)).1 | exact row_gs' (congrArg (lsT m (j + 1)) (next_tot hM hnx (by omega) ht)) | exact row_start _ _ _)), trivial⟩
          ·refine awp_exit ?_
           refine hK48 _ (awp_seq fun K52 hK52 => awp_seq fun K53 hK53 => awp_region rfl (o_mv (Iv ((((j + 1) : Nat) : Int) - 1 - ((q : Nat) : Int))) rfl ?_))
           refine o_lss (a := ((((j + 1) : Nat) : Int) - 1 - ((q : Nat) : Int))) (c := ((0 : Nat) : Int)) gn rfl rfl ?_
           refine aops_end (hK53 _ ?_)
           refine awp_condQ (q := ((((j + 1) : Nat) : Int) - 1 - ((q : Nat) : Int)) < ((0 : Nat) : Int)) rfl (fun h12 => ?_) (fun h12 => ?_)
           ·refine awp_ret ?_
            exact ⟨.inr rfl, .ready, none, [(2, oM 28 m), (20, .var 3 [Nv (j + 1)]), (201, .var 45 [.row 61]), (61, .row 57 1 (gcells cV (lsT m (j + 1) (m.mod.toNat ^ (j + 1))))), (50, .row 41 1 (gcells cP (cyU m j)))], (by decide), ⟨rfl, rfl⟩, rfl, rfl, rfl, rfl, Wk.sub trivial ⟨rfl, rfl, rfl, rfl, rfl, rfl, rfl, (by first | rfl | exact row_ns (by simp) | (first | exact row_is' (next_y hM hnx (by omega) (fun e => by omega)).1 | exact row_gs' (congrArg (lsT m (j + 1)) (next_tot hM hnx (by omega) ht)) | exact row_start _ _ _)), rfl, trivial⟩⟩
           ·refine awp_skip (hK52 _ (awp_region rfl (o_mv (.row 8003) rfl (o_mv (Iv ((((j + 1) : Nat) : Int) - 1 - ((q : Nat) : Int))) rfl ?_))))
            refine n_as (v' := (Nv ((j + 1) - 1 - q))) (nm_int (by omega)) ?_
            refine i_indexRow w ((j + 1) - 1 - q) gn f10_ rfl rfl rfl (by omega) ?_
            refine i_loadRow w ((j + 1) - 1 - q) gn f11_ rfl rfl (by omega) ?_
            refine o_add (a := (w.getD ((j + 1) - 1 - q) 0)) (c := ((1 : Nat) : Int)) gn rfl rfl (by (have hg := isW_get hnx.1 (show (j + 1) - 1 - q < w.length by omega)); exact wrap64 (by omega) (by omega)) ?_
            refine i_indexRow w ((j + 1) - 1 - q) gn f10_ rfl rfl rfl (by omega) ?_
            refine i_storeRow w ((j + 1) - 1 - q) ((w.getD ((j + 1) - 1 - q) 0) + ((1 : Nat) : Int)) [(9001, .blk (.loop (lrec fn tmps ps' as' bo' D .ready none))), (9002, .blk (.deferred (some []))), (9003, pinA [(1, Iv k), (2, .ref 2 0), (8, .row 50), (9, .ref 20 0), (10, .ref 201 0), (48, .clo 38 [.ref 8001 0, .ref 8002 0])] tmps), (9004, pinL l D), (8001, .var 3 [Nv (j + 1)]), (8002, oM 28 m), (2, oM 28 m), (20, .var 3 [Nv (j + 1)]), (201, .var 45 [.row 61]), (50, .row 41 1 (gcells cP (cyU m j))), (61, .row 57 1 (gcells cV (lsT m (j + 1) (t + 1)))), (8003, (.row 3 1 (is .i64 (w.set ((j + 1) - 1 - q) ((w.getD ((j + 1) - 1 - q) 0) + ((1 : Nat) : Int))))))] gn f41_ rfl rfl rfl (by omega) rfl ?_
            refine aops_end ?_
            refine ⟨_, _, ?lt, ⟨t + 1, (next_y hM hnx (by omega) (fun e => by omega)).2, rfl, rfl⟩, ?wk⟩
            case lt => omega
            case wk => exact Wk.sub ⟨rfl, rfl, rfl, rfl, trivial⟩ ⟨rfl, rfl, rfl, rfl, rfl, rfl, rfl, rfl, rfl, rfl, (by first | rfl | exact row_ns (by simp) | (first | exact row_is' (next_y hM hnx (by omega) (fun e => by omega)).1 | exact row_gs' (congrArg (lsT m (j + 1)) (next_tot hM hnx (by omega) ht)) | exact row_start _ _ _)), (by first | rfl | exact row_ns (by simp) | (first | exact row_is' (next_y hM hnx (by omega) (fun e => by omega)).1 | exact row_gs' (congrArg (lsT m (j + 1)) (next_tot hM hnx (by omega) ht)) | exact row_start _ _ _)), trivial⟩
         ·refine o_skip rfl rfl (decide_eq_false h10) (o_skip rfl rfl (decide_eq_false h10) (o_skip rfl rfl (decide_eq_false h10) (o_skip rfl rfl (decide_eq_false h10) (o_skip rfl rfl (decide_eq_false h10) (o_skip rfl rfl (decide_eq_false h10) (o_skip rfl rfl (decide_eq_false h10) (o_skip rfl rfl (decide_eq_false h10) ?_)))))))
          refine o_pickF Fv gn rfl (decide_eq_false h10) rfl ?_
          refine aops_end ⟨by kernel_rfl, ?_⟩
          refine hK50 _ ?_
          refine awp_condB (b := false) rfl (fun hh => absurd (hh.symm.trans rfl) (by decide)) (fun _ => ?_)
          refine awp_exit ?_
          refine hK48 _ (awp_seq fun K54 hK54 => awp_seq fun K55 hK55 => awp_region rfl (o_mv (Iv ((((j + 1) : Nat) : Int) - 1 - ((q : Nat) : Int))) rfl ?_))
          refine o_lss (a := ((((j + 1) : Nat) : Int) - 1 - ((q : Nat) : Int))) (c := ((0 : Nat) : Int)) gn rfl rfl ?_
          refine aops_end (hK55 _ ?_)
          refine awp_condQ (q := ((((j + 1) : Nat) : Int) - 1 - ((q : Nat) : Int)) < ((0 : Nat) : Int)) rfl (fun h13 => ?_) (fun h13 => ?_)
          ·refine awp_ret ?_
           exact ⟨.inr rfl, .ready, none, [(2, oM 28 m), (20, .var 3 [Nv (j + 1)]), (201, .var 45 [.row 61]), (61, .row 57 1 (gcells cV (lsT m (j + 1) (m.mod.toNat ^ (j + 1))))), (50, .row 41 1 (gcells cP (cyU m j)))], (by decide), ⟨rfl, rfl⟩, rfl, rfl, rfl, rfl, Wk.sub trivial ⟨rfl, rfl, rfl, rfl, rfl, rfl, rfl, (by first | rfl | exact row_ns (by simp) | (first | exact row_is' (next_y hM hnx (by omega) (fun e => by omega)).1 | exact row_gs' (congrArg (lsT m (j + 1)) (next_tot hM hnx (by omega) ht)) | exact row_start _ _ _)), rfl, trivial⟩⟩
          ·refine awp_skip (hK54 _ (awp_region rfl (o_mv (.row 8003) rfl (o_mv (Iv ((((j + 1) : Nat) : Int) - 1 - ((q : Nat) : Int))) rfl ?_))))
           refine n_as (v' := (Nv ((j + 1) - 1 - q))) (nm_int (by omega)) ?_
           refine i_indexRow w ((j + 1) - 1 - q) gn f10_ rfl rfl rfl (by omega) ?_
           refine i_loadRow w ((j + 1) - 1 - q) gn f11_ rfl rfl (by omega) ?_
           refine o_add (a := (w.getD ((j + 1) - 1 - q) 0)) (c := ((1 : Nat) : Int)) gn rfl rfl (by (have hg := isW_get hnx.1 (show (j + 1) - 1 - q < w.length by omega)); exact wrap64 (by omega) (by omega)) ?_
           refine i_indexRow w ((j + 1) - 1 - q) gn f10_ rfl rfl rfl (by omega) ?_
           refine i_storeRow w ((j + 1) - 1 - q) ((w.getD ((j + 1) - 1 - q) 0) + ((1 : Nat) : Int)) [(9001, .blk (.loop (lrec fn tmps ps' as' bo' D .ready none))), (9002, .blk (.deferred (some []))), (9003, pinA [(1, Iv k), (2, .ref 2 0), (8, .row 50), (9, .ref 20 0), (10, .ref 201 0), (48, .clo 38 [.ref 8001 0, .ref 8002 0])] tmps), (9004, pinL l D), (8001, .var 3 [Nv (j + 1)]), (8002, oM 28 m), (2, oM 28 m), (20, .var 3 [Nv (j + 1)]), (201, .var 45 [.row 61]), (50, .row 41 1 (gcells cP (cyU m j))), (61, .row 57 1 (gcells cV (lsT m (j + 1) (t + 1)))), (8003, (.row 3 1 (is .i64 (w.set ((j + 1) - 1 - q) ((w.getD ((j + 1) - 1 - q) 0) + ((1 : Nat) : Int))))))] gn f41_ rfl rfl rfl (by omega) rfl ?_
           refine aops_end ?_
           refine ⟨_, _, ?lt, ⟨t + 1, (next_y hM hnx (by omega) (fun e => by omega)).2, rfl, rfl⟩, ?wk⟩
           case lt => omega
           case wk => exact Wk.sub ⟨rfl, rfl, rfl, rfl, trivial⟩ ⟨rfl, rfl, rfl, rfl, rfl, rfl, rfl, rfl, rfl, rfl, (by first | rfl | exact row_ns (by simp) | (first | exact row_is' (next_y hM hnx (by omega) (fun e => by omega)).1 | exact row_gs' (congrArg (lsT m (j + 1)) (next_tot hM hnx (by omega) ht)) | exact row_start _ _ _)), (by first | rfl | exact row_ns (by simp) | (first | exact row_is' (next_y hM hnx (by omega) (fun e => by omega)).1 | exact row_gs' (congrArg (lsT m (j + 1)) (next_tot hM hnx (by omega) ht)) | exact row_start _ _ _)), trivial⟩
        ·exact hF.elim
      case nx2 =>
       rintro fn tmps D l pe m' ⟨rfl, rfl⟩
       refine hK22 _ ?_
       refine awpM_seq fun K56 hK56 => ?_
       refine awpM_lift fun mk => ?_
       refine awp_regionSW 1 70 _ 20 [] _ _ _ _ _ [.row 61, .clo 21 []] (.tup []) [(2, oM 28 m), (20, .var 3 [Nv (j + 1)]), (201, .var 45 [.row 61]), (61, .row 57 1 (gcells cV (lpN m (j + 1)))), (50, .row 41 1 (gcells cP (cyU m j)))] rfl rfl rfl f127_ ?_
       refine o_loadS (.row 61) gn f121_ rfl rfl rfl ?_
       refine aops_end ⟨_, Wk.sub (σ' := ⟨[(1, Iv k), (2, .ref 2 0), (8, .row 50), (9, .ref 20 0), (10, .ref 201 0), (48, .clo 38 [.ref 8001 0, .ref 8002 0]), (69, .row 61)], [(2, oM 28 m), (20, .var 3 [Nv (j + 1)]), (201, .var 45 [.row 61]), (61, .row 57 1 (gcells cV (lsT m (j + 1) (m.mod.toNat ^ (j + 1))))), (50, .row 41 1 (gcells cP (cyU m j)))]⟩) ⟨rfl, rfl, rfl, rfl, rfl, rfl, rfl, trivial⟩ ⟨rfl, rfl, rfl, rfl, rfl, trivial⟩, rfl, rfl, (c_sort mk c_less f126_ 61 (lsT m (j + 1) (m.mod.toNat ^ (j + 1))) rfl (fun i => lookO_set (l := [(2, oM 28 m), (20, .var 3 [Nv (j + 1)]), (201, .var 45 [.row 61]), (61, .row 57 1 (gcells cV (lsT m (j + 1) (m.mod.toNat ^ (j + 1))))), (50, .row 41 1 (gcells cP (cyU m j)))]) (i := 61) (ob := (.row 57 1 (gcells cV (lsT m (j + 1) (m.mod.toNat ^ (j + 1)))))) rfl (.row 57 1 (gcells cV (sortK (lsT m (j + 1) (m.mod.toNat ^ (j + 1)))))) i) (lsT_ne hM hf (by omega) (by omega)) (lsT_inj hM hf (by omega) (by omega)) (by have q1 := lsT_len m (j + 1) (m.mod.toNat ^ (j + 1)); have q2 := toNat_pw hM (j + 1); omega)), ?_⟩
       refine hK56 _ ?_
       refine awpM_seq fun K57 hK57 => ?_
       refine awpM_lift fun mk => ?_
       refine awp_wk (σ' := ⟨[(1, Iv k), (2, .ref 2 0), (8, .row 50), (9, .ref 20 0), (10, .ref 201 0)], [(2, oM 28 m), (50, .row 41 1 (gcells cP (cyU m j))), (20, .var 3 [Nv (j + 1)]), (201, .var 45 [.row 61]), (61, .row 57 1 (gcells cV (lpN m (j + 1))))]⟩) (Wk.sub ⟨rfl, rfl, rfl, rfl, rfl, trivial⟩ ⟨rfl, rfl, rfl, rfl, rfl, trivial⟩) ?_
       refine awp_wk (σ' := ⟨[(1, Iv k), (2, .ref 2 0), (8, .row 50), (9, .ref 20 0), (10, .ref 201 0)], [(2, oM 28 m), (50, .row 41 1 (gcells cP (cyU m j))), (20, .var 3 [Nv (j + 1)]), (201, .var 45 [.sl 1 (gcells cV (lpN m (j + 1)))])]⟩) (Wk.freeze (id := 61) (e := 57) (sz := 1) (cs := (gcells cV (lpN m (j + 1)))) rfl) ?_
       refine awp_region rfl ?_
       refine o_loadS (.sl 1 (gcells cV (lpN m (j + 1)))) gn f121_ rfl rfl rfl ?_
       refine g_len cV (lpN m (j + 1)) cV_len gn f128_ rfl ?_
       refine o_mv (Nv 0) rfl (aops_end (hK57 _ ?_))
       refine awpM_lift fun mk => ?_
       refine awp_block ?_
       refine awp_loopR (fun κ σ => ∃ (i : Nat), (i ≤ (lpN m (j + 1)).length) ∧ ((lpN m (j + 1)).length - i) = κ ∧ σ = ⟨[(1, Iv k), (2, .ref 2 0), (8, .row 50), (9, .ref 20 0), (71, .sl 1 (gcells cV (lpN m (j + 1)))), (72, Nv ((lpN m (j + 1)).length)), (73, Nv i)], [(2, oM 28 m), (20, .var 3 [Nv (j + 1)]), (50, .row 41 1 (gcells cP (cyU m j ++ (lpN m (j + 1)).take i)))]⟩) ⟨_, _, ⟨0, Nat.zero_le _, rfl, rfl⟩, ?wk10⟩ ?rd10
       case wk10 =>
        exact Wk.sub ⟨rfl, rfl, rfl, rfl, rfl, rfl, (by first | rfl | exact nm_int (by omega)), trivial⟩ ⟨rfl, rfl, (by first | rfl | exact row_ns (by simp) | (first | exact row_gs' (lsT_y (Decidable.not_not.1 (by assumption)) (cmpZ_eq0.1 (by assumption))) | exact row_gs' (lsT_n (fun e => absurd e.1 (by assumption))) | exact row_gs' (lsT_n (fun e => absurd (cmpZ_eq0.2 e.2) (by assumption))) | exact row_gs' (out_s (by omega) (by rw [loo_len hlo]; omega)) | exact row_gs' (by rw [List.take_of_length_le (by omega)]; rfl) | exact row_gs' (by simp))), trivial⟩
       rintro κ _ ⟨i, hi, rfl, rfl⟩
       refine awp_seq fun K58 hK58 => awp_region rfl ?_
       refine n_lss i ((lpN m (j + 1)).length) gn rfl rfl ?_
       refine aops_end (hK58 _ (awp_seq fun K59 hK59 => ?_))
       refine awp_condQ (q := i < ((lpN m (j + 1)).length)) rfl (fun h14 => ?_) (fun h14 => ?_)
       ·have hlo := lpN_loo hM hf (show 0 < j + 1 by omega) (by omega) (getD_memL h14)
        have hll := loo_len hlo
        refine awp_skip (hK59 _ (awp_seq fun K60 hK60 => ?_))
        refine awp_block ?_
        refine awp_seq fun K61 hK61 => awp_region rfl ?_
        refine g_index cV (lpN m (j + 1)) i cV_len rfl gn f123_ rfl rfl (by omega) ?_
        refine g_loadS cV (lpN m (j + 1)) i default (.sl 2 (gcells cW ((lpN m (j + 1)).getD i default))) cV_len gn f129_ rfl (by omega) rfl ?_
        refine o_as (.sl 2 (gcells cW ((lpN m (j + 1)).getD i default))) rfl (aops_end (hK61 _ (awp_seq fun K62 hK62 => awp_region rfl (o_as Zv rfl (aops_end (hK62 _ (awp_seq fun K63 hK63 => awp_seq fun K64 hK64 => awp_region rfl (o_mv (.sl 2 (gcells cW ((lpN m (j + 1)).getD i default))) rfl ?_))))))))
        refine g_len cW ((lpN m (j + 1)).getD i default) cW_len gn f110_ rfl ?_
        refine n_as (v' := (Nv (j + 1))) (congrArg (nm _) (by rw [loo_len hlo])) ?_
        refine o_mv (Nv 0) rfl (aops_end (hK64 _ ?_))
        refine awp_block ?_
        refine awp_loopR (fun κ σ => ∃ (q : Nat), (q ≤ j + 1) ∧ (j + 1 - q) = κ ∧ σ = ⟨[(1, Iv k), (2, .ref 2 0), (8, .row 50), (9, .ref 20 0), (71, .sl 1 (gcells cV (lpN m (j + 1)))), (72, Nv ((lpN m (j + 1)).length)), (73, Nv i), (14, .sl 2 (gcells cW ((lpN m (j + 1)).getD i default))), (77, .sl 2 (gcells cW ((lpN m (j + 1)).getD i default))), (15, .row 51), (78, Nv (j + 1)), (79, Nv q)], [(2, oM 28 m), (20, .var 3 [Nv (j + 1)]), (50, .row 41 1 (gcells cP (cyU m j ++ (lpN m (j + 1)).take i))), (51, .row 9 1 (sbs ((((lpN m (j + 1)).getD i default).take q).map txt)))]⟩) ⟨_, _, ⟨0, Nat.zero_le _, rfl, rfl⟩, ?wk11⟩ ?rd11
        case wk11 =>
         exact Wk.trans (Wk.newNil (i := 15) (id := 1601) (e := 9) (sz := 1) rfl rfl (by decide)) (Wk.trans (Wk.sub (σ' := ⟨[(1, Iv k), (2, .ref 2 0), (8, .row 50), (9, .ref 20 0), (71, .sl 1 (gcells cV (lpN m (j + 1)))), (72, Nv ((lpN m (j + 1)).length)), (73, Nv i), (14, .sl 2 (gcells cW ((lpN m (j + 1)).getD i default))), (77, .sl 2 (gcells cW ((lpN m (j + 1)).getD i default))), (15, .row 1601), (78, Nv (j + 1)), (79, Nv 0)], [(2, oM 28 m), (50, .row 41 1 (gcells cP (cyU m j ++ (lpN m (j + 1)).take i))), (20, .var 3 [Nv (j + 1)]), (1601, .row 9 1 ([]))]⟩) ⟨rfl, rfl, rfl, rfl, rfl, rfl, rfl, rfl, rfl, rfl, rfl, rfl, trivial⟩ ⟨rfl, rfl, rfl, rfl, trivial⟩) (Wk.trans (Wk.ren (id := 1601) (id' := 51) rfl) (Wk.sub ⟨rfl, rfl, rfl, rfl, rfl, rfl, rfl, rfl, rfl, (by first | rfl | simp), rfl, (by first | rfl | exact nm_int (by omega)), trivial⟩ ⟨rfl, rfl, (by first | rfl | exact row_ns (by simp) | (first | exact row_gs' (lsT_y (Decidable.not_not.1 (by assumption)) (cmpZ_eq0.1 (by assumption))) | exact row_gs' (lsT_n (fun e => absurd e.1 (by assumption))) | exact row_gs' (lsT_n (fun e => absurd (cmpZ_eq0.2 e.2) (by assumption))) | exact row_gs' (out_s (by omega) (by rw [loo_len hlo]; omega)) | exact row_gs' (by rw [List.take_of_length_le (by omega)]; rfl) | exact row_gs' (by simp))), (by first | rfl | exact row_ns (by simp) | (first | exact row_gs' (lsT_y (Decidable.not_not.1 (by assumption)) (cmpZ_eq0.1 (by assumption))) | exact row_gs' (lsT_n (fun e => absurd e.1 (by assumption))) | exact row_gs' (lsT_n (fun e => absurd (cmpZ_eq0.2 e.2) (by assumption))) | exact row_gs' (out_s (by omega) (by rw [loo_len hlo]; omega)) | exact row_gs' (by rw [List.take_of_length_le (by omega)]; rfl) | exact row_gs' (by simp))), trivial⟩)))
        rintro κ _ ⟨q, hq, rfl, rfl⟩
        refine awp_seq fun K65 hK65 => awp_region rfl ?_
        refine n_lss q (j + 1) gn rfl rfl ?_
        refine aops_end (hK65 _ (awp_seq fun K66 hK66 => ?_))
        refine awp_condQ (q := q < (j + 1)) rfl (fun h15 => ?_) (fun h15 => ?_)
        ·have hdg := loo_dig hM (by omega) hlo h15
         refine awp_skip (hK66 _ (awp_seq fun K67 hK67 => ?_))
         refine awp_block ?_
         refine awp_seq fun K68 hK68 => awp_region rfl ?_
         refine g_index cW ((lpN m (j + 1)).getD i default) q cW_len rfl gn f111_ rfl rfl (by omega) ?_
         refine g_loadA cW ((lpN m (j + 1)).getD i default) q default cW_len gn f20_ rfl (by omega) ?_
         refine o_alloc 1201 [Fv, Zv] gn f15_ rfl rfl rfl ?_
         refine o_store [(1201, oZ 51 .u32 (((lpN m (j + 1)).getD i default).getD q default)), (2, oM 28 m), (20, .var 3 [Nv (j + 1)]), (50, .row 41 1 (gcells cP (cyU m j ++ (lpN m (j + 1)).take i))), (51, .row 9 1 (sbs ((((lpN m (j + 1)).getD i default).take q).map txt)))] gn f19_ rfl rfl rfl rfl rfl rfl ?_
         refine aops_end (hK68 _ (awp_region rfl (o_mv (.row 51) rfl ?_)))
         refine o_loadA [bp ((((lpN m (j + 1)).getD i default).getD q default) < 0), .sl 1 (ns .u32 (digs (((lpN m (j + 1)).getD i default).getD q default).natAbs))] gn f20_ rfl rfl rfl rfl rfl ?_
         refine o_ct (c_wText (((lpN m (j + 1)).getD i default).getD q default) (by first | omega | assumption | (simp only [Int.natAbs_neg]; omega))) gn f61_ rfl ?_
         refine o_buildSlice 1202 (sbs ([txt (((lpN m (j + 1)).getD i default).getD q default)])) [(0, [Sv (txt (((lpN m (j + 1)).getD i default).getD q default))])] gn f130_ rfl f131_ rfl rfl rfl rfl rfl rfl rfl ?_
         refine o_append 1203 (sbs ([txt (((lpN m (j + 1)).getD i default).getD q default)])) (sbs ((((lpN m (j + 1)).getD i default).take (q + 1)).map txt)) _ [(1202, .row 9 1 (sbs ([txt (((lpN m (j + 1)).getD i default).getD q default)]))), (1201, oZ 51 .u32 (((lpN m (j + 1)).getD i default).getD q default)), (2, oM 28 m), (20, .var 3 [Nv (j + 1)]), (50, .row 41 1 (gcells cP (cyU m j ++ (lpN m (j + 1)).take i)))] gn f130_ rfl f131_ rfl rfl rfl (.inr ⟨_, _, rfl, rfl, rfl⟩) (by simp [sbs]; omega) (by simp [sbs]; omega) (strs_take (by rw [loo_len hlo]; omega)) rfl rfl ?_
         refine o_as (.row 1203) rfl (aops_end (hK67 _ (awp_region rfl ?_)))
         refine n_add q 1 gn rfl rfl (by simp only [topOf]; omega) ?_
         refine o_mv (Nv (q + 1)) rfl (aops_end ?_)
         refine ⟨_, _, ?lt, ⟨q + 1, (by omega), rfl, rfl⟩, ?wk⟩
         case lt => omega
         case wk => exact Wk.trans (Wk.sub (σ' := ⟨[(1, Iv k), (2, .ref 2 0), (8, .row 50), (9, .ref 20 0), (71, .sl 1 (gcells cV (lpN m (j + 1)))), (72, Nv ((lpN m (j + 1)).length)), (73, Nv i), (14, .sl 2 (gcells cW ((lpN m (j + 1)).getD i default))), (77, .sl 2 (gcells cW ((lpN m (j + 1)).getD i default))), (15, .row 1203), (78, Nv (j + 1)), (79, Nv (q + 1))], [(2, oM 28 m), (50, .row 41 1 (gcells cP (cyU m j ++ (lpN m (j + 1)).take i))), (20, .var 3 [Nv (j + 1)]), (1203, .row 9 1 (sbs ((((lpN m (j + 1)).getD i default).take (q + 1)).map txt)))]⟩) ⟨rfl, rfl, rfl, rfl, rfl, rfl, rfl, rfl, rfl, rfl, rfl, rfl, trivial⟩ ⟨rfl, rfl, rfl, rfl, trivial⟩) (Wk.trans (Wk.ren (id := 1203) (id' := 51) rfl) (Wk.sub ⟨rfl, rfl, rfl, rfl, rfl, rfl, rfl, rfl, rfl, (by first | rfl | simp), rfl, (by first | rfl | exact nm_int (by omega)), trivial⟩ ⟨rfl, rfl, (by first | rfl | exact row_ns (by simp) | (first | exact row_gs' (lsT_y (Decidable.not_not.1 (by assumption)) (cmpZ_eq0.1 (by assumption))) | exact row_gs' (lsT_n (fun e => absurd e.1 (by assumption))) | exact row_gs' (lsT_n (fun e => absurd (cmpZ_eq0.2 e.2) (by assumption))) | exact row_gs' (out_s (by omega) (by rw [loo_len hlo]; omega)) | exact row_gs' (by rw [List.take_of_length_le (by omega)]; rfl) | exact row_gs' (by simp))), (by first | rfl | exact row_ns (by simp) | (first | exact row_gs' (lsT_y (Decidable.not_not.1 (by assumption)) (cmpZ_eq0.1 (by assumption))) | exact row_gs' (lsT_n (fun e => absurd e.1 (by assumption))) | exact row_gs' (lsT_n (fun e => absurd (cmpZ_eq0.2 e.2) (by assumption))) | exact row_gs' (out_s (by omega) (by rw [loo_len hlo]; omega)) | exact row_gs' (by rw [List.take_of_length_le (by omega)]; rfl) | exact row_gs' (by simp))), trivial⟩))
        ·refine awp_exit ?_
         refine hK63 _ ?_
         refine awp_wk (σ' := ⟨[(1, Iv k), (2, .ref 2 0), (8, .row 50), (9, .ref 20 0), (15, .row 51), (71, .sl 1 (gcells cV (lpN m (j + 1)))), (72, Nv ((lpN m (j + 1)).length)), (73, Nv i)], [(2, oM 28 m), (50, .row 41 1 (gcells cP (cyU m j ++ (lpN m (j + 1)).take i))), (20, .var 3 [Nv (j + 1)]), (51, .row 9 1 (sbs ((((lpN m (j + 1)).getD i default).take q).map txt)))]⟩) (Wk.sub ⟨rfl, rfl, rfl, rfl, rfl, rfl, rfl, rfl, trivial⟩ ⟨rfl, rfl, rfl, rfl, trivial⟩) ?_
         refine awp_wk (σ' := ⟨[(1, Iv k), (2, .ref 2 0), (8, .row 50), (9, .ref 20 0), (15, .sl 1 (sbs ((((lpN m (j + 1)).getD i default).take q).map txt))), (71, .sl 1 (gcells cV (lpN m (j + 1)))), (72, Nv ((lpN m (j + 1)).length)), (73, Nv i)], [(2, oM 28 m), (50, .row 41 1 (gcells cP (cyU m j ++ (lpN m (j + 1)).take i))), (20, .var 3 [Nv (j + 1)])]⟩) (Wk.freeze (id := 51) (e := 9) (sz := 1) (cs := (sbs ((((lpN m (j + 1)).getD i default).take q).map txt))) rfl) ?_
         refine awp_region rfl (o_mv (.row 50) rfl (o_mv (.sl 1 (sbs ((((lpN m (j + 1)).getD i default).take q).map txt))) rfl ?_))
         refine o_build [.sl 1 (sbs ((((lpN m (j + 1)).getD i default).take q).map txt))] [(0, [.sl 1 (sbs ((((lpN m (j + 1)).getD i default).take q).map txt))])] gn f132_ f133_ rfl rfl rfl ?_
         refine o_buildSlice 1201 (gcells cP ([((lpN m (j + 1)).getD i default).take q])) [(0, [.sl 1 (sbs ((((lpN m (j + 1)).getD i default).take q).map txt))])] gn f134_ rfl f133_ rfl rfl rfl rfl rfl rfl rfl ?_
         refine g_append cP 1202 (cyU m j ++ (lpN m (j + 1)).take i) ([((lpN m (j + 1)).getD i default).take q]) [(1201, .row 41 1 (gcells cP ([((lpN m (j + 1)).getD i default).take q]))), (2, oM 28 m), (20, .var 3 [Nv (j + 1)])] cP_len rfl gn f134_ f133_ rfl rfl rfl rfl rfl (by simp only [List.length_append, List.length_cons, List.length_nil, List.length_take]; omega) (by simp only [List.length_append, List.length_cons, List.length_nil, List.length_take]; omega) rfl rfl ?_
         refine o_as (.row 1202) rfl (aops_end (hK60 _ (awp_region rfl ?_)))
         refine n_add i 1 gn rfl rfl (by simp only [topOf]; omega) ?_
         refine o_mv (Nv (i + 1)) rfl (aops_end ?_)
         refine ⟨_, _, ?lt, ⟨i + 1, (by omega), rfl, rfl⟩, ?wk⟩
         case lt => omega
         case wk => exact Wk.trans (Wk.sub (σ' := ⟨[(1, Iv k), (2, .ref 2 0), (8, .row 1202), (9, .ref 20 0), (71, .sl 1 (gcells cV (lpN m (j + 1)))), (72, Nv ((lpN m (j + 1)).length)), (73, Nv (i + 1))], [(2, oM 28 m), (1202, .row 41 1 (gcells cP ((cyU m j ++ (lpN m (j + 1)).take i) ++ ([((lpN m (j + 1)).getD i default).take q])))), (20, .var 3 [Nv (j + 1)])]⟩) ⟨rfl, rfl, rfl, rfl, rfl, rfl, rfl, trivial⟩ ⟨rfl, rfl, rfl, trivial⟩) (Wk.trans (Wk.ren (id := 1202) (id' := 50) rfl) (Wk.sub ⟨rfl, rfl, (by first | rfl | simp), rfl, rfl, rfl, (by first | rfl | exact nm_int (by omega)), trivial⟩ ⟨rfl, rfl, (by first | rfl | exact row_ns (by simp) | (first | exact row_gs' (lsT_y (Decidable.not_not.1 (by assumption)) (cmpZ_eq0.1 (by assumption))) | exact row_gs' (lsT_n (fun e => absurd e.1 (by assumption))) | exact row_gs' (lsT_n (fun e => absurd (cmpZ_eq0.2 e.2) (by assumption))) | exact row_gs' (out_s (by omega) (by rw [loo_len hlo]; omega)) | exact row_gs' (by rw [List.take_of_length_le (by omega)]; rfl) | exact row_gs' (by simp))), trivial⟩))
       ·refine awp_exit ?_
        refine hK20 _ ?_
        refine awpM_seq fun K69 hK69 => ?_
        refine awpM_seq fun K70 hK70 => ?_
        refine awpM_lift fun mk => ?_
        refine awp_region rfl ?_
        refine o_loadS (Nv (j + 1)) gn f11_ rfl rfl rfl ?_
        refine aops_end (hK70 _ ?_)
        refine awpM_lift fun mk => ?_
        refine awp_region rfl ?_
        refine o_alloc 1101 [Nv 0] gn f26_ rfl rfl rfl ?_
        refine o_store [(1101, .var 3 [Nv (j + 1)]), (2, oM 28 m), (20, .var 3 [Nv (j + 1)]), (50, .row 41 1 (gcells cP (cyU m j ++ (lpN m (j + 1)).take i)))] gn f41_ rfl rfl rfl rfl rfl rfl ?_
        refine aops_end (hK69 _ ?_)
        refine awpM_lift fun mk => ?_
        refine awp_region rfl ?_
        refine o_loadS (Nv (j + 1)) gn f11_ rfl rfl rfl ?_
        refine n_add (j + 1) 1 gn rfl rfl (by simp only [topOf]; omega) ?_
        refine o_store [(1101, .var 3 [Nv ((j + 1) + 1)]), (2, oM 28 m), (20, .var 3 [Nv (j + 1)]), (50, .row 41 1 (gcells cP (cyU m j ++ (lpN m (j + 1)).take i)))] gn f41_ rfl rfl rfl rfl rfl rfl ?_
        refine aops_end ?_
        refine ⟨_, _, ?lt, ⟨j + 1, (by omega), rfl, rfl⟩, ?wk⟩
        case lt => omega
        case wk => exact fun mk => Wk.trans (Wk.sub (σ' := ⟨[(1, Iv k), (2, .ref 2 0), (8, .row 50), (9, .ref 1101 0)], [(2, oM 28 m), (50, .row 41 1 (gcells cP (cyU m j ++ (lpN m (j + 1)).take i))), (1101, .var 3 [Nv ((j + 1) + 1)])]⟩) ⟨rfl, rfl, rfl, rfl, trivial⟩ ⟨rfl, rfl, rfl, trivial⟩) (Wk.trans (Wk.ren (id := 1101) (id' := 20) rfl) (Wk.sub ⟨rfl, rfl, rfl, (by first | rfl | simp), trivial⟩ ⟨rfl, (by first | rfl | (first | exact row_gs' (lsT_y (Decidable.not_not.1 (by assumption)) (cmpZ_eq0.1 (by assumption))) | exact row_gs' (lsT_n (fun e => absurd e.1 (by assumption))) | exact row_gs' (lsT_n (fun e => absurd (cmpZ_eq0.2 e.2) (by assumption))) | exact row_gs' (out_s (by omega) (by rw [loo_len hlo]; omega)) | exact row_gs' (by rw [List.take_of_length_le (by omega)]; rfl) | exact row_gs' (by simp))), (by first | rfl | exact row_ns (by simp) | (first | exact row_gs' (lsT_y (Decidable.not_not.1 (by assumption)) (cmpZ_eq0.1 (by assumption))) | exact row_gs' (lsT_n (fun e => absurd e.1 (by assumption))) | exact row_gs' (lsT_n (fun e => absurd (cmpZ_eq0.2 e.2) (by assumption))) | exact row_gs' (out_s (by omega) (by rw [loo_len hlo]; omega)) | exact row_gs' (by rw [List.take_of_length_le (by omega)]; rfl) | exact row_gs' (by simp))), trivial⟩))
     ·refine awp_exit ?_
      refine hK16 _ ?_
      refine awpM_seq fun K71 hK71 => ?_
      refine awpM_lift fun mk => ?_
      refine awp_region rfl (o_mv (.row 50) rfl (o_as (.row 50) rfl (o_as (Nv 0) rfl (aops_end (hK71 _ ?_)))))
      refine awpM_lift fun mk => ?_
      refine awp_wk (σ' := ⟨[(4, .row 50), (5, Nv 0)], [(50, .row 41 1 (gcells cP (cyU m j)))]⟩) (Wk.sub ⟨rfl, rfl, trivial⟩ ⟨rfl, trivial⟩) ?_
      refine awp_wk (σ' := ⟨[(4, .sl 1 (gcells cP (cyU m j))), (5, Nv 0)], []⟩) (Wk.freeze (id := 50) (e := 41) (sz := 1) (cs := (gcells cP (cyU m j))) rfl) ?_
      refine awp_ret ?_
      refine post_ret ⟨[.sl 1 (gcells cP (cyU m j)), Nv 0], ⟨AV.le_refl _, AV.le_refl _, trivial⟩, rfl, ?_⟩
      first | exact tup_eq2 (gs_as (lpL_no (by rw [chk_1 hm']; decide))) (congrArg (nm _) (chk_1 hm')) | exact tup_eq2 (gs_as (lpL_no (by rw [chk_2 hm' (fun e => absurd e.1 (by assumption))]; decide))) (congrArg (nm _) (chk_2 hm' (fun e => absurd e.1 (by assumption)))) | exact tup_eq2 (gs_as (lpL_no (by rw [chk_2 hm' (fun e => absurd e.2.1 (by omega))]; decide))) (congrArg (nm _) (chk_2 hm' (fun e => absurd e.2.1 (by omega)))) | exact tup_eq2 (gs_as (lpL_no (by rw [chk_2 hm' (may_big hM (i := i) (by omega) (by omega))]; decide))) (congrArg (nm _) (chk_2 hm' (may_big hM (i := i) (by omega) (by omega)))) | (have hjk : k.toNat = j := (by omega); exact tup_eq2 (gs_as ((lpL_ok (chk_0 hm' hmy)).trans (by rw [hjk]))) (congrArg (nm _) (chk_0 hm' hmy)))

end Go.Proofs.YtaeknciienkijaaGreatDoor

namespace Go.Mth
open Go.Ab
theorem exW_free : freeM (kinM 3 1) := fun i hi => by
 have : i < 2 := hi
 have : i = 0 ∨ i = 1 := by omega
 rcases this with rfl | rfl <;> decide
def exL : LineS := ⟨⟨#[57]⟩, ⟨#[53]⟩, ⟨#[56]⟩⟩
end Go.Mth

set_option maxRecDepth 1000000
namespace Go.Mth
open Go Go.Ab
def colM : MapM := kinM 3 1
theorem col_1 : lpN colM 1 = [[-1], [0]] := by decide +kernel
theorem col_2 : lpN colM 2 = [[1, 2]] := by decide +kernel
theorem col_3 : lpN colM 3 = [[-10, -5, -7]] := by decide +kernel
theorem col_a : ∀ k, k < 5 → lpN colM (k + 4) = [] := by decide +kernel
theorem col_9 : lpN colM 9 = [] := by decide +kernel
theorem col_10 : lpN colM 10 = [] := by decide +kernel
theorem hit_11 : (List.range 2048).filter (fun t => decide (hitW colM (wordT 2 11 t))) = [247] := by decide +kernel
theorem num_11 : (fixZ colM (wordT 2 11 247)).num = -136 := by decide +kernel
theorem orb_11 : orbL colM (-136) 11 = [-136, -68, -34, -17, -25, -37, -55, -82, -41, -61, -91] := by decide +kernel
theorem rot_11 : rotM [-136, -68, -34, -17, -25, -37, -55, -82, -41, -61, -91] = [-136, -68, -34, -17, -25, -37, -55, -82, -41, -61, -91] := by decide +kernel
theorem col_11 : lpN colM 11 = [[-136, -68, -34, -17, -25, -37, -55, -82, -41, -61, -91]] := by
 have h : lsT colM 11 2048 = [[-136, -68, -34, -17, -25, -37, -55, -82, -41, -61, -91]] := by
  unfold lsT
  rw [show colM.mod.toNat = 2 from rfl, hit_11]
  show [cyc colM (fixZ colM (wordT 2 11 247)).num 11] = _
  rw [num_11]
  unfold cyc
  rw [orb_11, rot_11]
 unfold lpN
 rw [show colM.mod.toNat ^ 11 = 2048 from rfl, h]
 rfl
def colL : List (List Int) := [[-1], [0], [1, 2], [-10, -5, -7], [-136, -68, -34, -17, -25, -37, -55, -82, -41, -61, -91]]
theorem colU : cyU colM 11 = colL := by
 have a := col_a
 show ((((((((((([] ++ lpN colM 1) ++ lpN colM 2) ++ lpN colM 3) ++ lpN colM 4) ++ lpN colM 5) ++ lpN colM 6) ++ lpN colM 7) ++ lpN colM 8) ++ lpN colM 9) ++ lpN colM 10) ++ lpN colM 11) = _
 rw [col_1, col_2, col_3, a 0 (by decide), a 1 (by decide), a 2 (by decide), a 3 (by decide), a 4 (by decide), col_9, col_10, col_11]
 rfl
theorem ex6_w2 : OkW (kinM 3 1) [1, 0, 0] := ⟨fun r hr => by
 simp only [List.mem_cons, List.not_mem_nil, or_false] at hr
 rcases hr with rfl | rfl | rfl <;> exact ⟨by decide, by decide⟩, by decide⟩
theorem ex6_f2 : fxF (kinM 3 1) [1, 0, 0] = ⟨⟨#[49]⟩, ⟨#[53]⟩⟩ ∧ cycE (kinM 3 1) [1, 0, 0] = 0 := by
 have h := cyc_0 okM_ex ⟨exW_free, ex6_w2, by decide⟩
 have e : fixZ (kinM 3 1) [1, 0, 0] = ⟨1, 5⟩ := by rfl
 refine ⟨(if_pos h).trans ?_, h⟩
 rw [e]
 show Frc.mk (txt 1) (txt 5) = _
 congr 1 <;> simp [txt, txtL, decs, strN] <;> rfl
theorem txm1 : txt (-1) = ⟨#[45, 49]⟩ := by simp [txt, txtL, decs, strN]; rfl
theorem tx0 : txt 0 = ⟨#[48]⟩ := by simp [txt, txtL, decs, strN]; rfl
theorem tx1 : txt 1 = ⟨#[49]⟩ := by simp [txt, txtL, decs, strN]; rfl
theorem txm5 : txt (-5) = ⟨#[45, 53]⟩ := by simp [txt, txtL, decs, strN]; rfl
end Go.Mth

namespace Go.Proofs.YtaeknciienkijaaGreatDoor
open Go Go.Ab Go.Mth
end Go.Proofs.YtaeknciienkijaaGreatDoor

namespace Go.Ab
open Go.RowKit
variable {C : Ctx} {ops : Array Oper} {s : List (Nat × AV)} {m : List (Nat × AO)} {K : List Eff → St → Prop} {os : List Oper} {d : Nat} {t : TypeId} {p : String} {af : Array Edge} {g : Option (Nat × Bool)}
end Go.Ab

namespace Go.Ab
open Go.RowKit
variable {C : Ctx} {ops : Array Oper} {s : List (Nat × AV)} {m : List (Nat × AO)} {K : List Eff → St → Prop} {os : List Oper} {d : Nat} {t : TypeId} {p : String} {af : Array Edge} {g : Option (Nat × Bool)}
abbrev W64 (a b : Nat) : AV := .lit (.tuple #[.int .u64 (a : Int), .int .u64 (b : Int)])
def subEntry : Array Value → Sem Value := fun args => do
 let (x, y, b) ← Extern.MathBitsCarry.three "Sub64" args
 pure (Extern.MathBitsCarry.pair ((x + Extern.MathBitsCarry.m64 - y - b) % Extern.MathBitsCarry.m64) (if x < y + b then 1 else 0))
end Go.Ab

namespace Go.Ab
open Go.RowKit
variable {C : Ctx} {ops : Array Oper} {s : List (Nat × AV)} {m : List (Nat × AO)} {K : List Eff → St → Prop} {os : List Oper} {d : Nat} {t : TypeId} {p : String} {af : Array Edge} {g : Option (Nat × Bool)}
end Go.Ab

namespace Go.Ab
open Go.RowKit
def Lex (C : Ctx) (n : Nat) (ops : Array Oper) (i : Nat) (os : List Oper) (σ : St) (Q : St → Prop) : Prop :=
 ∀ (w0 : World) (r : Option Nat) (Qx : Exit → Act → World → Prop) (rest : List Nat) (H : Heap) (L : Loc) (a : Act) (w : World), (ops.toList.drop i).take os.length = os → dstsB n ops.toList = true → Rep C n w0 H L σ.sem a w →
  (∀ a' w' H' L' σ', Ext w0.heap.size H H' → Rep C n w0 H' L' σ'.sem a' w' → Q σ' → wpOpsIn (fen r) 0 C.P ops Qx rest a' w') → wpOpsIn (fen r) 0 C.P ops Qx (List.range' i os.length ++ rest) a w
theorem Lex.fin {C : Ctx} {n : Nat} {ops : Array Oper} {i : Nat} {os : List Oper} {σ : St} {Q : St → Prop} (h : aops C ops σ os fun _ σ' => Q σ') : Lex C n ops i os σ Q := fun w0 r Qx rest H L a w hos hd hr hQ => by
 obtain ⟨es, σ1, ht, hq⟩ := h
 have hsub : ∀ o ∈ os, o ∈ ops.toList := fun o ho => by rw [← hos] at ho; exact List.mem_of_mem_drop (List.mem_of_mem_take ho)
 exact lex_prefix (C := C) (n := n) (w0 := w0) r rest os i σ.sem σ1.sem es H L a w hos ht hr (fun o ho => dsts_spec hd o (hsub o ho)) fun a' w' H' L' hx hr' => hQ a' w' H' L' σ1 hx hr' hq
theorem Lex.call {C : Ctx} {n : Nat} {ops : Array Oper} {i : Nat} {os : List Oper} {σ : St} {Q : St → Prop} (k d : Nat) (y : Operand) (f : FuncId) (caps : List AV) (args : Array Operand) (tys : Array TypeId) (t : TypeId) (p : String) (af : Array Edge) (asx : List AV) (res : AV) (m' : List (Nat × AO))
  (hk : os[k]? = some ⟨some d, .call { callee := .value y, args := args, argTypes := tys }, t, p, af, none⟩) (hb : callable C.P f = true)
  (h : aops C ops σ (os.take k) fun _ σ1 => σ1.ev y = .clo f caps ∧ args.toList.map σ1.sem.ev ++ caps = asx ∧ SCalls C n f asx σ1.slots σ1.objs res m' ∧ Lex C n ops (i + k + 1) (os.drop (k + 1)) ⟨(d, res) :: σ1.slots, m'⟩ Q) : Lex C n ops i os σ Q := fun w0 r Qx rest H L a w hos hd hr hQ => by
 obtain ⟨es, σ1, ht, hy, has, hS, hL⟩ := h
 obtain ⟨hl, hx0⟩ := List.getElem?_eq_some_iff.1 hk
 have hsub : ∀ o ∈ os, o ∈ ops.toList := fun o ho => by rw [← hos] at ho; exact List.mem_of_mem_drop (List.mem_of_mem_take ho)
 have hdst := dsts_spec hd
 have hlen : os.length = k + (1 + (os.length - (k + 1))) := by omega
 have hget : ∀ j, j < os.length → ops.toList[i + j]? = os[j]? := fun j hj => by
  have := congrArg (fun l : List Oper => l[j]?) hos
  simp only [List.getElem?_take, hj, if_true, List.getElem?_drop] at this
  exact this
 rw [hlen, ← List.range'_append_1, List.append_assoc]
 have htk : (os.take k).length = k := by rw [List.length_take]; omega
 have h1 := lex_prefix (C := C) (n := n) (w0 := w0) (ops := ops) (Q := Qx) r (List.range' (i + k) (1 + (os.length - (k + 1))) ++ rest) (os.take k) i σ.sem σ1.sem es H L a w (by rw [htk]; rw [← hos, List.take_take, Nat.min_eq_left (by omega)]) ht hr (fun o ho => hdst o (hsub o (List.mem_of_mem_take ho)))
 rw [htk] at h1
 refine h1 fun a' w' H' L' hx hr' => ?_
 rw [Nat.add_comm 1, List.range'_succ, List.cons_append, wpOpsIn_cons]
 have hi : ops[i + k]? = some ⟨some d, .call { callee := .value y, args := args, argTypes := tys }, t, p, af, none⟩ := by
  rw [← Array.getElem?_toList, hget k hl, hk]
 unfold wpOpIn
 simp only [hi]
 rw [if_pos (by simp [Region.wanted])]
 have hyv := hr'.ev y
 rw [ev_sem, hy] at hyv
 simp only [RepV] at hyv
 obtain ⟨cv, hev, hcr⟩ := hyv
 have hargs : ∀ (xs : List Operand), RepL H' (xs.map σ1.sem.ev) L' (xs.map a'.eval) := by
  intro xs
  induction xs with
  | nil => simp only [List.map_nil, RepL]
  | cons x xs ih => simp only [List.map_cons, RepL]; exact ⟨_, _, rfl, hr'.ev x, ih⟩
 have hal := (hargs args.toList).app hcr
 rw [has] at hal
 have hc := hS w0 H' L' a' w' _ hr' hal
 have e1 : (List.map a'.eval args.toList ++ cv).toArray = args.map a'.eval ++ cv.toArray := by apply Array.ext'; simp
 rw [e1] at hc
 refine wp_enter (run_call_val rfl hev (callable_spec hb).1 (callable_spec hb).2) (hc.mono ?_) r
 rintro e w2 ⟨v, H2, L2, rfl, hx2, hv2, hr2⟩
 refine ⟨v, rfl, ?_⟩
 have hmem : (⟨some d, .call { callee := .value y, args := args, argTypes := tys }, t, p, af, none⟩ : Oper) ∈ ops.toList := hsub _ (by rw [← hx0]; exact List.getElem_mem _)
 have hdn : d < n := hdst _ hmem d rfl
 have hv := hr2.val (dst := some d) (fun d' hd' => by cases hd'; exact hdn) (x := res) (v := v) hv2 [] []
 rw [← sem_app] at hv
 have hdl : (os.drop (k + 1)).length = os.length - (k + 1) := by rw [List.length_drop]
 have h2 := hL w0 r Qx rest H2 L2 _ w2 (by
  rw [hdl, ← hos, List.drop_take, List.drop_drop, List.length_take]
  congr 1
  have := congrArg List.length hos
  rw [List.length_take] at this
  omega) hd hv fun a3 w3 H3 L3 σ3 hx3 hr3 hq3 => hQ a3 w3 H3 L3 σ3 ((hx.trans hx2).trans hx3) hr3 hq3
 rw [hdl] at h2
 exact h2
theorem awp_regionN {C : Ctx} {n : Nat} {Q : Exit → St → Prop} {σ : St} {id : Nat} {ops : Array Oper} (hd : dstsB n ops.toList = true) (h : Lex C n ops 0 ops.toList σ fun σ' => Q .normal σ') : awp C n (.region id ops false) Q σ := fun w0 H L a w hr r => by
 refine wpIn_region ?_
 rw [List.range_eq_range']
 have := h w0 r (fun e a w => Post C n w0 H Q e a w) [] H L a w (by rw [List.drop_zero, List.take_length]) hd hr fun a' w' H' L' σ' hx hr' hq => ⟨σ', H', L', hx, hr', hq⟩
 rw [List.append_nil] at this
 simpa using this
end Go.Ab

namespace Go.Ab
open Go.RowKit
def postO (C : Ctx) (fn : Func) (id : Nat) (t : TypeId) (cs : List AV) : Exit → St → Prop
 | .normal, σ => ResOk C σ fn.results.toList [.ref id 0] ∧ lookO σ.objs id = some (.var t cs)
 | .ret, σ => ResOk C σ fn.results.toList [.ref id 0] ∧ lookO σ.objs id = some (.var t cs)
 | _, _ => False
section
variable {C : Ctx} {n : Nat} {w0 : World} {ops : Array Oper} {Q : Exit → Act → World → Prop}
end
end Go.Ab

