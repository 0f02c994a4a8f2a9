/- What the proof of a row of this seat leans on (part 4 of 5): a library of abstract values, walks of functions, and plain laws. -/
import Derived.Shelf.LaysM
import Derived.Shelf.SlSortCmp.Whole1
import Derived.Shelf.SlSortCmp.NoneTotal
import Derived.Ground.SlsfProg
import Derived.Test.YtdmkejloknejdaaDoorProg
import Derived.Lib.QuietBelow
import Derived.Test.YtdmkejloknejdaaDoorPkCycleWordsc
set_option linter.unusedVariables false
set_option linter.unusedSimpArgs false
namespace Go.Proofs.YtdmkejloknejdaaDoor
open Go Go.Ab Go.Mth
theorem f64_ : tyZero cx.P 52 = some [Go.Value.bool false, Go.Value.slice none 0 0, Go.Value.bool false, Go.Value.slice none 0 0] := by kernel_rfl
theorem f65_ : callable cx.P 52 = true := by kernel_rfl
theorem f66_ : tyPlaces cx.P 52 = some (fun i => (#[(0, 2), (2, 2)] : Array (Nat × Nat))[i]?) := by kernel_rfl
theorem f67_ : tySize cx.P 52 = some 4 := by kernel_rfl
theorem f68_ : tyAgg cx.P 52 = some 4 := by kernel_rfl
theorem f69_ : tyZero cx.P 32 = some [(Go.Value.string {data := #[]}), (Go.Value.string {data := #[]})] := by kernel_rfl
theorem f70_ : tyField cx.P 52 0 = some (0, 50) := by kernel_rfl
theorem f71_ : callable cx.P 36 = true := by kernel_rfl
theorem f72_ : tyField cx.P 52 1 = some (2, 50) := by kernel_rfl
theorem f73_ : tyPlaces cx.P 32 = some (fun i => (#[(0, 1), (1, 1)] : Array (Nat × Nat))[i]?) := by kernel_rfl
theorem f74_ : tySize cx.P 32 = some 2 := by kernel_rfl
theorem f75_ : tyAgg cx.P 32 = some 2 := by kernel_rfl
theorem f76_ : callable cx.P 33 = true := by kernel_rfl
theorem f77_ : callable cx.P 34 = true := by kernel_rfl
theorem f78_ : callable cx.P 21 = true := by kernel_rfl
theorem f79_ : callable cx.P 22 = true := by kernel_rfl
theorem f80_ : callable cx.P 32 = true := by kernel_rfl
theorem f81_ : callable cx.P 17 = true := by kernel_rfl
theorem f82_ : callable cx.P 18 = true := by kernel_rfl
theorem f83_ : callable cx.P 19 = true := by kernel_rfl
theorem f84_ : tyElem cx.P 27 = some (32, 2, 32) := by kernel_rfl
theorem f85_ : callable cx.P 20 = true := by kernel_rfl
theorem c_yRed (n d : Int) (hd : d ≠ 0) (h1 : (digs n.natAbs).length ≤ 1000000) (h2 : (digs d.natAbs).length ≤ 1000000) : ECalls cx 34 [intW n, intW d] (frW (redZ n d)) := by
 refine ecalls_of_awp Tryd.func34 (c := _) rfl (Nat.le_of_ble_eq_true rfl) ?_
 show awp cx 35 _ (postF cx Tryd.f34 _) ⟨[(0, intW n), (1, intW d)], []⟩
 have g1 := gcd_pos (n := n) hd
 have g2 := gcd_pos (n := -n) (d := -d) (by omega)
 have g3 := gcd_len (n := n) hd
 have g4 := gcd_len (n := -n) (d := -d) (by omega)
 have g5 : (digs ((-n).natAbs)).length ≤ 1000000 := by rw [Int.natAbs_neg]; exact h1
 have g6 : (digs ((-d).natAbs)).length ≤ 1000000 := by rw [Int.natAbs_neg]; exact h2
 refine awp_seq fun K0 hK0 => awp_region rfl ?_
 refine o_box 2 [bp (n < 0), .sl 1 (ns .u32 (digs n.natAbs))] gn rfl rfl ?_
 refine o_box 3 [bp (d < 0), .sl 1 (ns .u32 (digs d.natAbs))] gn rfl rfl ?_
 refine o_alloc 4 [Fv, Zv, Fv, Zv] gn f64_ rfl rfl rfl ?_
 refine aops_end (hK0 _ (awp_seq fun K1 hK1 => awp_seq fun K2 hK2 => awp_region rfl ?_))
 refine o_loadA [bp (d < 0), .sl 1 (ns .u32 (digs d.natAbs))] gn f10_ rfl rfl rfl rfl rfl ?_
 refine o_ct (c_wSign d) gn f11_ rfl ?_
 refine o_lss (a := (sgn d)) (c := ((0 : Nat) : Int)) gn rfl rfl ?_
 refine aops_end (hK2 _ ?_)
 refine awp_condQ (q := (sgn d) < ((0 : Nat) : Int)) rfl (fun h1 => ?_) (fun h1 => ?_)
 ·refine awp_regionD rfl ?_
  refine o_loadA [bp (n < 0), .sl 1 (ns .u32 (digs n.natAbs))] gn f10_ rfl rfl rfl rfl rfl ?_
  refine o_ct (c_wMinus n) gn f20_ rfl ?_
  refine o_loadA [bp (d < 0), .sl 1 (ns .u32 (digs d.natAbs))] gn f10_ rfl rfl rfl rfl rfl ?_
  refine o_ct (c_wMinus d) gn f20_ rfl ?_
  refine o_store [(4, .var 52 [Fv, Zv, Fv, Zv]), (3, oZ 50 .u32 d), (2, oZ 50 .u32 (-n))] gn f9_ rfl rfl rfl rfl rfl rfl ?_
  refine o_store [(4, .var 52 [Fv, Zv, Fv, Zv]), (3, oZ 50 .u32 (-d)), (2, oZ 50 .u32 (-n))] gn f9_ rfl rfl rfl rfl rfl rfl ?_
  refine aops_end ⟨by kernel_rfl, ?_⟩
  refine hK1 _ (awp_seq fun K3 hK3 => awp_region rfl ?_)
  refine o_loadA [bp ((-n) < 0), .sl 1 (ns .u32 (digs (-n).natAbs))] gn f10_ rfl rfl rfl rfl rfl ?_
  refine o_loadA [bp ((-d) < 0), .sl 1 (ns .u32 (digs (-d).natAbs))] gn f10_ rfl rfl rfl rfl rfl ?_
  refine o_ct (c_wGcd (-n) (-d) (by omega) (by omega)) gn f65_ rfl ?_
  refine o_alloc 5 [Fv, Zv] gn f5_ rfl rfl rfl ?_
  refine o_store [(5, (oZ 50 .u32 ((Int.gcd (-n) (-d) : Nat) : Int))), (4, .var 52 [Fv, Zv, Fv, Zv]), (3, oZ 50 .u32 (-d)), (2, oZ 50 .u32 (-n))] gn f9_ rfl rfl rfl rfl rfl rfl ?_
  refine aops_end (hK3 _ (awp_seq fun K4 hK4 => awp_region rfl ?_))
  refine o_loadA [bp ((-n) < 0), .sl 1 (ns .u32 (digs (-n).natAbs))] gn f10_ rfl rfl rfl rfl rfl ?_
  refine o_loadA [(bp (((Int.gcd (-n) (-d) : Nat) : Int) < 0)), (.sl 1 (ns .u32 (digs ((Int.gcd (-n) (-d) : Nat) : Int).natAbs)))] gn f10_ rfl rfl rfl rfl rfl ?_
  refine o_ct (c_wDivide (-n) ((Int.gcd (-n) (-d) : Nat) : Int) (by omega) (by omega) (by omega)) gn f55_ rfl ?_
  refine o_mv (.tup [(intW ((-n) / ((Int.gcd (-n) (-d) : Nat) : Int))), (intW ((-n) % ((Int.gcd (-n) (-d) : Nat) : Int)))]) rfl (o_extract (intW ((-n) / ((Int.gcd (-n) (-d) : Nat) : Int))) gn rfl rfl (o_extract (intW ((-n) % ((Int.gcd (-n) (-d) : Nat) : Int))) gn rfl rfl ?_))
  refine o_alloc 6 [Fv, Zv] gn f5_ rfl rfl rfl ?_
  refine o_alloc 7 [Fv, Zv] gn f5_ rfl rfl rfl ?_
  refine o_store [(7, .var 50 [Fv, Zv]), (6, (oZ 50 .u32 ((-n) / ((Int.gcd (-n) (-d) : Nat) : Int)))), (5, (oZ 50 .u32 ((Int.gcd (-n) (-d) : Nat) : Int))), (4, .var 52 [Fv, Zv, Fv, Zv]), (3, oZ 50 .u32 (-d)), (2, oZ 50 .u32 (-n))] gn f9_ rfl rfl rfl rfl rfl rfl ?_
  refine o_store [(7, (oZ 50 .u32 ((-n) % ((Int.gcd (-n) (-d) : Nat) : Int)))), (6, (oZ 50 .u32 ((-n) / ((Int.gcd (-n) (-d) : Nat) : Int)))), (5, (oZ 50 .u32 ((Int.gcd (-n) (-d) : Nat) : Int))), (4, .var 52 [Fv, Zv, Fv, Zv]), (3, oZ 50 .u32 (-d)), (2, oZ 50 .u32 (-n))] gn f9_ rfl rfl rfl rfl rfl rfl ?_
  refine aops_end (hK4 _ (awp_seq fun K5 hK5 => awp_region rfl ?_))
  refine o_loadA [bp ((-d) < 0), .sl 1 (ns .u32 (digs (-d).natAbs))] gn f10_ rfl rfl rfl rfl rfl ?_
  refine o_loadA [(bp (((Int.gcd (-n) (-d) : Nat) : Int) < 0)), (.sl 1 (ns .u32 (digs ((Int.gcd (-n) (-d) : Nat) : Int).natAbs)))] gn f10_ rfl rfl rfl rfl rfl ?_
  refine o_ct (c_wDivide (-d) ((Int.gcd (-n) (-d) : Nat) : Int) (by omega) (by omega) (by omega)) gn f55_ rfl ?_
  refine o_mv (.tup [(intW ((-d) / ((Int.gcd (-n) (-d) : Nat) : Int))), (intW ((-d) % ((Int.gcd (-n) (-d) : Nat) : Int)))]) rfl (o_extract (intW ((-d) / ((Int.gcd (-n) (-d) : Nat) : Int))) gn rfl rfl (o_extract (intW ((-d) % ((Int.gcd (-n) (-d) : Nat) : Int))) gn rfl rfl ?_))
  refine o_alloc 8 [Fv, Zv] gn f5_ rfl rfl rfl ?_
  refine o_alloc 9 [Fv, Zv] gn f5_ rfl rfl rfl ?_
  refine o_store [(9, .var 50 [Fv, Zv]), (8, (oZ 50 .u32 ((-d) / ((Int.gcd (-n) (-d) : Nat) : Int)))), (7, (oZ 50 .u32 ((-n) % ((Int.gcd (-n) (-d) : Nat) : Int)))), (6, (oZ 50 .u32 ((-n) / ((Int.gcd (-n) (-d) : Nat) : Int)))), (5, (oZ 50 .u32 ((Int.gcd (-n) (-d) : Nat) : Int))), (4, .var 52 [Fv, Zv, Fv, Zv]), (3, oZ 50 .u32 (-d)), (2, oZ 50 .u32 (-n))] gn f9_ rfl rfl rfl rfl rfl rfl ?_
  refine o_store [(9, (oZ 50 .u32 ((-d) % ((Int.gcd (-n) (-d) : Nat) : Int)))), (8, (oZ 50 .u32 ((-d) / ((Int.gcd (-n) (-d) : Nat) : Int)))), (7, (oZ 50 .u32 ((-n) % ((Int.gcd (-n) (-d) : Nat) : Int)))), (6, (oZ 50 .u32 ((-n) / ((Int.gcd (-n) (-d) : Nat) : Int)))), (5, (oZ 50 .u32 ((Int.gcd (-n) (-d) : Nat) : Int))), (4, .var 52 [Fv, Zv, Fv, Zv]), (3, oZ 50 .u32 (-d)), (2, oZ 50 .u32 (-n))] gn f9_ rfl rfl rfl rfl rfl rfl ?_
  refine aops_end (hK5 _ (awp_seq fun K6 hK6 => awp_region rfl ?_))
  refine o_loadA [(bp (((-n) / ((Int.gcd (-n) (-d) : Nat) : Int)) < 0)), (.sl 1 (ns .u32 (digs ((-n) / ((Int.gcd (-n) (-d) : Nat) : Int)).natAbs)))] gn f10_ rfl rfl rfl rfl rfl ?_
  refine o_loadA [(bp (((-d) / ((Int.gcd (-n) (-d) : Nat) : Int)) < 0)), (.sl 1 (ns .u32 (digs ((-d) / ((Int.gcd (-n) (-d) : Nat) : Int)).natAbs)))] gn f10_ rfl rfl rfl rfl rfl ?_
  refine o_build [(bp (((-n) / ((Int.gcd (-n) (-d) : Nat) : Int)) < 0)), (.sl 1 (ns .u32 (digs ((-n) / ((Int.gcd (-n) (-d) : Nat) : Int)).natAbs))), (bp (((-d) / ((Int.gcd (-n) (-d) : Nat) : Int)) < 0)), (.sl 1 (ns .u32 (digs ((-d) / ((Int.gcd (-n) (-d) : Nat) : Int)).natAbs)))] [(0, [(bp (((-n) / ((Int.gcd (-n) (-d) : Nat) : Int)) < 0)), (.sl 1 (ns .u32 (digs ((-n) / ((Int.gcd (-n) (-d) : Nat) : Int)).natAbs)))]), (1, [(bp (((-d) / ((Int.gcd (-n) (-d) : Nat) : Int)) < 0)), (.sl 1 (ns .u32 (digs ((-d) / ((Int.gcd (-n) (-d) : Nat) : Int)).natAbs)))])] gn f66_ f64_ rfl rfl rfl ?_
  refine o_store [(9, (oZ 50 .u32 ((-d) % ((Int.gcd (-n) (-d) : Nat) : Int)))), (8, (oZ 50 .u32 ((-d) / ((Int.gcd (-n) (-d) : Nat) : Int)))), (7, (oZ 50 .u32 ((-n) % ((Int.gcd (-n) (-d) : Nat) : Int)))), (6, (oZ 50 .u32 ((-n) / ((Int.gcd (-n) (-d) : Nat) : Int)))), (5, (oZ 50 .u32 ((Int.gcd (-n) (-d) : Nat) : Int))), (4, (.var 52 [(bp (((-n) / ((Int.gcd (-n) (-d) : Nat) : Int)) < 0)), (.sl 1 (ns .u32 (digs ((-n) / ((Int.gcd (-n) (-d) : Nat) : Int)).natAbs))), (bp (((-d) / ((Int.gcd (-n) (-d) : Nat) : Int)) < 0)), (.sl 1 (ns .u32 (digs ((-d) / ((Int.gcd (-n) (-d) : Nat) : Int)).natAbs)))])), (3, oZ 50 .u32 (-d)), (2, oZ 50 .u32 (-n))] gn f67_ rfl rfl rfl rfl rfl rfl ?_
  refine aops_end (hK6 _ ?_)
  refine awp_ret ?_
  refine post_ret ⟨[(.agg [(bp (((-n) / ((Int.gcd (-n) (-d) : Nat) : Int)) < 0)), (.sl 1 (ns .u32 (digs ((-n) / ((Int.gcd (-n) (-d) : Nat) : Int)).natAbs))), (bp (((-d) / ((Int.gcd (-n) (-d) : Nat) : Int)) < 0)), (.sl 1 (ns .u32 (digs ((-d) / ((Int.gcd (-n) (-d) : Nat) : Int)).natAbs)))])], ⟨⟨4, (.var 52 [(bp (((-n) / ((Int.gcd (-n) (-d) : Nat) : Int)) < 0)), (.sl 1 (ns .u32 (digs ((-n) / ((Int.gcd (-n) (-d) : Nat) : Int)).natAbs))), (bp (((-d) / ((Int.gcd (-n) (-d) : Nat) : Int)) < 0)), (.sl 1 (ns .u32 (digs ((-d) / ((Int.gcd (-n) (-d) : Nat) : Int)).natAbs)))]), rfl, rfl, rfl, Or.inl ⟨f68_, AV.le_refl _⟩⟩, trivial⟩, rfl, ?_⟩
  exact (congrArg frW (red_n (sgn_lt0.1 (by assumption))))
 ·refine awp_skip (hK1 _ (awp_seq fun K7 hK7 => awp_region rfl ?_))
  refine o_loadA [bp (n < 0), .sl 1 (ns .u32 (digs n.natAbs))] gn f10_ rfl rfl rfl rfl rfl ?_
  refine o_loadA [bp (d < 0), .sl 1 (ns .u32 (digs d.natAbs))] gn f10_ rfl rfl rfl rfl rfl ?_
  refine o_ct (c_wGcd n d (by omega) (by omega)) gn f65_ rfl ?_
  refine o_alloc 5 [Fv, Zv] gn f5_ rfl rfl rfl ?_
  refine o_store [(5, (oZ 50 .u32 ((Int.gcd n d : Nat) : Int))), (4, .var 52 [Fv, Zv, Fv, Zv]), (3, oZ 50 .u32 d), (2, oZ 50 .u32 n)] gn f9_ rfl rfl rfl rfl rfl rfl ?_
  refine aops_end (hK7 _ (awp_seq fun K8 hK8 => awp_region rfl ?_))
  refine o_loadA [bp (n < 0), .sl 1 (ns .u32 (digs n.natAbs))] gn f10_ rfl rfl rfl rfl rfl ?_
  refine o_loadA [(bp (((Int.gcd n d : Nat) : Int) < 0)), (.sl 1 (ns .u32 (digs ((Int.gcd n d : Nat) : Int).natAbs)))] gn f10_ rfl rfl rfl rfl rfl ?_
  refine o_ct (c_wDivide n ((Int.gcd n d : Nat) : Int) (by omega) (by omega) (by omega)) gn f55_ rfl ?_
  refine o_mv (.tup [(intW (n / ((Int.gcd n d : Nat) : Int))), (intW (n % ((Int.gcd n d : Nat) : Int)))]) rfl (o_extract (intW (n / ((Int.gcd n d : Nat) : Int))) gn rfl rfl (o_extract (intW (n % ((Int.gcd n d : Nat) : Int))) gn rfl rfl ?_))
  refine o_alloc 6 [Fv, Zv] gn f5_ rfl rfl rfl ?_
  refine o_alloc 7 [Fv, Zv] gn f5_ rfl rfl rfl ?_
  refine o_store [(7, .var 50 [Fv, Zv]), (6, (oZ 50 .u32 (n / ((Int.gcd n d : Nat) : Int)))), (5, (oZ 50 .u32 ((Int.gcd n d : Nat) : Int))), (4, .var 52 [Fv, Zv, Fv, Zv]), (3, oZ 50 .u32 d), (2, oZ 50 .u32 n)] gn f9_ rfl rfl rfl rfl rfl rfl ?_
  refine o_store [(7, (oZ 50 .u32 (n % ((Int.gcd n d : Nat) : Int)))), (6, (oZ 50 .u32 (n / ((Int.gcd n d : Nat) : Int)))), (5, (oZ 50 .u32 ((Int.gcd n d : Nat) : Int))), (4, .var 52 [Fv, Zv, Fv, Zv]), (3, oZ 50 .u32 d), (2, oZ 50 .u32 n)] gn f9_ rfl rfl rfl rfl rfl rfl ?_
  refine aops_end (hK8 _ (awp_seq fun K9 hK9 => awp_region rfl ?_))
  refine o_loadA [bp (d < 0), .sl 1 (ns .u32 (digs d.natAbs))] gn f10_ rfl rfl rfl rfl rfl ?_
  refine o_loadA [(bp (((Int.gcd n d : Nat) : Int) < 0)), (.sl 1 (ns .u32 (digs ((Int.gcd n d : Nat) : Int).natAbs)))] gn f10_ rfl rfl rfl rfl rfl ?_
  refine o_ct (c_wDivide d ((Int.gcd n d : Nat) : Int) (by omega) (by omega) (by omega)) gn f55_ rfl ?_
  refine o_mv (.tup [(intW (d / ((Int.gcd n d : Nat) : Int))), (intW (d % ((Int.gcd n d : Nat) : Int)))]) rfl (o_extract (intW (d / ((Int.gcd n d : Nat) : Int))) gn rfl rfl (o_extract (intW (d % ((Int.gcd n d : Nat) : Int))) gn rfl rfl ?_))
  refine o_alloc 8 [Fv, Zv] gn f5_ rfl rfl rfl ?_
  refine o_alloc 9 [Fv, Zv] gn f5_ rfl rfl rfl ?_
  refine o_store [(9, .var 50 [Fv, Zv]), (8, (oZ 50 .u32 (d / ((Int.gcd n d : Nat) : Int)))), (7, (oZ 50 .u32 (n % ((Int.gcd n d : Nat) : Int)))), (6, (oZ 50 .u32 (n / ((Int.gcd n d : Nat) : Int)))), (5, (oZ 50 .u32 ((Int.gcd n d : Nat) : Int))), (4, .var 52 [Fv, Zv, Fv, Zv]), (3, oZ 50 .u32 d), (2, oZ 50 .u32 n)] gn f9_ rfl rfl rfl rfl rfl rfl ?_
  refine o_store [(9, (oZ 50 .u32 (d % ((Int.gcd n d : Nat) : Int)))), (8, (oZ 50 .u32 (d / ((Int.gcd n d : Nat) : Int)))), (7, (oZ 50 .u32 (n % ((Int.gcd n d : Nat) : Int)))), (6, (oZ 50 .u32 (n / ((Int.gcd n d : Nat) : Int)))), (5, (oZ 50 .u32 ((Int.gcd n d : Nat) : Int))), (4, .var 52 [Fv, Zv, Fv, Zv]), (3, oZ 50 .u32 d), (2, oZ 50 .u32 n)] gn f9_ rfl rfl rfl rfl rfl rfl ?_
  refine aops_end (hK9 _ (awp_seq fun K10 hK10 => awp_region rfl ?_))
  refine o_loadA [(bp ((n / ((Int.gcd n d : Nat) : Int)) < 0)), (.sl 1 (ns .u32 (digs (n / ((Int.gcd n d : Nat) : Int)).natAbs)))] gn f10_ rfl rfl rfl rfl rfl ?_
  refine o_loadA [(bp ((d / ((Int.gcd n d : Nat) : Int)) < 0)), (.sl 1 (ns .u32 (digs (d / ((Int.gcd n d : Nat) : Int)).natAbs)))] gn f10_ rfl rfl rfl rfl rfl ?_
  refine o_build [(bp ((n / ((Int.gcd n d : Nat) : Int)) < 0)), (.sl 1 (ns .u32 (digs (n / ((Int.gcd n d : Nat) : Int)).natAbs))), (bp ((d / ((Int.gcd n d : Nat) : Int)) < 0)), (.sl 1 (ns .u32 (digs (d / ((Int.gcd n d : Nat) : Int)).natAbs)))] [(0, [(bp ((n / ((Int.gcd n d : Nat) : Int)) < 0)), (.sl 1 (ns .u32 (digs (n / ((Int.gcd n d : Nat) : Int)).natAbs)))]), (1, [(bp ((d / ((Int.gcd n d : Nat) : Int)) < 0)), (.sl 1 (ns .u32 (digs (d / ((Int.gcd n d : Nat) : Int)).natAbs)))])] gn f66_ f64_ rfl rfl rfl ?_
  refine o_store [(9, (oZ 50 .u32 (d % ((Int.gcd n d : Nat) : Int)))), (8, (oZ 50 .u32 (d / ((Int.gcd n d : Nat) : Int)))), (7, (oZ 50 .u32 (n % ((Int.gcd n d : Nat) : Int)))), (6, (oZ 50 .u32 (n / ((Int.gcd n d : Nat) : Int)))), (5, (oZ 50 .u32 ((Int.gcd n d : Nat) : Int))), (4, (.var 52 [(bp ((n / ((Int.gcd n d : Nat) : Int)) < 0)), (.sl 1 (ns .u32 (digs (n / ((Int.gcd n d : Nat) : Int)).natAbs))), (bp ((d / ((Int.gcd n d : Nat) : Int)) < 0)), (.sl 1 (ns .u32 (digs (d / ((Int.gcd n d : Nat) : Int)).natAbs)))])), (3, oZ 50 .u32 d), (2, oZ 50 .u32 n)] gn f67_ rfl rfl rfl rfl rfl rfl ?_
  refine aops_end (hK10 _ ?_)
  refine awp_ret ?_
  refine post_ret ⟨[(.agg [(bp ((n / ((Int.gcd n d : Nat) : Int)) < 0)), (.sl 1 (ns .u32 (digs (n / ((Int.gcd n d : Nat) : Int)).natAbs))), (bp ((d / ((Int.gcd n d : Nat) : Int)) < 0)), (.sl 1 (ns .u32 (digs (d / ((Int.gcd n d : Nat) : Int)).natAbs)))])], ⟨⟨4, (.var 52 [(bp ((n / ((Int.gcd n d : Nat) : Int)) < 0)), (.sl 1 (ns .u32 (digs (n / ((Int.gcd n d : Nat) : Int)).natAbs))), (bp ((d / ((Int.gcd n d : Nat) : Int)) < 0)), (.sl 1 (ns .u32 (digs (d / ((Int.gcd n d : Nat) : Int)).natAbs)))]), rfl, rfl, rfl, Or.inl ⟨f68_, AV.le_refl _⟩⟩, trivial⟩, rfl, ?_⟩
  exact (congrArg frW (red_p (fun e => absurd (sgn_lt0.2 e) (by assumption))))

theorem c_yTold (f : FrZ) (h1 : Fit f.num) (h2 : Fit f.den) : ECalls cx 19 [frW f] (.tup [.agg (cF (frT f)), .lit (.bool true)]) := by
 refine ecalls_of_awp Tryd.func19 (c := _) rfl (Nat.le_of_ble_eq_true rfl) ?_
 show awp cx 29 _ (postF cx Tryd.f19 _) ⟨[(0, frW f)], []⟩
 have l1 := fit_len h1
 have l2 := fit_len h2
 refine awp_seq fun K0 hK0 => awp_region rfl ?_
 refine o_box 2 [bp (f.num < 0), .sl 1 (ns .u32 (digs (f.num).natAbs)), bp (f.den < 0), .sl 1 (ns .u32 (digs (f.den).natAbs))] gn rfl rfl ?_
 refine o_alloc 3 [Sv Ev, Sv Ev] gn f69_ rfl rfl rfl ?_
 refine o_as Fv rfl (aops_end (hK0 _ (awp_seq fun K1 hK1 => awp_region rfl ?_)))
 refine o_fieldRef 0 gn f70_ rfl rfl ?_
 refine o_loadA [bp (f.num < 0), .sl 1 (ns .u32 (digs (f.num).natAbs))] gn f10_ rfl rfl rfl rfl rfl ?_
 refine o_ct (c_nTold (f.num) (by first | omega | assumption | (simp only [Int.natAbs_neg]; omega))) gn f71_ rfl ?_
 refine o_mv (.tup [Sv (toldS (f.num)), Nv (toldE (f.num))]) rfl (o_extract (Sv (toldS (f.num))) gn rfl rfl ?_)
 refine n_as (v' := (Sv (txt f.num))) (by exact str_as (if_pos h1)) ?_
 refine o_extract (Nv (toldE (f.num))) gn rfl rfl ?_
 refine n_as (v' := (Nv 0)) (by exact congrArg (nm _) (if_pos h1)) ?_
 refine o_as (Sv (txt f.num)) rfl (o_as (Nv 0) rfl (aops_end (hK1 _ (awp_seq fun K2 hK2 => awp_region rfl ?_))))
 refine o_fieldRef 2 gn f72_ rfl rfl ?_
 refine o_loadA [bp (f.den < 0), .sl 1 (ns .u32 (digs (f.den).natAbs))] gn f10_ rfl rfl rfl rfl rfl ?_
 refine o_ct (c_nTold (f.den) (by first | omega | assumption | (simp only [Int.natAbs_neg]; omega))) gn f71_ rfl ?_
 refine o_mv (.tup [Sv (toldS (f.den)), Nv (toldE (f.den))]) rfl (o_extract (Sv (toldS (f.den))) gn rfl rfl ?_)
 refine n_as (v' := (Sv (txt f.den))) (by exact str_as (if_pos h2)) ?_
 refine o_extract (Nv (toldE (f.den))) gn rfl rfl ?_
 refine n_as (v' := (Nv 0)) (by exact congrArg (nm _) (if_pos h2)) ?_
 refine o_as (Sv (txt f.den)) rfl (o_as (Nv 0) rfl (aops_end (hK2 _ (awp_seq fun K3 hK3 => awp_region rfl (o_mv (Sv (txt f.num)) rfl (o_mv (Sv (txt f.den)) rfl ?_))))))
 refine o_build [Sv (txt f.num), Sv (txt f.den)] [(0, [Sv (txt f.num)]), (1, [Sv (txt f.den)])] gn f73_ f69_ rfl rfl rfl ?_
 refine o_mv (Nv 0) rfl ?_
 refine n_eql 0 0 gn rfl rfl ?_
 refine o_mv (bp (0 = 0)) rfl ?_
 refine o_move (Nv 0) (Gd.yes rfl rfl (decide_eq_true (by decide))) rfl ?_
 refine n_eql 0 0 (Gd.yes rfl rfl (decide_eq_true (by decide))) rfl rfl ?_
 refine o_pickT (bp (0 = 0)) gn rfl (decide_eq_true (by decide)) rfl ?_
 refine o_store [(3, .var 32 [Sv (txt f.num), Sv (txt f.den)]), (2, .var 52 [bp (f.num < 0), .sl 1 (ns .u32 (digs (f.num).natAbs)), bp (f.den < 0), .sl 1 (ns .u32 (digs (f.den).natAbs))])] gn f74_ rfl rfl rfl rfl rfl rfl ?_
 refine o_as (bp (0 = 0)) rfl (aops_end (hK3 _ ?_))
 refine awp_ret ?_
 refine post_ret ⟨[.agg [Sv (txt f.num), Sv (txt f.den)], bp (0 = 0)], ⟨⟨3, .var 32 [Sv (txt f.num), Sv (txt f.den)], rfl, rfl, rfl, Or.inl ⟨f75_, AV.le_refl _⟩⟩, AV.le_refl _, trivial⟩, rfl, ?_⟩
 rfl

theorem c_yFix (m : MapM) (w : List Int) (hM : OkM m) (hf : freeM m) (hW : OkW m w) (hne : w ≠ []) : ECalls cx 18 [mapV m, Lv w] (frW (fixZ m w)) := by
 refine ecalls_of_awp Tryd.func18 (c := _) rfl (Nat.le_of_ble_eq_true rfl) ?_
 show awp cx 17 _ (postF cx Tryd.f18 _) ⟨[(0, mapV m), (1, Lv w)], []⟩
 obtain ⟨l1, l2, l3⟩ := line_len hM w hW.1
 have l4 := hW.2
 have l5 := len_subZ (lineZ m w).div (lineZ m w).mul
 have l6 := line_ne hM hf hW.1 hne
 refine awp_seq fun K0 hK0 => awp_region rfl ?_
 refine o_box 2 [Iv m.mod, Lv m.mul, Lv m.add] gn rfl rfl ?_
 refine o_alloc 3 [Fv, Zv, Fv, Zv] gn f64_ rfl rfl rfl ?_
 refine aops_end (hK0 _ (awp_seq fun K1 hK1 => awp_region rfl ?_))
 refine o_loadA [Iv m.mod, Lv m.mul, Lv m.add] gn f49_ rfl rfl rfl rfl rfl ?_
 refine o_mv (Lv w) rfl ?_
 refine o_ct (c_oOf m w (by first | assumption | exact okM_iff.1 (by assumption)) (by first | assumption | exact (by assumption : OkW _ _).1 | exact isW_take (by assumption : OkW _ _).1 _) (by first | omega | exact (by assumption : OkW _ _).2)) gn f76_ rfl ?_
 refine o_alloc 4 [Fv, Zv, Fv, Zv, Fv, Zv] gn f56_ rfl rfl rfl ?_
 refine o_store [(4, .var 69 [Bv ((lineZ m w).mul), Dv ((lineZ m w).mul), Bv ((lineZ m w).add), Dv ((lineZ m w).add), Bv ((lineZ m w).div), Dv ((lineZ m w).div)]), (3, .var 52 [Fv, Zv, Fv, Zv]), (2, oM 24 m)] gn f58_ rfl rfl rfl rfl rfl rfl ?_
 refine aops_end (hK1 _ (awp_seq fun K2 hK2 => awp_regionD rfl ?_))
 refine o_fieldRef 2 gn f61_ rfl rfl ?_
 refine o_loadA [Bv ((lineZ m w).add), Dv ((lineZ m w).add)] gn f10_ rfl rfl rfl rfl rfl ?_
 refine o_fieldRef 4 gn f62_ rfl rfl ?_
 refine o_loadA [Bv ((lineZ m w).div), Dv ((lineZ m w).div)] gn f10_ rfl rfl rfl rfl rfl ?_
 refine o_fieldRef 0 gn f60_ rfl rfl ?_
 refine o_loadA [Bv ((lineZ m w).mul), Dv ((lineZ m w).mul)] gn f10_ rfl rfl rfl rfl rfl ?_
 refine o_ct (c_wSub ((lineZ m w).div) ((lineZ m w).mul) (by first | omega | assumption | (simp only [Int.natAbs_neg]; omega)) (by first | omega | assumption | (simp only [Int.natAbs_neg]; omega))) gn f26_ rfl ?_
 refine o_ct (c_yRed ((lineZ m w).add) (((lineZ m w).div) - ((lineZ m w).mul)) (by first | omega | assumption) (by first | omega | assumption) (by first | omega | assumption)) gn f77_ rfl ?_
 refine o_store [(4, .var 69 [Bv ((lineZ m w).mul), Dv ((lineZ m w).mul), Bv ((lineZ m w).add), Dv ((lineZ m w).add), Bv ((lineZ m w).div), Dv ((lineZ m w).div)]), (3, .var 52 [bp ((redZ ((lineZ m w).add) (((lineZ m w).div) - ((lineZ m w).mul))).num < 0), .sl 1 (ns .u32 (digs ((redZ ((lineZ m w).add) (((lineZ m w).div) - ((lineZ m w).mul))).num).natAbs)), bp ((redZ ((lineZ m w).add) (((lineZ m w).div) - ((lineZ m w).mul))).den < 0), .sl 1 (ns .u32 (digs ((redZ ((lineZ m w).add) (((lineZ m w).div) - ((lineZ m w).mul))).den).natAbs))]), (2, oM 24 m)] gn f67_ rfl rfl rfl rfl rfl rfl ?_
 refine aops_end ⟨by kernel_rfl, ?_⟩
 refine hK2 _ ?_
 refine awp_ret ?_
 refine post_ret ⟨[.agg [bp ((redZ ((lineZ m w).add) (((lineZ m w).div) - ((lineZ m w).mul))).num < 0), .sl 1 (ns .u32 (digs ((redZ ((lineZ m w).add) (((lineZ m w).div) - ((lineZ m w).mul))).num).natAbs)), bp ((redZ ((lineZ m w).add) (((lineZ m w).div) - ((lineZ m w).mul))).den < 0), .sl 1 (ns .u32 (digs ((redZ ((lineZ m w).add) (((lineZ m w).div) - ((lineZ m w).mul))).den).natAbs))]], ⟨⟨3, .var 52 [bp ((redZ ((lineZ m w).add) (((lineZ m w).div) - ((lineZ m w).mul))).num < 0), .sl 1 (ns .u32 (digs ((redZ ((lineZ m w).add) (((lineZ m w).div) - ((lineZ m w).mul))).num).natAbs)), bp ((redZ ((lineZ m w).add) (((lineZ m w).div) - ((lineZ m w).mul))).den < 0), .sl 1 (ns .u32 (digs ((redZ ((lineZ m w).add) (((lineZ m w).div) - ((lineZ m w).mul))).den).natAbs))], rfl, rfl, rfl, Or.inl ⟨f68_, AV.le_refl _⟩⟩, trivial⟩, rfl, ?_⟩
 rfl

theorem c_yCheck (m : MapM) (w : List Int) (hl : w.length ≤ 17592186044416) : ECalls cx 17 [mapV m, Lv w] (Nv (cycE m w)) := by
 refine ecalls_of_awp Tryd.func17 (c := _) rfl (Nat.le_of_ble_eq_true rfl) ?_
 show awp cx 24 _ (postF cx Tryd.f17 _) ⟨[(0, mapV m), (1, Lv w)], []⟩
 refine awp_seq fun K0 hK0 => awp_region rfl ?_
 refine o_box 2 [Iv m.mod, Lv m.mul, Lv m.add] gn rfl rfl ?_
 refine o_as (Nv 0) rfl (aops_end (hK0 _ (awp_seq fun K1 hK1 => ?_)))
 refine awp_block ?_
 refine awp_seq fun K2 hK2 => awp_region rfl ?_
 refine o_loadA [Iv m.mod, Lv m.mul, Lv m.add] gn f49_ rfl rfl rfl rfl rfl ?_
 refine o_ct (c_sValid m) gn f78_ rfl ?_
 refine o_not (b := okM m) gn rfl ?_
 refine o_as (.lit (.bool (!(okM m)))) rfl (aops_end (hK2 _ ?_))
 refine awp_condB (b := !(okM m)) rfl (fun h1 => ?_) (fun h1 => ?_)
 ·have hm' : ¬ okM m = true := by simpa using h1
  refine awp_seq fun K3 hK3 => awp_region rfl (o_as (Nv 1) rfl (aops_end (hK3 _ ?_)))
  refine awp_ret ?_
  refine post_ret ⟨[Nv 1], ⟨AV.le_refl _, trivial⟩, rfl, ?_⟩
  first | exact congrArg (nm _) (cyc_1 hm').symm | exact congrArg (nm _) (cyc_2 hm' (fun e => absurd e.1 (by assumption))).symm | exact congrArg (nm _) (cyc_2 hm' (fun e => absurd e.2.1 (by assumption))).symm | exact congrArg (nm _) (cyc_2 hm' (fun e => e.2.2 (List.eq_nil_of_length_eq_zero (by omega)))).symm | exact congrArg (nm _) (cyc_0 hm' ⟨Decidable.not_not.1 (by assumption), Decidable.not_not.1 (by assumption), fun e => by have q := congrArg List.length e; rw [List.length_nil] at q; omega⟩).symm | exact congrArg (nm _) (cyc_1 hm') | exact congrArg (nm _) (cyc_2 hm' (fun e => absurd e.1 (by assumption))) | exact congrArg (nm _) (cyc_2 hm' (fun e => absurd e.2.1 (by assumption))) | exact congrArg (nm _) (cyc_2 hm' (fun e => e.2.2 (List.eq_nil_of_length_eq_zero (by omega)))) | exact congrArg (nm _) (cyc_0 hm' ⟨Decidable.not_not.1 (by assumption), Decidable.not_not.1 (by assumption), fun e => by have q := congrArg List.length e; rw [List.length_nil] at q; omega⟩)
 ·have hm' : okM m = true := by simpa using h1
  have hM := okM_iff.1 hm'
  refine awp_seq fun K4 hK4 => awp_region rfl ?_
  refine o_loadA [Iv m.mod, Lv m.mul, Lv m.add] gn f49_ rfl rfl rfl rfl rfl ?_
  refine o_ct (c_sFree m (by first | assumption | exact okM_iff.1 (by assumption))) gn f79_ rfl ?_
  refine o_notP (q := freeM m) gn rfl ?_
  refine o_mv (bp (¬ (freeM m))) rfl ?_
  refine o_splitP (q := ¬ (freeM m)) 13 rfl (fun h2 => ?_) (fun h2 => ?_)
  ·refine o_skip rfl rfl (decide_eq_true h2) (o_skip rfl rfl (decide_eq_true h2) (o_skip rfl rfl (decide_eq_true h2) (o_skip rfl rfl (decide_eq_true h2) ?_)))
   refine o_pickT Tv gn rfl (decide_eq_true h2) rfl ?_
   refine o_mv Tv rfl (o_skip rfl rfl rfl (o_skip rfl rfl rfl (o_skip rfl rfl rfl ?_)))
   refine o_pickT Tv gn rfl rfl rfl ?_
   refine o_as Tv rfl (aops_end (hK4 _ ?_))
   refine awp_condB (b := true) rfl (fun _ => ?_) (fun hh => absurd (hh.symm.trans rfl) (by decide))
   refine awp_seq fun K5 hK5 => awp_region rfl (o_as (Nv 2) rfl (aops_end (hK5 _ ?_)))
   refine awp_ret ?_
   refine post_ret ⟨[Nv 2], ⟨AV.le_refl _, trivial⟩, rfl, ?_⟩
   first | exact congrArg (nm _) (cyc_1 hm').symm | exact congrArg (nm _) (cyc_2 hm' (fun e => absurd e.1 (by assumption))).symm | exact congrArg (nm _) (cyc_2 hm' (fun e => absurd e.2.1 (by assumption))).symm | exact congrArg (nm _) (cyc_2 hm' (fun e => e.2.2 (List.eq_nil_of_length_eq_zero (by omega)))).symm | exact congrArg (nm _) (cyc_0 hm' ⟨Decidable.not_not.1 (by assumption), Decidable.not_not.1 (by assumption), fun e => by have q := congrArg List.length e; rw [List.length_nil] at q; omega⟩).symm | exact congrArg (nm _) (cyc_1 hm') | exact congrArg (nm _) (cyc_2 hm' (fun e => absurd e.1 (by assumption))) | exact congrArg (nm _) (cyc_2 hm' (fun e => absurd e.2.1 (by assumption))) | exact congrArg (nm _) (cyc_2 hm' (fun e => e.2.2 (List.eq_nil_of_length_eq_zero (by omega)))) | exact congrArg (nm _) (cyc_0 hm' ⟨Decidable.not_not.1 (by assumption), Decidable.not_not.1 (by assumption), fun e => by have q := congrArg List.length e; rw [List.length_nil] at q; omega⟩)
  ·refine o_loadA [Iv m.mod, Lv m.mul, Lv m.add] (Gd.yes rfl rfl (decide_eq_false h2)) f49_ rfl rfl rfl rfl rfl ?_
   refine o_move (Lv w) (Gd.yes rfl rfl (decide_eq_false h2)) rfl ?_
   refine o_ct (c_oIs m w) (Gd.yes rfl rfl (decide_eq_false h2)) f80_ rfl ?_
   refine o_notP (q := OkW m w) (Gd.yes rfl rfl (decide_eq_false h2)) rfl ?_
   refine o_pickF (bp (¬ (OkW m w))) gn rfl (decide_eq_false h2) rfl ?_
   refine o_mv (bp (¬ (OkW m w))) rfl ?_
   refine o_splitP (q := ¬ (OkW m w)) 19 rfl (fun h3 => ?_) (fun h3 => ?_)
   ·refine o_skip rfl rfl (decide_eq_true h3) (o_skip rfl rfl (decide_eq_true h3) (o_skip rfl rfl (decide_eq_true h3) ?_))
    refine o_pickT Tv gn rfl (decide_eq_true h3) rfl ?_
    refine o_as Tv rfl (aops_end (hK4 _ ?_))
    refine awp_condB (b := true) rfl (fun _ => ?_) (fun hh => absurd (hh.symm.trans rfl) (by decide))
    refine awp_seq fun K6 hK6 => awp_region rfl (o_as (Nv 2) rfl (aops_end (hK6 _ ?_)))
    refine awp_ret ?_
    refine post_ret ⟨[Nv 2], ⟨AV.le_refl _, trivial⟩, rfl, ?_⟩
    first | exact congrArg (nm _) (cyc_1 hm').symm | exact congrArg (nm _) (cyc_2 hm' (fun e => absurd e.1 (by assumption))).symm | exact congrArg (nm _) (cyc_2 hm' (fun e => absurd e.2.1 (by assumption))).symm | exact congrArg (nm _) (cyc_2 hm' (fun e => e.2.2 (List.eq_nil_of_length_eq_zero (by omega)))).symm | exact congrArg (nm _) (cyc_0 hm' ⟨Decidable.not_not.1 (by assumption), Decidable.not_not.1 (by assumption), fun e => by have q := congrArg List.length e; rw [List.length_nil] at q; omega⟩).symm | exact congrArg (nm _) (cyc_1 hm') | exact congrArg (nm _) (cyc_2 hm' (fun e => absurd e.1 (by assumption))) | exact congrArg (nm _) (cyc_2 hm' (fun e => absurd e.2.1 (by assumption))) | exact congrArg (nm _) (cyc_2 hm' (fun e => e.2.2 (List.eq_nil_of_length_eq_zero (by omega)))) | exact congrArg (nm _) (cyc_0 hm' ⟨Decidable.not_not.1 (by assumption), Decidable.not_not.1 (by assumption), fun e => by have q := congrArg List.length e; rw [List.length_nil] at q; omega⟩)
   ·refine o_move (Lv w) (Gd.yes rfl rfl (decide_eq_false h3)) rfl ?_
    refine i_len w (Gd.yes rfl rfl (decide_eq_false h3)) f40_ rfl ?_
    refine n_eql (w.length) 0 (Gd.yes rfl rfl (decide_eq_false h3)) rfl rfl ?_
    refine o_pickF (bp ((w.length) = 0)) gn rfl (decide_eq_false h3) rfl ?_
    refine o_as (bp ((w.length) = 0)) rfl (aops_end (hK4 _ ?_))
    refine awp_condQ (q := (w.length) = 0) rfl (fun h4 => ?_) (fun h4 => ?_)
    ·refine awp_seq fun K7 hK7 => awp_region rfl (o_as (Nv 2) rfl (aops_end (hK7 _ ?_)))
     refine awp_ret ?_
     refine post_ret ⟨[Nv 2], ⟨AV.le_refl _, trivial⟩, rfl, ?_⟩
     first | exact congrArg (nm _) (cyc_1 hm').symm | exact congrArg (nm _) (cyc_2 hm' (fun e => absurd e.1 (by assumption))).symm | exact congrArg (nm _) (cyc_2 hm' (fun e => absurd e.2.1 (by assumption))).symm | exact congrArg (nm _) (cyc_2 hm' (fun e => e.2.2 (List.eq_nil_of_length_eq_zero (by omega)))).symm | exact congrArg (nm _) (cyc_0 hm' ⟨Decidable.not_not.1 (by assumption), Decidable.not_not.1 (by assumption), fun e => by have q := congrArg List.length e; rw [List.length_nil] at q; omega⟩).symm | exact congrArg (nm _) (cyc_1 hm') | exact congrArg (nm _) (cyc_2 hm' (fun e => absurd e.1 (by assumption))) | exact congrArg (nm _) (cyc_2 hm' (fun e => absurd e.2.1 (by assumption))) | exact congrArg (nm _) (cyc_2 hm' (fun e => e.2.2 (List.eq_nil_of_length_eq_zero (by omega)))) | exact congrArg (nm _) (cyc_0 hm' ⟨Decidable.not_not.1 (by assumption), Decidable.not_not.1 (by assumption), fun e => by have q := congrArg List.length e; rw [List.length_nil] at q; omega⟩)
    ·refine awp_skip (hK1 _ (awp_seq fun K8 hK8 => awp_region rfl (o_as (Nv 0) rfl (aops_end (hK8 _ ?_)))))
     refine awp_ret ?_
     refine post_ret ⟨[Nv 0], ⟨AV.le_refl _, trivial⟩, rfl, ?_⟩
     first | exact congrArg (nm _) (cyc_1 hm').symm | exact congrArg (nm _) (cyc_2 hm' (fun e => absurd e.1 (by assumption))).symm | exact congrArg (nm _) (cyc_2 hm' (fun e => absurd e.2.1 (by assumption))).symm | exact congrArg (nm _) (cyc_2 hm' (fun e => e.2.2 (List.eq_nil_of_length_eq_zero (by omega)))).symm | exact congrArg (nm _) (cyc_0 hm' ⟨Decidable.not_not.1 (by assumption), Decidable.not_not.1 (by assumption), fun e => by have q := congrArg List.length e; rw [List.length_nil] at q; omega⟩).symm | exact congrArg (nm _) (cyc_1 hm') | exact congrArg (nm _) (cyc_2 hm' (fun e => absurd e.1 (by assumption))) | exact congrArg (nm _) (cyc_2 hm' (fun e => absurd e.2.1 (by assumption))) | exact congrArg (nm _) (cyc_2 hm' (fun e => e.2.2 (List.eq_nil_of_length_eq_zero (by omega)))) | exact congrArg (nm _) (cyc_0 hm' ⟨Decidable.not_not.1 (by assumption), Decidable.not_not.1 (by assumption), fun e => by have q := congrArg List.length e; rw [List.length_nil] at q; omega⟩)

theorem c_yNext (m : MapM) (f : FrZ) (r : Int) (hM : OkM m) (h0 : 0 ≤ r) (h1 : r < m.mod) (h2 : f.den ≠ 0) (h3 : (digs f.num.natAbs).length ≤ 1000) (h4 : (digs f.den.natAbs).length ≤ 1000) : ECalls cx 20 [mapV m, frW f, Iv r] (frW (nxtZ m f r)) := by
 refine ecalls_of_awp Tryd.func20 (c := _) rfl (Nat.le_of_ble_eq_true rfl) ?_
 show awp cx 33 _ (postF cx Tryd.f20 _) ⟨[(0, mapV m), (1, frW f), (2, Iv r)], []⟩
 have hM2 := hM
 obtain ⟨o1, o2, o3, o4, o5⟩ := hM2
 have hr := o5 r.toNat (by omega)
 have q1 := small_len (z := (m.mul).getD r.toNat 0) (by omega)
 have q2 := small_len (z := (m.add).getD r.toNat 0) (by omega)
 have q3 := small_len (z := m.mod) (by omega)
 have q4 := len_mulZ f.num ((m.mul).getD r.toNat 0)
 have q5 := len_mulZ f.den ((m.add).getD r.toNat 0)
 have q6 := len_addZ (f.num * (m.mul).getD r.toNat 0) (f.den * (m.add).getD r.toNat 0)
 have q7 := len_mulZ f.den m.mod
 have q8 : f.den * m.mod ≠ 0 := by intro h0; rcases Int.mul_eq_zero.1 h0 with h | h <;> omega
 refine awp_seq fun K0 hK0 => awp_region rfl ?_
 refine o_box 2 [Iv m.mod, Lv m.mul, Lv m.add] gn rfl rfl ?_
 refine o_box 3 [bp (f.num < 0), .sl 1 (ns .u32 (digs (f.num).natAbs)), bp (f.den < 0), .sl 1 (ns .u32 (digs (f.den).natAbs))] gn rfl rfl ?_
 refine o_alloc 4 [Fv, Zv, Fv, Zv] gn f64_ rfl rfl rfl ?_
 refine aops_end (hK0 _ (awp_seq fun K1 hK1 => awp_regionD rfl ?_))
 refine o_fieldRef 0 gn f70_ rfl rfl ?_
 refine o_loadA [bp (f.num < 0), .sl 1 (ns .u32 (digs (f.num).natAbs))] gn f10_ rfl rfl rfl rfl rfl ?_
 refine o_fieldRef 1 gn f38_ rfl rfl ?_
 refine o_loadS (Lv m.mul) gn f39_ rfl rfl rfl ?_
 refine o_mv (Iv r) rfl ?_
 refine n_as (v' := (Nv r.toNat)) (nm_int (by omega)) ?_
 refine i_index m.mul r.toNat gn f42_ rfl rfl (by omega) ?_
 refine i_loadI m.mul r.toNat gn f37_ rfl (by omega) ?_
 refine o_ct (c_wOf ((m.mul).getD r.toNat 0) (by first | decide | omega) (by first | decide | omega)) gn f25_ rfl ?_
 refine o_ct (c_wMul (f.num) ((m.mul).getD r.toNat 0) (by first | omega | assumption | (simp only [Int.natAbs_neg]; omega)) (by first | omega | assumption | (simp only [Int.natAbs_neg]; omega))) gn f44_ rfl ?_
 refine o_fieldRef 2 gn f72_ rfl rfl ?_
 refine o_loadA [bp (f.den < 0), .sl 1 (ns .u32 (digs (f.den).natAbs))] gn f10_ rfl rfl rfl rfl rfl ?_
 refine o_fieldRef 2 gn f41_ rfl rfl ?_
 refine o_loadS (Lv m.add) gn f39_ rfl rfl rfl ?_
 refine o_mv (Iv r) rfl ?_
 refine n_as (v' := (Nv r.toNat)) (nm_int (by omega)) ?_
 refine i_index m.add r.toNat gn f42_ rfl rfl (by omega) ?_
 refine i_loadI m.add r.toNat gn f37_ rfl (by omega) ?_
 refine o_ct (c_wOf ((m.add).getD r.toNat 0) (by first | decide | omega) (by first | decide | omega)) gn f25_ rfl ?_
 refine o_ct (c_wMul (f.den) ((m.add).getD r.toNat 0) (by first | omega | assumption | (simp only [Int.natAbs_neg]; omega)) (by first | omega | assumption | (simp only [Int.natAbs_neg]; omega))) gn f44_ rfl ?_
 refine o_ct (c_wAdd (f.num * (m.mul).getD r.toNat 0) (f.den * (m.add).getD r.toNat 0) (by first | omega | assumption | (simp only [Int.natAbs_neg]; omega)) (by first | omega | assumption | (simp only [Int.natAbs_neg]; omega))) gn f21_ rfl ?_
 refine o_fieldRef 2 gn f72_ rfl rfl ?_
 refine o_loadA [bp (f.den < 0), .sl 1 (ns .u32 (digs (f.den).natAbs))] gn f10_ rfl rfl rfl rfl rfl ?_
 refine o_fieldRef 0 gn f36_ rfl rfl ?_
 refine o_loadS (Iv m.mod) gn f37_ rfl rfl rfl ?_
 refine o_ct (c_wOf m.mod (by first | decide | omega) (by first | decide | omega)) gn f25_ rfl ?_
 refine o_ct (c_wMul (f.den) m.mod (by first | omega | assumption | (simp only [Int.natAbs_neg]; omega)) (by first | omega | assumption | (simp only [Int.natAbs_neg]; omega))) gn f44_ rfl ?_
 refine o_ct (c_yRed ((f.num * (m.mul).getD r.toNat 0) + (f.den * (m.add).getD r.toNat 0)) (f.den * m.mod) (by first | omega | assumption) (by first | omega | assumption) (by first | omega | assumption)) gn f77_ rfl ?_
 refine o_store [(4, .var 52 [bp ((redZ ((f.num * (m.mul).getD r.toNat 0) + (f.den * (m.add).getD r.toNat 0)) (f.den * m.mod)).num < 0), .sl 1 (ns .u32 (digs ((redZ ((f.num * (m.mul).getD r.toNat 0) + (f.den * (m.add).getD r.toNat 0)) (f.den * m.mod)).num).natAbs)), bp ((redZ ((f.num * (m.mul).getD r.toNat 0) + (f.den * (m.add).getD r.toNat 0)) (f.den * m.mod)).den < 0), .sl 1 (ns .u32 (digs ((redZ ((f.num * (m.mul).getD r.toNat 0) + (f.den * (m.add).getD r.toNat 0)) (f.den * m.mod)).den).natAbs))]), (3, .var 52 [bp (f.num < 0), .sl 1 (ns .u32 (digs (f.num).natAbs)), bp (f.den < 0), .sl 1 (ns .u32 (digs (f.den).natAbs))]), (2, oM 24 m)] gn f67_ rfl rfl rfl rfl rfl rfl ?_
 refine aops_end ⟨by kernel_rfl, ?_⟩
 refine hK1 _ ?_
 refine awp_ret ?_
 refine post_ret ⟨[.agg [bp ((redZ ((f.num * (m.mul).getD r.toNat 0) + (f.den * (m.add).getD r.toNat 0)) (f.den * m.mod)).num < 0), .sl 1 (ns .u32 (digs ((redZ ((f.num * (m.mul).getD r.toNat 0) + (f.den * (m.add).getD r.toNat 0)) (f.den * m.mod)).num).natAbs)), bp ((redZ ((f.num * (m.mul).getD r.toNat 0) + (f.den * (m.add).getD r.toNat 0)) (f.den * m.mod)).den < 0), .sl 1 (ns .u32 (digs ((redZ ((f.num * (m.mul).getD r.toNat 0) + (f.den * (m.add).getD r.toNat 0)) (f.den * m.mod)).den).natAbs))]], ⟨⟨4, .var 52 [bp ((redZ ((f.num * (m.mul).getD r.toNat 0) + (f.den * (m.add).getD r.toNat 0)) (f.den * m.mod)).num < 0), .sl 1 (ns .u32 (digs ((redZ ((f.num * (m.mul).getD r.toNat 0) + (f.den * (m.add).getD r.toNat 0)) (f.den * m.mod)).num).natAbs)), bp ((redZ ((f.num * (m.mul).getD r.toNat 0) + (f.den * (m.add).getD r.toNat 0)) (f.den * m.mod)).den < 0), .sl 1 (ns .u32 (digs ((redZ ((f.num * (m.mul).getD r.toNat 0) + (f.den * (m.add).getD r.toNat 0)) (f.den * m.mod)).den).natAbs))], rfl, rfl, rfl, Or.inl ⟨f68_, AV.le_refl _⟩⟩, trivial⟩, rfl, ?_⟩
 rfl

theorem c_yFixed (m : MapM) (w : List Int) (hl : w.length ≤ 17592186044416) : ECalls cx 8 [mapV m, Lv w] (.tup [.agg (cF (fxF m w)), nm .i64 (cycE m w)]) := by
 refine ecalls_of_awp Tryd.func8 (c := _) rfl (Nat.le_of_ble_eq_true rfl) ?_
 show awp cx 27 _ (postF cx Tryd.f8 _) ⟨[(0, mapV m), (1, Lv w)], []⟩
 refine awp_seq fun K0 hK0 => awp_region rfl ?_
 refine o_box 2 [Iv m.mod, Lv m.mul, Lv m.add] gn rfl rfl ?_
 refine o_alloc 3 [Sv Ev, Sv Ev] gn f69_ rfl rfl rfl ?_
 refine o_as (Nv 0) rfl (aops_end (hK0 _ (awp_seq fun K1 hK1 => awp_seq fun K2 hK2 => awp_region rfl ?_)))
 refine o_loadA [Iv m.mod, Lv m.mul, Lv m.add] gn f49_ rfl rfl rfl rfl rfl ?_
 refine o_mv (Lv w) rfl ?_
 refine o_ct (c_yCheck m w (by assumption)) gn f81_ rfl ?_
 refine o_as (Nv (cycE m w)) rfl (aops_end (hK2 _ (awp_seq fun K3 hK3 => awp_region rfl (o_mv (Nv (cycE m w)) rfl ?_))))
 refine n_neq (cycE m w) 0 gn rfl rfl ?_
 refine aops_end (hK3 _ ?_)
 refine awp_condQ (q := (cycE m w) ≠ 0) rfl (fun h1 => ?_) (fun h1 => ?_)
 ·have hx := fxF_no h1
  refine awp_seq fun K4 hK4 => awp_region rfl ?_
  refine o_build [Sv Ev, Sv Ev] [] gn f73_ f69_ rfl rfl rfl ?_
  refine o_mv (Nv (cycE m w)) rfl ?_
  refine o_store [(3, .var 32 [Sv Ev, Sv Ev]), (2, oM 24 m)] gn f74_ rfl rfl rfl rfl rfl rfl ?_
  refine o_as (Nv (cycE m w)) rfl (aops_end (hK4 _ ?_))
  refine awp_ret ?_
  refine post_ret ⟨[.agg [Sv Ev, Sv Ev], Nv (cycE m w)], ⟨⟨3, .var 32 [Sv Ev, Sv Ev], rfl, rfl, rfl, Or.inl ⟨f75_, AV.le_refl _⟩⟩, AV.le_refl _, trivial⟩, rfl, ?_⟩
  first | exact tup_eq2 (congrArg (fun f => AV.agg (cF f)) hx.1) rfl | exact tup_eq2 (congrArg (fun f => AV.agg (cF f)) hx.1.symm) rfl | exact tup_eq2 (congrArg (fun f => AV.agg (cF f)) hx.1) (congrArg (nm _) hc0) | exact tup_eq2 (congrArg (fun f => AV.agg (cF f)) hx.1.symm) (congrArg (nm _) hc0.symm)
 ·have hc0 := Decidable.not_not.1 h1
  obtain ⟨hM, hf, hW, hne⟩ := cyc_0' hc0
  obtain ⟨k1, k2⟩ := fix_fit hM hf hW hne
  have hx := fxF_ok hc0
  refine awp_skip (hK1 _ (awp_seq fun K5 hK5 => awp_region rfl ?_))
  refine o_loadA [Iv m.mod, Lv m.mul, Lv m.add] gn f49_ rfl rfl rfl rfl rfl ?_
  refine o_mv (Lv w) rfl ?_
  refine o_ct (c_yFix m w hM hf hW hne) gn f82_ rfl ?_
  refine o_ct (c_yTold (fixZ m w) (by assumption) (by assumption)) gn f83_ rfl ?_
  refine o_mv (.tup [.agg [Sv ((frT (fixZ m w)).num), Sv ((frT (fixZ m w)).den)], Tv]) rfl (o_extract (.agg [Sv ((frT (fixZ m w)).num), Sv ((frT (fixZ m w)).den)]) gn rfl rfl (o_extract Tv gn rfl rfl ?_))
  refine o_alloc 4 [Sv Ev, Sv Ev] gn f69_ rfl rfl rfl ?_
  refine o_store [(4, .var 32 [Sv ((frT (fixZ m w)).num), Sv ((frT (fixZ m w)).den)]), (3, .var 32 [Sv Ev, Sv Ev]), (2, oM 24 m)] gn f74_ rfl rfl rfl rfl rfl rfl ?_
  refine o_as Tv rfl (aops_end (hK5 _ (awp_seq fun K6 hK6 => awp_seq fun K7 hK7 => awp_region rfl (o_mv Tv rfl ?_))))
  refine o_not (b := true) gn rfl ?_
  refine aops_end (hK7 _ ?_)
  refine awp_condB (b := false) rfl (fun hh => absurd (hh.symm.trans rfl) (by decide)) (fun _ => ?_)
  refine awp_skip (hK6 _ (awp_seq fun K8 hK8 => awp_region rfl ?_))
  refine o_loadA [Sv ((frT (fixZ m w)).num), Sv ((frT (fixZ m w)).den)] gn f75_ rfl rfl rfl rfl rfl ?_
  refine o_store [(4, .var 32 [Sv ((frT (fixZ m w)).num), Sv ((frT (fixZ m w)).den)]), (3, .var 32 [Sv ((frT (fixZ m w)).num), Sv ((frT (fixZ m w)).den)]), (2, oM 24 m)] gn f74_ rfl rfl rfl rfl rfl rfl ?_
  refine o_as (Nv 0) rfl (aops_end (hK8 _ ?_))
  refine awp_ret ?_
  refine post_ret ⟨[.agg [Sv ((frT (fixZ m w)).num), Sv ((frT (fixZ m w)).den)], Nv 0], ⟨⟨3, .var 32 [Sv ((frT (fixZ m w)).num), Sv ((frT (fixZ m w)).den)], rfl, rfl, rfl, Or.inl ⟨f75_, AV.le_refl _⟩⟩, AV.le_refl _, trivial⟩, rfl, ?_⟩
  first | exact tup_eq2 (congrArg (fun f => AV.agg (cF f)) hx.1) rfl | exact tup_eq2 (congrArg (fun f => AV.agg (cF f)) hx.1.symm) rfl | exact tup_eq2 (congrArg (fun f => AV.agg (cF f)) hx.1) (congrArg (nm _) hc0) | exact tup_eq2 (congrArg (fun f => AV.agg (cF f)) hx.1.symm) (congrArg (nm _) hc0.symm)

theorem c_yTurn (m : MapM) (w : List Int) (hl : w.length ≤ 17592186044416) : ECalls cx 7 [mapV m, Lv w] (.tup [.sl 2 (gcells cF (tnL m w)), nm .i64 (cycE m w)]) := by
 refine ecalls_of_awp Tryd.func7 (c := _) rfl (Nat.le_of_ble_eq_true rfl) ?_
 show awp cx 45 _ (postF cx Tryd.f7 _) ⟨[(0, mapV m), (1, Lv w)], []⟩
 refine awp_seq fun K0 hK0 => awp_region rfl ?_
 refine o_box 2 [Iv m.mod, Lv m.mul, Lv m.add] gn rfl rfl ?_
 refine o_as Zv rfl (o_as (Nv 0) rfl (aops_end (hK0 _ (awp_seq fun K1 hK1 => awp_seq fun K2 hK2 => awp_region rfl ?_))))
 refine o_loadA [Iv m.mod, Lv m.mul, Lv m.add] gn f49_ rfl rfl rfl rfl rfl ?_
 refine o_mv (Lv w) rfl ?_
 refine o_ct (c_yCheck m w (by assumption)) gn f81_ rfl ?_
 refine o_as (Nv (cycE m w)) rfl (aops_end (hK2 _ (awp_seq fun K3 hK3 => awp_region rfl (o_mv (Nv (cycE m w)) rfl ?_))))
 refine n_neq (cycE m w) 0 gn rfl rfl ?_
 refine aops_end (hK3 _ ?_)
 refine awp_condQ (q := (cycE m w) ≠ 0) rfl (fun h1 => ?_) (fun h1 => ?_)
 ·have hx := fxF_no h1
  refine awp_seq fun K4 hK4 => awp_region rfl (o_mv (Nv (cycE m w)) rfl (o_as Zv rfl (o_as (Nv (cycE m w)) rfl (aops_end (hK4 _ ?_)))))
  refine awp_ret ?_
  refine post_ret ⟨[.sl 2 (gcells cF ([])), Nv (cycE m w)], ⟨(AV.le_nil' (by decide) (by first | rfl | simp [digs_zero, ns, is])), AV.le_refl _, trivial⟩, rfl, ?_⟩
  first | exact tup_eq2 (gs_as hx.2) rfl | exact tup_eq2 (gs_as hx.2.symm) rfl | exact tup_eq2 (congrArg (.sl 2) (by rw [hx.2]; rfl)) rfl | (have e9 : i = w.length := (by omega); rw [e9]; exact tup_eq2 (gs_as hx.2) (congrArg (nm _) hc0))
 ·have hc0 := Decidable.not_not.1 h1
  obtain ⟨hM, hf, hW, hne⟩ := cyc_0' hc0
  have hM2 := hM
  obtain ⟨o1, o2, o3, o4, o5⟩ := hM2
  have hx := fxF_ok hc0
  have hwl := hW.2
  refine awp_skip (hK1 _ (awp_seq fun K5 hK5 => awp_region rfl (o_as Zv rfl (aops_end (hK5 _ (awp_seq fun K6 hK6 => awp_region rfl ?_))))))
  refine o_loadA [Iv m.mod, Lv m.mul, Lv m.add] gn f49_ rfl rfl rfl rfl rfl ?_
  refine o_mv (Lv w) rfl ?_
  refine o_ct (c_yFix m w hM hf hW hne) gn f82_ rfl ?_
  refine o_alloc 3 [Fv, Zv, Fv, Zv] gn f64_ rfl rfl rfl ?_
  refine o_store [(3, .var 52 [bp ((fixZ m w).num < 0), .sl 1 (ns .u32 (digs ((fixZ m w).num).natAbs)), bp ((fixZ m w).den < 0), .sl 1 (ns .u32 (digs ((fixZ m w).den).natAbs))]), (2, oM 24 m)] gn f67_ rfl rfl rfl rfl rfl rfl ?_
  refine aops_end (hK6 _ (awp_seq fun K7 hK7 => awp_seq fun K8 hK8 => awp_region rfl (o_mv (Lv w) rfl ?_)))
  refine i_len w gn f40_ rfl ?_
  refine o_mv (Nv 0) rfl (aops_end (hK8 _ ?_))
  refine awp_block ?_
  refine awp_loopR (fun κ σ => ∃ (i : Nat), (i ≤ w.length) ∧ (w.length - i) = κ ∧ σ = ⟨[(2, .ref 2 0), (7, .row 50), (8, .ref 3 0), (22, Lv w), (23, Nv (w.length)), (24, Nv i)], [(2, oM 24 m), (3, .var 52 [bp ((trnZ m w (fixZ m w) i).num < 0), .sl 1 (ns .u32 (digs ((trnZ m w (fixZ m w) i).num).natAbs)), bp ((trnZ m w (fixZ m w) i).den < 0), .sl 1 (ns .u32 (digs ((trnZ m w (fixZ m w) i).den).natAbs))]), (50, .row 32 2 (gcells cF (trL m w i)))]⟩) ⟨_, _, ⟨0, (by omega), rfl, rfl⟩, ?wk0⟩ ?rd0
  case wk0 =>
   exact Wk.trans (Wk.newNil (i := 7) (id := 504) (e := 32) (sz := 2) rfl rfl (by decide)) (Wk.trans (Wk.sub (σ' := ⟨[(2, .ref 2 0), (7, .row 504), (8, .ref 3 0), (22, Lv w), (23, Nv (w.length)), (24, Nv 0)], [(2, oM 24 m), (504, .row 32 2 (gcells cF ([]))), (3, .var 52 [bp ((fixZ m w).num < 0), .sl 1 (ns .u32 (digs ((fixZ m w).num).natAbs)), bp ((fixZ m w).den < 0), .sl 1 (ns .u32 (digs ((fixZ m w).den).natAbs))])]⟩) ⟨rfl, rfl, rfl, rfl, rfl, rfl, trivial⟩ ⟨rfl, rfl, rfl, trivial⟩) (Wk.trans (Wk.ren (id := 504) (id' := 50) rfl) (Wk.sub ⟨rfl, (by first | rfl | simp), rfl, rfl, rfl, (by first | rfl | exact nm_int (by omega)), trivial⟩ ⟨(by first | rfl | (first | exact row_gs' (trL_s m w _) | exact row_gs' (by rfl))), (by first | rfl | (first | exact row_gs' (trL_s m w _) | exact row_gs' (by rfl))), (by first | rfl | exact row_ns (by simp) | (first | exact row_gs' (trL_s m w _) | exact row_gs' (by rfl))), trivial⟩)))
  rintro κ _ ⟨i, hi, rfl, rfl⟩
  refine awp_seq fun K9 hK9 => awp_region rfl ?_
  refine n_lss i (w.length) gn rfl rfl ?_
  refine aops_end (hK9 _ (awp_seq fun K10 hK10 => ?_))
  refine awp_condQ (q := i < (w.length)) rfl (fun h2 => ?_) (fun h2 => ?_)
  ·obtain ⟨k1, k2⟩ := trn_fit hM hf hW hne (show i ≤ w.length by omega)
   obtain ⟨k3, k4⟩ := trn_len hM hf hW hne (show i ≤ w.length by omega)
   obtain ⟨k5, k6⟩ := isW_get hW.1 (show i < w.length by omega)
   have k7 := (trn_ok hM hf hW.1 hne (show i ≤ w.length by omega)).1.1
   have k8 := trL_len m w i
   refine awp_skip (hK10 _ (awp_seq fun K11 hK11 => ?_))
   refine awp_block ?_
   refine awp_seq fun K12 hK12 => awp_region rfl ?_
   refine i_index w i gn f42_ rfl rfl (by omega) ?_
   refine i_loadI w i gn f37_ rfl (by omega) ?_
   refine o_as (Iv (w.getD i 0)) rfl (aops_end (hK12 _ (awp_seq fun K13 hK13 => awp_region rfl ?_)))
   refine o_loadA [bp ((trnZ m w (fixZ m w) i).num < 0), .sl 1 (ns .u32 (digs ((trnZ m w (fixZ m w) i).num).natAbs)), bp ((trnZ m w (fixZ m w) i).den < 0), .sl 1 (ns .u32 (digs ((trnZ m w (fixZ m w) i).den).natAbs))] gn f68_ rfl rfl rfl rfl rfl ?_
   refine o_ct (c_yTold (trnZ m w (fixZ m w) i) (by assumption) (by assumption)) gn f83_ rfl ?_
   refine o_mv (.tup [.agg [Sv ((frT (trnZ m w (fixZ m w) i)).num), Sv ((frT (trnZ m w (fixZ m w) i)).den)], Tv]) rfl (o_extract (.agg [Sv ((frT (trnZ m w (fixZ m w) i)).num), Sv ((frT (trnZ m w (fixZ m w) i)).den)]) gn rfl rfl (o_extract Tv gn rfl rfl ?_))
   refine o_alloc 101 [Sv Ev, Sv Ev] gn f69_ rfl rfl rfl ?_
   refine o_store [(101, .var 32 [Sv ((frT (trnZ m w (fixZ m w) i)).num), Sv ((frT (trnZ m w (fixZ m w) i)).den)]), (2, oM 24 m), (3, .var 52 [bp ((trnZ m w (fixZ m w) i).num < 0), .sl 1 (ns .u32 (digs ((trnZ m w (fixZ m w) i).num).natAbs)), bp ((trnZ m w (fixZ m w) i).den < 0), .sl 1 (ns .u32 (digs ((trnZ m w (fixZ m w) i).den).natAbs))]), (50, .row 32 2 (gcells cF (trL m w i)))] gn f74_ rfl rfl rfl rfl rfl rfl ?_
   refine o_as Tv rfl (aops_end (hK13 _ (awp_seq fun K14 hK14 => awp_seq fun K15 hK15 => awp_region rfl (o_mv Tv rfl ?_))))
   refine o_not (b := true) gn rfl ?_
   refine aops_end (hK15 _ ?_)
   refine awp_condB (b := false) rfl (fun hh => absurd (hh.symm.trans rfl) (by decide)) (fun _ => ?_)
   refine awp_skip (hK14 _ (awp_seq fun K16 hK16 => awp_region rfl (o_mv (.row 50) rfl ?_)))
   refine o_loadA [Sv ((frT (trnZ m w (fixZ m w) i)).num), Sv ((frT (trnZ m w (fixZ m w) i)).den)] gn f75_ rfl rfl rfl rfl rfl ?_
   refine o_buildSlice 102 (gcells cF ([frT (trnZ m w (fixZ m w) i)])) [(0, [Sv ((frT (trnZ m w (fixZ m w) i)).num), Sv ((frT (trnZ m w (fixZ m w) i)).den)])] gn f84_ rfl f69_ rfl rfl rfl rfl rfl rfl rfl ?_
   refine g_append cF 103 (trL m w i) ([frT (trnZ m w (fixZ m w) i)]) [(102, .row 32 2 (gcells cF ([frT (trnZ m w (fixZ m w) i)]))), (101, .var 32 [Sv ((frT (trnZ m w (fixZ m w) i)).num), Sv ((frT (trnZ m w (fixZ m w) i)).den)]), (2, oM 24 m), (3, .var 52 [bp ((trnZ m w (fixZ m w) i).num < 0), .sl 1 (ns .u32 (digs ((trnZ m w (fixZ m w) i).num).natAbs)), bp ((trnZ m w (fixZ m w) i).den < 0), .sl 1 (ns .u32 (digs ((trnZ m w (fixZ m w) i).den).natAbs))])] cF_len rfl gn f84_ f69_ rfl rfl rfl rfl rfl (by simp only [List.length_append, List.length_cons, List.length_nil]; omega) (by simp only [List.length_append, List.length_cons, List.length_nil]; omega) rfl rfl ?_
   refine o_as (.row 103) rfl (aops_end (hK16 _ (awp_region rfl ?_)))
   refine o_loadA [Iv m.mod, Lv m.mul, Lv m.add] gn f49_ rfl rfl rfl rfl rfl ?_
   refine o_loadA [bp ((trnZ m w (fixZ m w) i).num < 0), .sl 1 (ns .u32 (digs ((trnZ m w (fixZ m w) i).num).natAbs)), bp ((trnZ m w (fixZ m w) i).den < 0), .sl 1 (ns .u32 (digs ((trnZ m w (fixZ m w) i).den).natAbs))] gn f68_ rfl rfl rfl rfl rfl ?_
   refine o_mv (Iv (w.getD i 0)) rfl ?_
   refine o_ct (c_yNext m (trnZ m w (fixZ m w) i) (w.getD i 0) hM (by omega) (by omega) (by omega) (by omega) (by omega)) gn f85_ rfl ?_
   refine o_store [(103, .row 32 2 (gcells cF ((trL m w i) ++ ([frT (trnZ m w (fixZ m w) i)])))), (102, .row 32 2 (gcells cF ([frT (trnZ m w (fixZ m w) i)]))), (101, .var 32 [Sv ((frT (trnZ m w (fixZ m w) i)).num), Sv ((frT (trnZ m w (fixZ m w) i)).den)]), (2, oM 24 m), (3, .var 52 [bp ((nxtZ m (trnZ m w (fixZ m w) i) (w.getD i 0)).num < 0), .sl 1 (ns .u32 (digs ((nxtZ m (trnZ m w (fixZ m w) i) (w.getD i 0)).num).natAbs)), bp ((nxtZ m (trnZ m w (fixZ m w) i) (w.getD i 0)).den < 0), .sl 1 (ns .u32 (digs ((nxtZ m (trnZ m w (fixZ m w) i) (w.getD i 0)).den).natAbs))])] gn f67_ rfl rfl rfl rfl rfl rfl ?_
   refine aops_end (hK11 _ (awp_region rfl ?_))
   refine n_add i 1 gn rfl rfl (by simp only [topOf]; omega) ?_
   refine o_mv (Nv (i + 1)) rfl (aops_end ?_)
   refine ⟨_, _, ?lt, ⟨i + 1, (by omega), rfl, rfl⟩, ?wk⟩
   case lt => omega
   case wk => exact Wk.trans (Wk.sub (σ' := ⟨[(2, .ref 2 0), (7, .row 103), (8, .ref 3 0), (22, Lv w), (23, Nv (w.length)), (24, Nv (i + 1))], [(2, oM 24 m), (103, .row 32 2 (gcells cF ((trL m w i) ++ ([frT (trnZ m w (fixZ m w) i)])))), (3, .var 52 [bp ((nxtZ m (trnZ m w (fixZ m w) i) (w.getD i 0)).num < 0), .sl 1 (ns .u32 (digs ((nxtZ m (trnZ m w (fixZ m w) i) (w.getD i 0)).num).natAbs)), bp ((nxtZ m (trnZ m w (fixZ m w) i) (w.getD i 0)).den < 0), .sl 1 (ns .u32 (digs ((nxtZ m (trnZ m w (fixZ m w) i) (w.getD i 0)).den).natAbs))])]⟩) ⟨rfl, rfl, rfl, rfl, rfl, rfl, trivial⟩ ⟨rfl, rfl, rfl, trivial⟩) (Wk.trans (Wk.ren (id := 103) (id' := 50) rfl) (Wk.sub ⟨rfl, (by first | rfl | simp), rfl, rfl, rfl, (by first | rfl | exact nm_int (by omega)), trivial⟩ ⟨rfl, (by first | rfl | (first | exact row_gs' (trL_s m w _) | exact row_gs' (by rfl))), (by first | rfl | exact row_ns (by simp) | (first | exact row_gs' (trL_s m w _) | exact row_gs' (by rfl))), trivial⟩))
  ·refine awp_exit ?_
   refine hK7 _ (awp_seq fun K17 hK17 => awp_region rfl (o_mv (.row 50) rfl (o_as (.row 50) rfl (o_as (Nv 0) rfl (aops_end (hK17 _ ?_))))))
   refine awp_wk (σ' := ⟨[(4, .row 50), (5, Nv 0)], [(50, .row 32 2 (gcells cF (trL m w i)))]⟩) (Wk.sub ⟨rfl, rfl, trivial⟩ ⟨rfl, trivial⟩) ?_
   refine awp_wk (σ' := ⟨[(4, .sl 2 (gcells cF (trL m w i))), (5, Nv 0)], []⟩) (Wk.freeze (id := 50) (e := 32) (sz := 2) (cs := (gcells cF (trL m w i))) rfl) ?_
   refine awp_ret ?_
   refine post_ret ⟨[.sl 2 (gcells cF (trL m w i)), Nv 0], ⟨AV.le_refl _, AV.le_refl _, trivial⟩, rfl, ?_⟩
   first | exact tup_eq2 (gs_as hx.2) rfl | exact tup_eq2 (gs_as hx.2.symm) rfl | exact tup_eq2 (congrArg (.sl 2) (by rw [hx.2]; rfl)) rfl | (have e9 : i = w.length := (by omega); rw [e9]; exact tup_eq2 (gs_as hx.2) (congrArg (nm _) hc0))

end Go.Proofs.YtdmkejloknejdaaDoor

namespace Go.Ab
theorem Wk.cells {C : Ctx} {n : Nat} {σ : St} {i ty : Nat} {cs cs' : List AV} (hs : lookO σ.objs i = some (.var ty cs)) (hl : LeL cs cs') : Wk C n σ ⟨σ.slots, (i, .var ty cs') :: σ.objs⟩ := fun w0 H L a w hr => by
 have conv : ∀ j o, lookO ((i, .var ty cs') :: σ.objs) j = some o → (j = i ∧ o = .var ty cs') ∨ (j ≠ i ∧ σ.sem.μ j = some o) := fun j o ho => by
  simp only [lookO] at ho
  by_cases h2 : j = i
  ·subst h2
   simp at ho
   exact .inl ⟨rfl, ho.symm⟩
  ·rw [beq_ne (fun e => h2 e.symm)] at ho
   exact .inr ⟨h2, ho⟩
 have hi0 := hr.objs i (.var ty cs) hs
 refine ⟨H, L, Ext.refl _ _, ⟨hr.glob, hr.heap, hr.size, hr.slot, fun j o ho => ?_, fun j k o o' g x x' hjk hj hk => ?_, hr.below, hr.defers⟩⟩
 ·rcases conv j o ho with ⟨rfl, rfl⟩ | ⟨h1, h2⟩
  ·obtain ⟨g, vs, a1, a2, a3, a4, a5, a6⟩ := hi0
   exact ⟨g, vs, a1, a2, hl.rep a3, a4, a5, a6⟩
  ·exact hr.objs j o h2
 ·have conv' : ∀ j o, lookO ((i, .var ty cs') :: σ.objs) j = some o → ∃ o', σ.sem.μ j = some o' := fun j o ho => by
   rcases conv j o ho with ⟨rfl, rfl⟩ | ⟨h1, h2⟩
   ·exact ⟨_, hs⟩
   ·exact ⟨_, h2⟩
  obtain ⟨o1, h1⟩ := conv' j o hj
  obtain ⟨o2, h2⟩ := conv' k o' hk
  exact hr.apart j k o1 o2 g x x' hjk h1 h2
end Go.Ab
namespace Go.Mth
open Go.Ab
def gC (a b : Nat) : Prop := ((digs a).getD ((digs a).length - 1) 0) ≤ ((digs b).getD ((digs b).length - 1) 0) ∧ 0 < (digs a).length - (digs b).length
instance (a b : Nat) : Decidable (gC a b) := inferInstanceAs (Decidable ((digs a).getD ((digs a).length - 1) 0 ≤ ((digs b).getD ((digs b).length - 1) 0) ∧ 0 < (digs a).length - (digs b).length))
def gSh (a b : Nat) : Nat := if gC a b then (digs a).length - (digs b).length - 1 else (digs a).length - (digs b).length
def gTop (a b : Nat) : Nat := if gC a b then ((digs a).getD ((digs a).length - 1) 0) * 1000000000 + (digs a).getD ((digs a).length - 2) 0 else ((digs a).getD ((digs a).length - 1) 0)
def gQ (a b : Nat) : Nat := max (gTop a b / ((digs b).getD ((digs b).length - 1) 0 + 1)) 1
def guessN (a b : Nat) : Nat := 1000000000 ^ gSh a b * gQ a b
end Go.Mth

namespace Go.Proofs.YtdmkejloknejdaaDoor
open Go Go.Ab Go.Mth
end Go.Proofs.YtdmkejloknejdaaDoor

namespace Go.Proofs.YtdmkejloknejdaaDoor
open Go Go.Ab Go.Mth
theorem c_vIs (m : MapM) (w : List Int) (hwl : w.length ≤ 17592186044416) : ECalls cx 14 [mapV m, Lv w] (bp (OkW m w)) := by
 refine ecalls_of_awp Tryd.func14 (c := _) rfl (Nat.le_of_ble_eq_true rfl) ?_
 show awp cx 29 _ (postF cx Tryd.f14 _) ⟨[(0, mapV m), (1, Lv w)], []⟩
 refine awp_seq fun K0 hK0 => awp_region rfl ?_
 refine o_box 2 [Iv m.mod, Lv m.mul, Lv m.add] gn rfl rfl ?_
 refine o_as Fv rfl (aops_end (hK0 _ (awp_seq fun K1 hK1 => awp_seq fun K2 hK2 => awp_region rfl (o_as (Nv 0) rfl (aops_end (hK2 _ ?_))))))
 refine awp_block ?_
 refine awp_loopR (fun κ σ => ∃ (i : Nat), (i ≤ w.length) ∧ (∀ k, k < i → 0 ≤ w.getD k 0 ∧ w.getD k 0 < m.mod) ∧ (w.length - i) = κ ∧ σ = ⟨[(1, Lv w), (2, .ref 2 0), (5, Nv i)], [(2, oM 24 m)]⟩) ⟨_, _, ⟨0, (by omega), (fun k hk => by omega), rfl, rfl⟩, ?wk0⟩ ?rd0
 case wk0 =>
  exact Wk.sub ⟨rfl, rfl, (by first | rfl | exact nm_int (by omega)), trivial⟩ ⟨rfl, trivial⟩
 rintro κ _ ⟨i, hi, hf, rfl, rfl⟩
 refine awp_seq fun K3 hK3 => awp_seq fun K4 hK4 => awp_region rfl (o_mv (Nv i) rfl (o_mv (Lv w) rfl ?_))
 refine i_len w gn f40_ rfl ?_
 refine n_lss i (w.length) gn rfl rfl ?_
 refine aops_end (hK4 _ ?_)
 refine awp_condQ (q := i < (w.length)) rfl (fun h1 => ?_) (fun h1 => ?_)
 ·refine awp_skip (hK3 _ (awp_seq fun K5 hK5 => ?_))
  refine awp_block ?_
  refine awp_seq fun K6 hK6 => awp_regionD rfl (o_mv (Lv w) rfl (o_mv (Nv i) rfl ?_))
  refine i_index w i gn f42_ rfl rfl (by omega) ?_
  refine i_loadI w i gn f37_ rfl (by omega) ?_
  refine o_lss (a := (w.getD i 0)) (c := ((0 : Nat) : Int)) gn rfl rfl ?_
  refine o_mv (bp ((w.getD i 0) < ((0 : Nat) : Int))) rfl ?_
  refine o_splitP (q := (w.getD i 0) < ((0 : Nat) : Int)) 17 rfl (fun h2 => ?_) (fun h2 => ?_)
  ·refine o_skip rfl rfl (decide_eq_true h2) (o_skip rfl rfl (decide_eq_true h2) (o_skip rfl rfl (decide_eq_true h2) (o_skip rfl rfl (decide_eq_true h2) (o_skip rfl rfl (decide_eq_true h2) (o_skip rfl rfl (decide_eq_true h2) (o_skip rfl rfl (decide_eq_true h2) ?_))))))
   refine o_pickT Tv gn rfl (decide_eq_true h2) rfl ?_
   refine aops_end ⟨by kernel_rfl, ?_⟩
   refine hK6 _ ?_
   refine awp_condB (b := true) rfl (fun _ => ?_) (fun hh => absurd (hh.symm.trans rfl) (by decide))
   refine awp_seq fun K7 hK7 => awp_region rfl (o_as Fv rfl (aops_end (hK7 _ ?_)))
   refine awp_ret ?_
   refine post_ret ⟨[Fv], ⟨AV.le_refl _, trivial⟩, rfl, ?_⟩
   exact (bl_bp (b := false) ⟨fun h => (by cases h), fun h => absurd h (fun hh => absurd (isW_get hh.1 h1).1 (by omega))⟩).symm
  ·refine o_move (Lv w) (Gd.yes rfl rfl (decide_eq_false h2)) rfl (o_move (Nv i) (Gd.yes rfl rfl (decide_eq_false h2)) rfl ?_)
   refine i_index w i (Gd.yes rfl rfl (decide_eq_false h2)) f42_ rfl rfl (by omega) ?_
   refine i_loadI w i (Gd.yes rfl rfl (decide_eq_false h2)) f37_ rfl (by omega) ?_
   refine o_fieldRef 0 (Gd.yes rfl rfl (decide_eq_false h2)) f36_ rfl rfl ?_
   refine o_loadS (Iv m.mod) (Gd.yes rfl rfl (decide_eq_false h2)) f37_ rfl rfl rfl ?_
   refine o_geq (a := (w.getD i 0)) (c := m.mod) (Gd.yes rfl rfl (decide_eq_false h2)) rfl rfl ?_
   refine o_pickF (bp (m.mod ≤ (w.getD i 0))) gn rfl (decide_eq_false h2) rfl ?_
   refine aops_end ⟨by kernel_rfl, ?_⟩
   refine hK6 _ ?_
   refine awp_condQ (q := m.mod ≤ (w.getD i 0)) rfl (fun h3 => ?_) (fun h3 => ?_)
   ·refine awp_seq fun K8 hK8 => awp_region rfl (o_as Fv rfl (aops_end (hK8 _ ?_)))
    refine awp_ret ?_
    refine post_ret ⟨[Fv], ⟨AV.le_refl _, trivial⟩, rfl, ?_⟩
    exact (bl_bp (b := false) ⟨fun h => (by cases h), fun h => absurd h (fun hh => absurd (isW_get hh.1 h1).2 (by omega))⟩).symm
   ·refine awp_skip (hK5 _ (awp_region rfl (o_mv (Nv i) rfl ?_)))
    refine n_add i 1 gn rfl rfl (by simp only [topOf]; omega) ?_
    refine o_as (Nv (i + 1)) rfl (aops_end ?_)
    refine ⟨_, _, ?lt, ⟨i + 1, (by omega), (fun k hk => by rcases Nat.lt_or_ge k i with e | e; exact hf k e; rw [show k = i by omega]; omega), rfl, rfl⟩, ?wk⟩
    case lt => omega
    case wk => exact Wk.sub ⟨rfl, rfl, (by first | rfl | exact nm_int (by omega)), trivial⟩ ⟨rfl, trivial⟩
 ·refine awp_exit ?_
  refine hK1 _ (awp_seq fun K9 hK9 => awp_region rfl (o_mv (Lv w) rfl ?_))
  refine i_len w gn f40_ rfl ?_
  refine n_leq (w.length) 200 gn rfl rfl ?_
  refine o_as (bp ((w.length) ≤ 200)) rfl (aops_end (hK9 _ ?_))
  refine awp_ret ?_
  refine post_ret ⟨[bp ((w.length) ≤ 200)], ⟨AV.le_refl _, trivial⟩, rfl, ?_⟩
  exact bp_congr ⟨fun h => h.2, fun h => ⟨isW_of fun k hk => hf k (by omega), h⟩⟩

end Go.Proofs.YtdmkejloknejdaaDoor

namespace Go.Proofs.YtdmkejloknejdaaDoor
open Go Go.Ab Go.Mth
end Go.Proofs.YtdmkejloknejdaaDoor

namespace Go.Mth
open Go.Ab
theorem cmpL_s1 {x y : List Int} {i : Nat} (hx : i < x.length) (hy : y.length ≤ i) : cmpL (x.drop i) (y.drop i) = 1 := by
 rw [List.drop_of_length_le hy, List.drop_eq_getElem_cons hx]; rfl
theorem cmpL_s2 {x y : List Int} {i : Nat} (hx : i < x.length) (hy : i < y.length) : cmpL (x.drop i) (y.drop i) = if cmpZ (x.getD i 0) (y.getD i 0) = 0 then cmpL (x.drop (i + 1)) (y.drop (i + 1)) else cmpZ (x.getD i 0) (y.getD i 0) := by
 rw [List.drop_eq_getElem_cons hx, List.drop_eq_getElem_cons hy, List.getD_eq_getElem?_getD, List.getD_eq_getElem?_getD, List.getElem?_eq_getElem hx, List.getElem?_eq_getElem hy]; rfl
theorem cmpL_e1 {x y : List Int} {i : Nat} (hx : x.length ≤ i) (hy : i < y.length) : cmpL (x.drop i) (y.drop i) = -1 := by
 rw [List.drop_of_length_le hx, List.drop_eq_getElem_cons hy]; rfl
theorem cmpL_e2 {x y : List Int} {i : Nat} (hx : x.length ≤ i) (hy : y.length ≤ i) : cmpL (x.drop i) (y.drop i) = 0 := by
 rw [List.drop_of_length_le hx, List.drop_of_length_le hy]; rfl
theorem rot_cut {α : Type} (w : List α) {i : Nat} (hi : i ≤ w.length) : ((w.drop i).take (w.length - i)) ++ ((w.drop 0).take (i - 0)) = rotL w i := by
 rw [List.take_of_length_le (by rw [List.length_drop]; exact Nat.le_refl _), List.drop_zero, Nat.sub_zero]; rfl
def orbL (m : MapM) (x : Int) (n : Nat) : List Int := (List.range n).map fun i => iterZ m i x
def leastI (l : List Int) : Nat → Nat
 | 0 => 0
 | i + 1 => if l.getD i default < l.getD (leastI l i) default then i else leastI l i
def rotM (l : List Int) : List Int := rotL l (leastI l l.length)
def cyc (m : MapM) (x : Int) (n : Nat) : List Int := rotM (orbL m x n)
theorem orbL_len (m : MapM) (x : Int) (n : Nat) : (orbL m x n).length = n := by unfold orbL; simp
theorem orbL_s (m : MapM) (x : Int) (n : Nat) : orbL m x n ++ [iterZ m n x] = orbL m x (n + 1) := by unfold orbL; rw [List.range_succ, List.map_append]; rfl
theorem orbL_get {m : MapM} {x : Int} {n i : Nat} (h : i < n) : (orbL m x n).getD i default = iterZ m i x := by unfold orbL; simp [List.getD_eq_getElem?_getD, h]
theorem least_lt {l : List Int} (h : 0 < l.length) : ∀ i, i ≤ l.length → leastI l i < l.length
 | 0, _ => h
 | i + 1, hi => by
  rw [leastI]
  split
  ·omega
  ·exact least_lt h i (by omega)
theorem least_y {l : List Int} {i : Nat} (h : l.getD i default < l.getD (leastI l i) default) : leastI l (i + 1) = i := if_pos h
theorem least_n {l : List Int} {i : Nat} (h : ¬ l.getD i default < l.getD (leastI l i) default) : leastI l (i + 1) = leastI l i := if_neg h
theorem least_le {l : List Int} : ∀ i j, j < i → l.getD (leastI l i) default ≤ l.getD j default
 | 0, j, h => by omega
 | i + 1, j, h => by
  have ih := fun hj => least_le (l := l) i j hj
  rw [leastI]
  split
  ·rename_i e
   rcases Nat.lt_or_ge j i with g | g
   ·have := ih g; omega
   ·rw [show j = i by omega]; exact Int.le_refl _
  ·rename_i e
   rcases Nat.lt_or_ge j i with g | g
   ·exact ih g
   ·rw [show j = i by omega]; omega
theorem iter_len {m : MapM} (hm : OkM m) (z : Int) : ∀ k, (digs (iterZ m k z).natAbs).length ≤ (digs z.natAbs).length + 4 * k
 | 0 => by show (digs z.natAbs).length ≤ _; omega
 | k + 1 => by
  have h1 := iter_len hm z k
  have h2 := step_len' hm (iterZ m k z)
  show (digs (stepZ m (iterZ m k z)).natAbs).length ≤ _
  omega
end Go.Mth

namespace Go.Ab
open Go.RowKit
def reachB : Nat → Array Oper → Nat → Nat → Bool
 | 0, _, _, _ => false
 | f + 1, ops, i, j => match ops[j]? with
  | some o => o.after.any fun e => Region.binds .any e && (Nat.beq e.on i || reachB f ops i e.on)
  | none => false
def pairsT (ops : Array Oper) : List It → Bool
 | [] => true
 | p :: r => r.all (fun q => lateB p q && (reachB 6 ops p.i q.i || indepB ops p q)) && pairsT ops r
def drawT (ops : Array Oper) (es : List Eff) : Bool := edgesB 0 ops.toList && pairsT ops (items 0 ops.toList es)
section
variable {C : Ctx} {n : Nat} {w0 : World} {ops : Array Oper} {Q : Exit → Act → World → Prop}

end
section
variable {C : Ctx} {ops : Array Oper} {s : List (Nat × AV)} {m : List (Nat × AO)} {K : List Eff → St → Prop} {os : List Oper} {d : Nat} {t : TypeId} {p : String} {af : Array Edge} {g : Option (Nat × Bool)}
end
end Go.Ab

namespace Go.Ab
open Go.RowKit
def MarksOk (H : Heap) (B : Nat) : List Deferred → Prop
 | [] => True
 | d :: ds => (∃ D, d = mark D ∧ B ≤ D ∧ H D = some (.deferred (some [])) ∧ ∀ D', mark D' ∈ ds → D' ≠ D) ∧ MarksOk H B ds
theorem MarksOk.le {H H' : Heap} {B : Nat} (hx : H.le H') : ∀ {mk : List Deferred}, MarksOk H B mk → MarksOk H' B mk
 | [], _ => trivial
 | d :: ds, ⟨⟨D, h1, h2, h3, h4⟩, h5⟩ => ⟨⟨D, h1, h2, hx _ _ h3, h4⟩, h5.le hx⟩
theorem MarksOk.known {H : Heap} {B : Nat} : ∀ {mk : List Deferred}, MarksOk H B mk → ∀ {D : Nat}, mark D ∈ mk → H D = some (.deferred (some []))
 | [], _, _, h => by cases h
 | d :: ds, ⟨⟨D, h1, h2, h3, h4⟩, h5⟩, D', h => by
  rcases List.mem_cons.1 h with e | e
  ·rw [h1] at e
   have : D' = D := by simpa [mark] using e
   rw [this]; exact h3
  ·exact h5.known e
def PostM (C : Ctx) (n : Nat) (w0 : World) (H : Heap) (Q : Exit → St → Prop) (e : Exit) (a : Act) (w : World) : Prop := ∃ mk σ' H' L', MarksOk H' w0.heap.size mk ∧ Ext w0.heap.size H H' ∧ Rep { C with marks := mk } n w0 H' L' (St.sem σ') a w ∧ Q e σ'
def awpM (C : Ctx) (n : Nat) (c : Code) (Q : Exit → St → Prop) (σ : St) : Prop :=
 ∀ mk w0 H L a w, MarksOk H w0.heap.size mk → Rep { C with marks := mk } n w0 H L σ.sem a w → c.wpIn (fen none) 0 C.P (PostM C n w0 H Q) a w
def WkM (C : Ctx) (n : Nat) (σ σ' : St) : Prop := ∀ mk, Wk { C with marks := mk } n σ σ'
section
variable {C : Ctx} {n : Nat} {Q : Exit → St → Prop} {σ : St}
theorem PostM.ext {w0 : World} {H H' : Heap} {e : Exit} {a : Act} {w : World} (hx : Ext w0.heap.size H H') (h : PostM C n w0 H' Q e a w) : PostM C n w0 H Q e a w := by
 obtain ⟨mk, σ', H2, L', h1, h2, h3⟩ := h
 exact ⟨mk, σ', H2, L', h1, hx.trans h2, h3⟩
theorem awpM_lift {c : Code} (h : ∀ mk, awp { C with marks := mk } n c Q σ) : awpM C n c Q σ := fun mk w0 H L a w hm hr => wpIn_mono (h mk w0 H L a w hr none) fun e a w ⟨σ', H', L', hx, hr', hq⟩ => ⟨mk, σ', H', L', hm.le hx.1, hx, hr', hq⟩
theorem awpM_wk {c : Code} {σ' : St} (hw : WkM C n σ σ') (h : awpM C n c Q σ') : awpM C n c Q σ := fun mk w0 H L a w hm hr => by
 obtain ⟨H', L', hx, hr'⟩ := hw mk w0 H L a w hr
 exact wpIn_mono (h mk w0 H' L' a w (hm.le hx.1) hr') fun e a w hp => hp.ext hx
theorem awpM_seq {x y : Code} (h : ∀ K : St → Prop, (∀ σ, awpM C n y Q σ → K σ) → awpM C n x (thenK K Q) σ) : awpM C n (.seq x y) Q σ := fun mk w0 H L a w hm hr => by
 refine wpIn_seq (wpIn_mono (h (fun σ => awpM C n y Q σ) (fun _ h => h) mk w0 H L a w hm hr) fun e a w hp => ?_)
 obtain ⟨mk', σ', H', L', hm', hx, hr', hq⟩ := hp
 cases e with
 | normal => exact wpIn_mono (hq mk' w0 H' L' a w hm' hr') fun e a w hp => hp.ext hx
 | _ => exact ⟨mk', σ', H', L', hm', hx, hr', hq⟩
theorem awpM_block {id : Nat} {c : Code} (h : awpM C n c (inBlk id Q) σ) : awpM C n (.block id c) Q σ := fun mk w0 H L a w hm hr => by
 refine wpIn_block (wpIn_mono (h mk w0 H L a w hm hr) fun e a w hp => ?_)
 obtain ⟨mk', σ', H', L', hm', hx, hr', hq⟩ := hp
 cases e with
 | exit i =>
  simp only [Exit.inBlock]
  simp only [inBlk] at hq
  by_cases hi : i = id
  ·subst hi
   simp at hq
   simp only [if_true]
   exact ⟨mk', σ', H', L', hm', hx, hr', hq⟩
  ·simp only [beq_ne hi, cond_false] at hq
   simp only [hi, if_false]
   exact ⟨mk', σ', H', L', hm', hx, hr', hq⟩
 | _ => exact ⟨mk', σ', H', L', hm', hx, hr', hq⟩
def LoopJ (C : Ctx) (n : Nat) (w0 : World) (H : Heap) (I : Nat → St → Prop) (k : Nat) (a : Act) (w : World) : Prop := ∃ σ' mk' H' L', I k σ' ∧ MarksOk H' w0.heap.size mk' ∧ Ext w0.heap.size H H' ∧ Rep { C with marks := mk' } n w0 H' L' (St.sem σ') a w
theorem awpM_loopR {c : Code} (I : Nat → St → Prop) (h0 : ∃ k σ', I k σ' ∧ WkM C n σ σ') (round : ∀ k σ', I k σ' → awpM C n c (thenK (fun σ2 => ∃ k' σ3, k' < k ∧ I k' σ3 ∧ WkM C n σ2 σ3) Q) σ') : awpM C n (.loop c) Q σ := fun mk w0 H L a w hm hr => by
 obtain ⟨k0, σ0, hi0, hw0⟩ := h0
 obtain ⟨H1, L1, hx1, hr1⟩ := hw0 mk w0 H L a w hr
 have hJ : LoopJ C n w0 H I k0 a w := ⟨σ0, mk, H1, L1, hi0, hm.le hx1.1, hx1, hr1⟩
 refine wpIn_loop (fun a w => ∃ k, LoopJ C n w0 H I k a w) (fun a w => leastOf (fun k => LoopJ C n w0 H I k a w)) ⟨k0, hJ⟩ ?_
 intro a w hI
 obtain ⟨σ', mk', H', L', hi, hm', hx, hr'⟩ := (leastOf_spec hI).1
 refine wpIn_mono (round _ σ' hi mk' w0 H' L' a w hm' hr') ?_
 intro e a' w' hq
 obtain ⟨mk2, σ2, H2, L2, hm2, hx2, hr2, hq⟩ := hq
 cases e with
 | normal =>
  obtain ⟨k', σ3, hlt, hi', hw'⟩ := hq
  obtain ⟨H3, L3, hx3, hr3⟩ := hw' mk2 w0 H2 L2 a' w' hr2
  have hJ' : LoopJ C n w0 H I k' a' w' := ⟨σ3, mk2, H3, L3, hi', hm2.le hx3.1, (hx.trans hx2).trans hx3, hr3⟩
  exact show (∃ k, LoopJ C n w0 H I k a' w') ∧ leastOf (fun k => LoopJ C n w0 H I k a' w') < leastOf (fun k => LoopJ C n w0 H I k a w) from ⟨⟨k', hJ'⟩, Nat.lt_of_le_of_lt ((leastOf_spec ⟨k', hJ'⟩).2 k' hJ') hlt⟩
 | _ => exact ⟨mk2, σ2, H2, L2, hm2, hx.trans hx2, hr2, hq⟩
end
theorem yldAt_of_roundR {C : Ctx} (hmk : C.marks = []) {nI n : Nat} {l D D' : Nat} {asx : List AV} {sI so : List (Nat × AV)} {m : List (Nat × AO)} {fn : FuncId} {tmps : Array Value} {ps : Array Tmp} {assign body : Code} {KN : List (Nat × AO) → Prop} {KX : Code → List (Nat × AO) → Prop}
  (hn : tmps.size = n) (hps : ∀ p ∈ ps.toList, p < n) (hl : asx.length = ps.toList.length) (hcl : hasL 9005 asx = false) (hnd : nodB (sI.map (·.1)) = true) (h3 : lookO m 9003 = some (pinA so tmps)) (h4 : lookO m 9004 = some (pinL l D')) (hfr : St.freshB ⟨sI, (9001, .blk (.loop (lrec fn tmps ps assign body D .ready none))) :: m⟩ 9005 = true)
  (hbody : ∀ us : List Value, awpRound C n assign body (.loop (lrec fn tmps ps assign body D .ready none)) (.loop (lrec fn tmps ps assign body D .busy none)) (pinL l D') (roundQ C n (.loop (lrec fn tmps ps assign body D .busy none)) (.pin (valsOf sI) us) l D' KN KX)
   ⟨parS ps.toList asx so, (9005, .pin (valsOf sI) us) :: (9001, .blk (.loop (lrec fn tmps ps assign body D .ready none))) :: m⟩) :
  YldAt C nI l asx ⟨sI, (9001, .blk (.loop (lrec fn tmps ps assign body D .ready none))) :: m⟩ fun b σ' =>
   (b = true ∧ ∃ m', σ' = ⟨sI, (9001, .blk (.loop (lrec fn tmps ps assign body D .ready none))) :: m'⟩ ∧ KN m') ∨ (b = false ∧ ∃ c m', σ' = ⟨sI, (9001, .blk (.loop (lrec fn tmps ps assign body D .done (some c)))) :: m'⟩ ∧ KX c m') := by
 intro w0 H L a w vals hr hv
 have hlv := hv.length
 have hfs := fresh_sem hfr
 have hall : sI.all (fun p => !p.2.has 9005) = true := by
  simp only [St.freshB, Bool.and_eq_true] at hfr
  exact hfr.1
 obtain ⟨hl1, hh, hB, hH⟩ := pinL_loc hr (l := l) (D := D') (by rw [mu_sem]; exact h4) (o := .loop (lrec fn tmps ps assign body D .ready none)) (by rw [mu_sem]; exact lookO_hd _ _ _)
 refine ⟨fn, _, assign, body, run_yield hh (by show vals.toArray.size = ps.size; simp; rw [hlv, hl]; simp), ?_⟩
 have hpin := hr.pinned (id := 9005) hfs (cs := valsOf sI) (us := sI.map fun p => a.tmps.getD p.1 undef) (slots_rep (t := fun i => a.tmps.getD i undef) fun p hp => by
  have := hr.slot p.1
  rw [show (St.sem ⟨sI, _⟩).ρ p.1 = look sI p.1 from rfl, nod_look hnd p hp] at this
  exact this) (valsOf_has hall)
 have hμ3 : (St.sem ⟨sI, (9001, .blk (.loop (lrec fn tmps ps assign body D .ready none))) :: m⟩).μ 9003 = some (pinA so tmps) := by
  rw [mu_sem]
  exact h3
 have hso := (hpin.objs 9003 (pinA so tmps) (by simpa using hμ3)).2
 have hpar := par_rep ps.toList asx vals so tmps (RepL.setL (y := some (.tuple #[])) hcl hv) (fun p hp => by rw [hn]; exact hps p hp) hl (slots_of (t := fun i => tmps.getD i undef) hso)
 have hzip : (Array.foldl (fun (t : Array Value) (p : Nat × Value) => t.setIfInBounds p.1 p.2) tmps (ps.zip vals.toArray)) = (ps.toList.zip vals).foldl (fun (t : Array Value) (p : Nat × Value) => t.setIfInBounds p.1 p.2) tmps := by
  rw [← Array.foldl_toList, Array.toList_zip]
 have hrd := hpin.frameS (n' := n) (a' := { tmps := (ps.toList.zip vals).foldl (fun (t : Array Value) (p : Nat × Value) => t.setIfInBounds p.1 p.2) tmps, defers := [] }) [] (by rw [foldl_size]; exact hn) rfl hpar
  (m := (9005, .pin (valsOf sI) (sI.map fun p => a.tmps.getD p.1 undef)) :: (9001, .blk (.loop (lrec fn tmps ps assign body D .ready none))) :: m) (fun i o hi => by
   show (if i = 9005 then _ else (St.sem ⟨sI, _⟩).μ i) = _
   rw [mu_sem]
   rw [lookO] at hi
   by_cases h5 : i = 9005
   ·subst h5; simpa using hi
   ·rw [beq_ne (fun e => h5 e.symm)] at hi; simpa [h5] using hi)
 rw [marks_nil hmk] at hrd
 refine roundIn_of_wpIn trivial ?_
 show assign.wpIn (fen (some l)) 0 C.P _ { tmps := (Array.foldl (fun (t : Array Value) (p : Nat × Value) => t.setIfInBounds p.1 p.2) tmps (ps.zip vals.toArray)), defers := [] } w
 rw [hzip]
 refine wpIn_mono (hbody _ w0 H _ _ w hrd (some l)) ?_
 rintro e a1 w1 ⟨σ1, H1, L1, hx1, hr1, hq⟩
 cases e with
 | normal =>
  obtain ⟨s1, m1, hwk, h41, hb⟩ := hq
  obtain ⟨H2, L2, hx2, hr2⟩ := hwk w0 H1 L1 a1 w1 hr1
  have h42 : lookO ((9001, AO.blk (.loop (lrec fn tmps ps assign body D .ready none))) :: m1) 9004 = some (pinL l D') := by exact h41
  obtain ⟨hl2, hh2, hB2, hH2⟩ := pinL_loc hr2 (by rw [mu_sem]; exact h42) (o := .loop (lrec fn tmps ps assign body D .ready none)) (by rw [mu_sem]; exact lookO_hd _ _ _)
  refine ⟨_, run_beginRound hh2 rfl, ?_⟩
  have hr3 := hr2.putRec (lookO_hd _ _ _) h42 (.loop (lrec fn tmps ps assign body D .busy none)) ((9001, .blk (.loop (lrec fn tmps ps assign body D .busy none))) :: m1) (fun i => by
   by_cases h : i = 9001
   ·subst h; simp [lookO]
   ·simp [lookO, beq_ne (fun e => h e.symm), h])
  refine wpIn_mono (hb w0 H2 L2 a1 _ hr3 (some l)) ?_
  rintro e a2 w2 ⟨σ2, H3, L3, hx3, hr4, hq⟩
  have fin : ∀ (jump : Option Code) (m' : List (Nat × AO)), Wk C n σ2 ⟨[], (9005, .pin (valsOf sI) (sI.map fun p => a.tmps.getD p.1 undef)) :: (9001, .blk (.loop (lrec fn tmps ps assign body D .busy none))) :: m'⟩ → lookO m' 9004 = some (pinL l D') → lookO m' 9005 = none →
    ∃ w4 H4 L4, (Instr.endRound l jump).run C.P w2 = .ok (.bool jump.isNone) w4 ∧ Ext w0.heap.size H H4 ∧ Rep C nI w0 H4 L4 (St.sem ⟨sI, (9001, .blk (.loop (lrec fn tmps ps assign body D (if jump.isNone then .ready else .done) jump))) :: m'⟩) a w4 := by
   intro jump m' hwk2 h43 h45
   obtain ⟨H4, L4, hx4, hr5⟩ := hwk2 w0 H3 L3 a2 w2 hr4
   have h44 : lookO ((9005, AO.pin (valsOf sI) (sI.map fun p => a.tmps.getD p.1 undef)) :: (9001, .blk (.loop (lrec fn tmps ps assign body D .busy none))) :: m') 9004 = some (pinL l D') := by exact h43
   obtain ⟨hl5, hh5, hB5, hH5⟩ := pinL_loc hr5 (by rw [mu_sem]; exact h44) (o := .loop (lrec fn tmps ps assign body D .busy none)) (by rw [mu_sem]; rfl)
   have hback := (hr5.objs 9005 (.pin (valsOf sI) (sI.map fun p => a.tmps.getD p.1 undef)) (by rw [mu_sem]; exact lookO_hd _ _ _)).2
   have hr6 := hr5.frameS (n' := nI) (a' := a) C.marks hr.size hr.defers (slots_of (t := fun i => a.tmps.getD i undef) hback) (m := (9001, .blk (.loop (lrec fn tmps ps assign body D .busy none))) :: m') (fun i o hi => by
    rw [mu_sem]
    by_cases h5 : i = 9005
    ·subst h5
     have hdup : lookO m' 9005 = some o := hi
     rw [h45] at hdup
     cases hdup
    ·rw [lookO, beq_ne (fun e => h5 e.symm)]; exact hi)
   have hr7 := Rep.putRec (C := C) hr6 (lookO_hd _ _ _) (l := l) (D := D') (by exact h43) (.loop (lrec fn tmps ps assign body D (if jump.isNone then .ready else .done) jump)) ((9001, .blk (.loop (lrec fn tmps ps assign body D (if jump.isNone then .ready else .done) jump))) :: m') (fun i => by
    by_cases h : i = 9001
    ·subst h; simp [lookO]
    ·simp [lookO, beq_ne (fun e => h e.symm), h])
   exact ⟨_, H4, L4, run_endRound jump hh5, (((hx1.trans hx2).trans hx3).trans hx4), hr7⟩
  cases e with
  | normal =>
   obtain ⟨m', hwk2, h43, h45, hK⟩ := hq
   obtain ⟨w4, H4, L4, hrun, hx4, hr7⟩ := fin none m' hwk2 h43 h45
   exact ⟨_, w4, hrun, true, _, H4, L4, rfl, hx4, hr7, .inl ⟨rfl, m', rfl, hK⟩⟩
  | ret =>
   obtain ⟨m', hwk2, h43, h45, hK⟩ := hq
   obtain ⟨w4, H4, L4, hrun, hx4, hr7⟩ := fin (some .ret) m' hwk2 h43 h45
   exact ⟨_, w4, hrun, false, _, H4, L4, rfl, hx4, hr7, .inr ⟨rfl, .ret, m', rfl, hK⟩⟩
  | exit id =>
   obtain ⟨m', hwk2, h43, h45, hK⟩ := hq
   obtain ⟨w4, H4, L4, hrun, hx4, hr7⟩ := fin (some (.exit id)) m' hwk2 h43 h45
   exact ⟨_, w4, hrun, false, _, H4, L4, rfl, hx4, hr7, .inr ⟨rfl, .exit id, m', rfl, hK⟩⟩
  | goto t => exact hq.elim
  | panic c => exact hq.elim
  | outgrown => exact hq.elim
 | exit id => exact hq.elim
 | goto t => exact hq.elim
 | ret => exact hq.elim
 | panic c => exact hq.elim
 | outgrown => exact hq.elim


theorem awpRound_eq {C : Ctx} {n : Nat} {a a' b b' : Code} {o o' : Obj} {pl : AO} {Q : Exit → St → Prop} {σ : St} (ha : a' = a) (hb : b' = b) (h : awpRound C n a b o o' pl Q σ) : awpRound C n a' b' o o' pl Q σ := by subst ha; subst hb; exact h
theorem yldAt_of_roundG {C : Ctx} (hmk : C.marks = []) {ps0 : Array Tmp} {assign0 body0 : Code} {ps : Array Tmp} {assign body : Code} (e1 : ps = ps0) (e2 : assign = assign0) (e3 : body = body0) {nI n : Nat} {l D D' : Nat} {asx : List AV} {sI so : List (Nat × AV)} {m : List (Nat × AO)} {fn : FuncId} {tmps : Array Value} {KN : List (Nat × AO) → Prop} {KX : Code → List (Nat × AO) → Prop}
  (hn : tmps.size = n) (hps : ∀ p ∈ ps0.toList, p < n) (hl : asx.length = ps0.toList.length) (hcl : hasL 9005 asx = false) (hnd : nodB (sI.map (·.1)) = true) (h3 : lookO m 9003 = some (pinA so tmps)) (h4 : lookO m 9004 = some (pinL l D')) (hfr : St.freshB ⟨sI, (9001, .blk (.loop (lrec fn tmps ps assign body D .ready none))) :: m⟩ 9005 = true)
  (hbody : ∀ us : List Value, awpRound C n assign0 body0 (.loop (lrec fn tmps ps assign body D .ready none)) (.loop (lrec fn tmps ps assign body D .busy none)) (pinL l D') (roundQ C n (.loop (lrec fn tmps ps assign body D .busy none)) (.pin (valsOf sI) us) l D' KN KX)
   ⟨parS ps0.toList asx so, (9005, .pin (valsOf sI) us) :: (9001, .blk (.loop (lrec fn tmps ps assign body D .ready none))) :: m⟩) :
  YldAt C nI l asx ⟨sI, (9001, .blk (.loop (lrec fn tmps ps assign body D .ready none))) :: m⟩ fun b σ' =>
   (b = true ∧ ∃ m', σ' = ⟨sI, (9001, .blk (.loop (lrec fn tmps ps assign body D .ready none))) :: m'⟩ ∧ KN m') ∨ (b = false ∧ ∃ c m', σ' = ⟨sI, (9001, .blk (.loop (lrec fn tmps ps assign body D .done (some c)))) :: m'⟩ ∧ KX c m') :=
 yldAt_of_roundR hmk hn (by rw [e1]; exact hps) (by rw [e1]; exact hl) hcl hnd h3 h4 hfr fun us => by
  rw [congrArg Array.toList e1]
  exact awpRound_eq e2 e3 (hbody us)
theorem awp_regionYK {C : Ctx} {n : Nat} {Q : Exit → St → Prop} {σ : St} {id : Nat} {ops : Array Oper} (k d : Nat) (y : Operand) (args : Array Operand) (tys : Array TypeId) (t : TypeId) (p : String) (af : Array Edge) (l : Nat) (asx : List AV)
  (hk : ops.toList[k]? = some ⟨some d, .call { callee := .value y, args := args, argTypes := tys }, t, p, af, none⟩) (hd : dstsB n ops.toList = true)
  (h : aops C ops σ (ops.toList.take k) fun _ σ' => ∃ σ1, Wk C n σ' σ1 ∧ σ1.ev y = .lit (.func (.yield l) #[] #[]) ∧ args.toList.map σ1.sem.ev = asx ∧ YldAt C n l asx σ1 fun b σ2 => aops C ops ⟨(d, .lit (.bool b)) :: σ2.slots, σ2.objs⟩ (ops.toList.drop (k + 1)) fun _ σ3 => Q .normal σ3) :
  awp C n (.region id ops false) Q σ := fun w0 H L a w hr r => by
 obtain ⟨es, σ', ht, σ1, hwk, hy, has, hY⟩ := h
 obtain ⟨hl, hx⟩ := List.getElem?_eq_some_iff.1 hk
 have hdst := dsts_spec hd
 refine wpIn_region ?_
 rw [List.range_eq_range']
 have htl : (ops.toList.take k).length = k := by rw [List.length_take]; omega
 have hsz : ops.size = (ops.toList.take k).length + ((ops.toList.drop (k + 1)).length + 1) := by rw [htl, List.length_drop]; have : ops.toList.length = ops.size := Array.length_toList; omega
 rw [hsz, ← List.range'_append_1, List.range'_succ]
 refine lex_prefix (C := C) (n := n) (w0 := w0) r _ (ops.toList.take k) 0 σ.sem σ'.sem es H L a w (by rw [List.drop_zero, htl]) ht hr (fun o ho => hdst o (List.mem_of_mem_take ho)) fun a' w' Hq Lq hxq hrq => ?_
 obtain ⟨H', L', hxw, hr'⟩ := hwk w0 Hq Lq a' w' hrq
 have hx := hxq.trans hxw
 simp only [Nat.zero_add]
 rw [wpOpsIn_cons, htl]
 have hi : ops[k]? = some ⟨some d, .call { callee := .value y, args := args, argTypes := tys }, t, p, af, none⟩ := by
  rw [← Array.getElem?_toList]; exact hk
 unfold wpOpIn
 simp only [hi]
 rw [if_pos (by simp [Region.wanted])]
 have hyv := hr'.ev y
 rw [ev_sem, hy] at hyv
 simp only [RepV] at hyv
 have hargs : ∀ (xs : List Operand), RepL H' (xs.map σ1.sem.ev) L' (xs.map a'.eval) := by
  intro xs
  induction xs with
  | nil => simp only [List.map_nil, RepL]
  | cons x xs ih => simp only [List.map_cons, RepL]; exact ⟨_, _, rfl, hr'.ev x, ih⟩
 have hal := hargs args.toList
 rw [has] at hal
 obtain ⟨fn, tmps, assign, body, hrun, hround⟩ := hY w0 H' L' a' w' _ hr' hal
 have e1 : (List.map a'.eval args.toList).toArray = args.map a'.eval := by apply Array.ext'; rw [Array.toList_map]
 rw [e1] at hrun
 have hex : (execOp a'.eval ⟨some d, .call { callee := .value y, args := args, argTypes := tys }, t, p, af, none⟩).run C.P w' = .ok (.round l fn tmps assign body) w' := by
  unfold execOp
  simp only [resolve, hyv, Deferred.ofValue, invoke, Sem.run_bind, Sem.run_pure, Result.andThen_ok, Array.empty_append, Array.append_empty, hrun]
 refine ⟨fun _ _ => trivial, ?_⟩
 rw [semAt_of hex (fun d hd => by cases hd)]
 refine ⟨fen_depth, RoundIn.mono (F := fen r) hround ?_⟩
 rintro e w2 ⟨b, σ2, H2, L2, rfl, hx2, hr2, hq⟩
 obtain ⟨es2, σ3, ht2, hQ⟩ := hq
 have hdn : d < n := hdst ⟨some d, .call { callee := .value y, args := args, argTypes := tys }, t, p, af, none⟩ (List.mem_of_getElem? hk) d rfl
 have hv := hr2.val (dst := some d) (fun d' hd' => by cases hd'; exact hdn) (x := .lit (.bool b)) (v := .bool b) (by simp [RepV]) [] []
 rw [← sem_app] at hv
 exact lex_sound r (ops.toList.drop (k + 1)) (k + 1) _ _ es2 H2 L2 _ w2 rfl ht2 hv (fun o ho => hdst o (List.mem_of_mem_drop ho)) fun a3 w3 H3 L3 hx3 hr3 => ⟨σ3, H3, L3, (hx.trans hx2).trans hx3, hr3, hQ⟩
theorem Rep.frzBlk {C : Ctx} {n : Nat} {w0 : World} {H : Heap} {L : Loc} {S : SS} {a : Act} {w : World} (hr : Rep C n w0 H L S a w) {id : Nat} {o : Obj} (h : S.μ id = some (.blk o)) {g : Nat} (hl : L id = some (.pointer (some ⟨g, 0, none⟩))) :
  ∃ H', Ext w0.heap.size H H' ∧ H' g = some o ∧ w0.heap.size ≤ g ∧ Rep C n w0 H' L ⟨S.ρ, fun i => if i = id then none else S.μ i⟩ a w := by
 obtain ⟨g', a1, a2, a3, a4⟩ := hr.objs id _ h
 rw [hl] at a1
 cases a1
 have hle : H.le (fun b => if b = g then some o else H b) := fun b ob hb => by
  have : b ≠ g := fun e => by subst e; rw [a4] at hb; cases hb
  simp [this, hb]
 have hheap : ∀ b ob, (if b = g then some o else H b) = some ob → w.heap[b]? = some ob := fun b ob hb => by
  by_cases hbg : b = g
  ·subst hbg; simp at hb; subst hb; exact a2
  ·simp [hbg] at hb; exact hr.heap b ob hb
 refine ⟨fun b => if b = g then some o else H b, ⟨hle, fun b hb => ?_⟩, by simp, a3, hr.hide h hl hle hheap fun g' hg' => ?_⟩
 ·have : b ≠ g := fun e => by omega
  simp [this]
 ·have : g' ≠ g := fun e => hg' (by rw [e]; rfl)
  simp [this]
theorem awpM_range {C : Ctx} (hmk : C.marks = []) {n : Nat} {Q : Exit → St → Prop} {σ : St} {g : Operand} {ps : Array Tmp} {assign body : Code} {gf : FuncId} {caps : List AV} {fnI : Func} {cI : Code} {so : List (Nat × AV)}
  (hs : subS σ so) (hf : C.P.funcs[gf]? = some fnI) (hb : fnI.body = some cI) (hcall : callable C.P gf = true) (hnI : caps.length + 1 ≤ fnI.ntmps) (hres : fnI.results = #[]) (hg : σ.ev g = .clo gf caps) (hnd : nodB (so.map (·.1)) = true)
  (hfr : (σ.freshB 9001 && σ.freshB 9002 && σ.freshB 9003 && σ.freshB 9004) = true) (hso : so.all (fun p => !p.2.has 9003 && !p.2.has 9004) = true)
  (X : (fn : FuncId) → (tmps : Array Value) → (D l : Nat) → Option Code → List (Nat × AO) → Prop)
  (hit : ∀ (fn : FuncId) (tmps : Array Value) (D l : Nat), tmps.size = n → awp C fnI.ntmps cI (fun e σ2 => (e = .normal ∨ e = .ret) ∧ ∃ st pe m', st ≠ LoopState.busy ∧ X fn tmps D l pe m' ∧ lookO m' 9001 = none ∧ lookO m' 9003 = none ∧ lookO m' 9002 = none ∧ lookO m' 9004 = none ∧
    Wk C fnI.ntmps σ2 ⟨[], (9001, .blk (.loop (lrec fn tmps ps assign body D st pe))) :: (9002, .blk (.deferred (some []))) :: (9003, pinA so tmps) :: (9004, pinL l D) :: m'⟩)
   ⟨ent 0 (.lit (.func (.yield l) #[] #[]) :: caps), (9004, pinL l D) :: (9003, pinA so tmps) :: (9001, .blk (.loop (lrec fn tmps ps assign body D .ready none))) :: (9002, .blk (.deferred (some []))) :: σ.objs⟩)
  (hQ : ∀ (fn : FuncId) (tmps : Array Value) (D l : Nat) pe m', X fn tmps D l pe m' → jumpQ Q ⟨so, m'⟩ pe) : awpM C n (.rangeFunc g ps assign body) Q σ := by
 intro mk w0 H L a w hm hr
 have hdef : a.defers = mk := hr.defers
 simp only [Bool.and_eq_true] at hfr
 obtain ⟨⟨⟨f1, f2⟩, f3⟩, f4⟩ := hfr
 obtain ⟨s, m⟩ := σ
 have hgv := hr.ev g
 rw [ev_sem, hg] at hgv
 simp only [RepV] at hgv
 obtain ⟨vs, hgv, hcaps⟩ := hgv
 have hc1 : hasL 9001 caps = false := clo_has g (fresh_sem f1) hg
 have hc2 : hasL 9002 caps = false := clo_has g (fresh_sem f2) hg
 have hc3 : hasL 9003 caps = false := clo_has g (fresh_sem f3) hg
 have hc4 : hasL 9004 caps = false := clo_has g (fresh_sem f4) hg
 have hcaps4 := RepL.setL (y := some (.tuple #[])) hc4 (RepL.setL (y := some (.tuple #[])) hc3 (RepL.setL (y := some (.pointer (some ⟨w.heap.size + 1, 0, none⟩))) hc1 (RepL.setL (y := some (.pointer (some ⟨w.heap.size, 0, none⟩))) hc2 hcaps)))
 refine wpIn_rangeFunc ?_
 intro fn hfn
 show ∃ l mark w₁ d w₁' f args w₂, (Instr.enterLoop fn a.tmps ps assign body none).run C.P w = _ ∧ _
 -- the two blocks, and the ghosts
 have r1 := hr.blkS f2 (.deferred (some []))
 have r2 := r1.blkS (freshB_cons f1 rfl rfl) (.loop (lrec fn a.tmps ps assign body w.heap.size .ready none))
 rw [World.size_alloc] at r2
 have hslot2 : ∀ p ∈ so, RepV H p.2 ((L.set 9002 (some (.pointer (some ⟨w.heap.size, 0, none⟩)))).set 9001 (some (.pointer (some ⟨w.heap.size + 1, 0, none⟩)))) (a.tmps.getD p.1 undef) := fun p hp => by
  have h1 := r2.slot p.1
  rw [show (St.sem ⟨s, _⟩).ρ p.1 = look s p.1 from rfl] at h1
  rw [show look s p.1 = p.2 from subS_mem hs hp] at h1
  exact h1
 have hno3 : so.all (fun p => !p.2.has 9003) = true := List.all_eq_true.2 fun p hp => by
  have := List.all_eq_true.1 hso p hp
  simp only [Bool.and_eq_true] at this
  exact this.1
 have hno4 : so.all (fun p => !p.2.has 9004) = true := List.all_eq_true.2 fun p hp => by
  have := List.all_eq_true.1 hso p hp
  simp only [Bool.and_eq_true] at this
  exact this.2
 have r3 := r2.pinS (id := 9003) (freshB_cons (freshB_cons f3 rfl rfl) rfl rfl) (slots_rep (t := fun i => a.tmps.getD i undef) hslot2) (valsOf_has hno3)
 have r4 := r3.pinS (id := 9004) (cs := [.ref 9001 0, .ref 9002 0]) (us := [.pointer (some ⟨w.heap.size + 1, 0, none⟩), .pointer (some ⟨w.heap.size, 0, none⟩)])
  (freshB_cons (freshB_cons (freshB_cons f4 rfl rfl) rfl rfl) rfl (valsOf_has hno4)) (by simp [RepL, RepV, Loc.set, ownB]) rfl
 obtain ⟨W1, hW1⟩ : ∃ W1, W1 = (w.alloc (.deferred (some []))).alloc (.loop (lrec fn a.tmps ps assign body w.heap.size .ready none)) := ⟨_, rfl⟩
 rw [← hW1] at r4
 refine ⟨w.heap.size + 1, [mark w.heap.size], W1, { target := .fn (.func gf) vs.toArray, args := #[.func (.yield (w.heap.size + 1)) #[] #[]] }, W1, gf, #[.func (.yield (w.heap.size + 1)) #[] #[]] ++ vs.toArray, W1, ?_, ?_, ?_, ?_, fen_depth, ?_⟩
 ·rw [hW1]
  exact run_enterLoop_outer fn a.tmps ps assign body
 ·simp only [resolve, hgv]
  simp [go_sem]
 ·intro f' hf'
  trivial
 ·simp only [invoke]
  exact run_callFunc hcall _ _
 ·-- the iterator
  have hcl := RepL.cons (x := .lit (.func (.yield (w.heap.size + 1)) #[] #[])) (v := .func (.yield (w.heap.size + 1)) #[] #[]) (by simp [RepV]) hcaps4
  obtain ⟨e1, e2⟩ := entry_rep (C := C) (n := fnI.ntmps) (w0 := w) (by simpa using hnI) hcl
  have ea : (Value.func (.yield (w.heap.size + 1)) #[] #[] :: vs).toArray = #[.func (.yield (w.heap.size + 1)) #[] #[]] ++ vs.toArray := by simp
  rw [ea] at e1 e2
  refine callsIn_of_wp hf hb trivial ?_
  have r5 := r4.frameS (n' := fnI.ntmps) (a' := { tmps := #[.func (.yield (w.heap.size + 1)) #[] #[]] ++ vs.toArray ++ Array.replicate (fnI.ntmps - (#[Value.func (.yield (w.heap.size + 1)) #[] #[]] ++ vs.toArray).size) undef, defers := [] }) [] e1 rfl e2 (fun i o h => h)
  have r5 := (show Rep { C with marks := [] } _ _ _ _ _ _ _ from r5)
  rw [marks_nil hmk] at r5
  refine wpIn_mono (hit fn a.tmps w.heap.size (w.heap.size + 1) hr.size w0 H _ _ W1 r5 none) ?_
  rintro e a2 w2 ⟨σ2, H2, L2, hx2, hr2, he, st, pe, m', hst, hX, hn1, hn3, hn2, hn4, hwk⟩
  obtain ⟨H3, L3, hx3, hr3⟩ := hwk w0 H2 L2 a2 w2 hr2
  have hback := (hr3.objs 9003 (pinA so a.tmps) rfl).2
  obtain ⟨hl1, hh1, hB1, hH1⟩ := pinL_loc hr3 (l := w.heap.size + 1) (D := w.heap.size) rfl (o := .loop (lrec fn a.tmps ps assign body w.heap.size st pe)) rfl
  have r6 := Rep.putRec hr3 rfl (l := w.heap.size + 1) (D := w.heap.size) rfl (.loop (lrec fn a.tmps ps assign body w.heap.size .exhausted pe)) ((9001, .blk (.loop (lrec fn a.tmps ps assign body w.heap.size .exhausted pe))) :: (9002, .blk (.deferred (some []))) :: (9003, pinA so a.tmps) :: (9004, pinL (w.heap.size + 1) w.heap.size) :: m') (fun i => by
   by_cases h : i = 9001
   ·subst h; rfl
   ·simp [lookO, beq_ne (fun e => h e.symm), h])
  obtain ⟨_, hp4⟩ := r6.objs 9004 (pinL (w.heap.size + 1) w.heap.size) rfl
  simp only [RepL] at hp4
  obtain ⟨v1, q1, e41, _, v2, q2, e42, hv2, _⟩ := hp4
  subst e42
  cases e41
  simp only [RepV] at hv2
  obtain ⟨x9, g9, k91, k92, k93⟩ := hv2
  obtain ⟨g9', b91, b92, b93, b94⟩ := r6.objs 9002 (.blk (.deferred (some []))) rfl
  rw [k91] at b91
  cases b91
  simp [ownB] at k92 k93
  subst k92
  subst k93
  obtain ⟨H5, hx5, hD5, hB5, r65⟩ := r6.frzBlk (id := 9002) (o := .deferred (some [])) rfl k91
  have r7 := r65.frameS (n' := n) (a' := { tmps := a.tmps, defers := mark w.heap.size :: mk }) (mark w.heap.size :: mk) hr.size rfl (slots_of (t := fun i => a.tmps.getD i undef) (RepL.mono hx5.1 (Loc.le_refl _) hback)) (m := m') (fun i o hi => by
   have n1 : i ≠ 9001 := fun e => by rw [e, hn1] at hi; cases hi
   have n2 : i ≠ 9002 := fun e => by rw [e, hn2] at hi; cases hi
   have n3 : i ≠ 9003 := fun e => by rw [e, hn3] at hi; cases hi
   have n4 : i ≠ 9004 := fun e => by rw [e, hn4] at hi; cases hi
   show (if i = 9002 then none else _) = _
   rw [if_neg n2, mu_sem, lookO, beq_ne (fun e => n1 e.symm), cond_false, lookO, beq_ne (fun e => n2 e.symm), cond_false, lookO, beq_ne (fun e => n3 e.symm), cond_false, lookO, beq_ne (fun e => n4 e.symm), cond_false]
   exact hi)
  have hm7 : MarksOk H5 w0.heap.size (mark w.heap.size :: mk) := ⟨⟨w.heap.size, rfl, hB5, hD5, fun D' hD' e => by
   have hk := hr.heap _ _ (hm.known hD')
   rw [e] at hk
   have := (Array.getElem?_eq_some_iff.1 hk).1
   omega⟩, hm.le ((hx2.trans hx3).trans hx5).1⟩
  have hend := run_endLoop (P := C.P) hh1 (by simpa [lrec] using hst)
  have hJ := hQ fn a.tmps w.heap.size (w.heap.size + 1) pe m' hX
  have fin : rangePost (fen none) 0 C.P (w.heap.size + 1) (PostM C n w0 H Q) { a with defers := [mark w.heap.size] ++ a.defers } (.returned (.tuple #[])) w2 := by
   refine ⟨pe, _, hend, ?_⟩
   rw [hdef]
   have hx : Ext w0.heap.size H H5 := (hx2.trans hx3).trans hx5
   cases pe with
   | none => exact ⟨mark w.heap.size :: mk, _, H5, _, hm7, hx, r7, hJ⟩
   | some c =>
    cases c with
    | ret => exact wpIn_ret ⟨mark w.heap.size :: mk, _, H5, _, hm7, hx, r7, hJ⟩
    | exit id => exact wpIn_exit ⟨mark w.heap.size :: mk, _, H5, _, hm7, hx, r7, hJ⟩
    | _ => exact hJ.elim
  have hres0 : (results fnI a2.tmps).run C.P w2 = .ok (.tuple #[]) w2 := by
   have hm : (fnI.results.mapM (resOne a2.tmps)).run C.P w2 = .ok #[] w2 := by
    rw [hres, Array.mapM_eq_mapM_toList]
    simp
   show (do let vs ← fnI.results.mapM (resOne a2.tmps); pure (if h : vs.size = 1 then vs[0] else .tuple vs) : Sem Value).run C.P w2 = _
   simp only [Sem.run_bind, hm, Result.andThen_ok, Sem.run_pure]
   rfl
  rcases he with rfl | rfl
  ·exact ⟨hr2.defers.trans hmk, _, hres0, fin⟩
  ·exact ⟨hr2.defers.trans hmk, _, hres0, fin⟩


theorem awpM_rangeG {C : Ctx} (hmk : C.marks = []) {n : Nat} {Q : Exit → St → Prop} {σ : St} {g : Operand} {ps : Array Tmp} {assign body : Code} {gf : FuncId} {caps : List AV} {fnI : Func} {cI : Code} {so : List (Nat × AV)}
  (hs : subS σ so) (hf : C.P.funcs[gf]? = some fnI) (hb : fnI.body = some cI) (hcall : callable C.P gf = true) (hnI : caps.length + 1 ≤ fnI.ntmps) (hres : fnI.results = #[]) (hg : σ.ev g = .clo gf caps) (hnd : nodB (so.map (·.1)) = true)
  (hfr : (σ.freshB 9001 && σ.freshB 9002 && σ.freshB 9003 && σ.freshB 9004) = true) (hso : so.all (fun p => !p.2.has 9003 && !p.2.has 9004) = true)
  (X : (fn : FuncId) → (tmps : Array Value) → (D l : Nat) → Option Code → List (Nat × AO) → Prop)
  (hit : ∀ (ps' : Array Tmp) (as' bo' : Code), ps' = ps → as' = assign → bo' = body → ∀ (fn : FuncId) (tmps : Array Value) (D l : Nat), tmps.size = n → awp C fnI.ntmps cI (fun e σ2 => (e = .normal ∨ e = .ret) ∧ ∃ st pe m', st ≠ LoopState.busy ∧ X fn tmps D l pe m' ∧ lookO m' 9001 = none ∧ lookO m' 9003 = none ∧ lookO m' 9002 = none ∧ lookO m' 9004 = none ∧
    Wk C fnI.ntmps σ2 ⟨[], (9001, .blk (.loop (lrec fn tmps ps' as' bo' D st pe))) :: (9002, .blk (.deferred (some []))) :: (9003, pinA so tmps) :: (9004, pinL l D) :: m'⟩)
   ⟨ent 0 (.lit (.func (.yield l) #[] #[]) :: caps), (9004, pinL l D) :: (9003, pinA so tmps) :: (9001, .blk (.loop (lrec fn tmps ps' as' bo' D .ready none))) :: (9002, .blk (.deferred (some []))) :: σ.objs⟩)
  (hQ : ∀ (fn : FuncId) (tmps : Array Value) (D l : Nat) pe m', X fn tmps D l pe m' → jumpQ Q ⟨so, m'⟩ pe) : awpM C n (.rangeFunc g ps assign body) Q σ :=
 awpM_range hmk hs hf hb hcall hnI hres hg hnd hfr hso X (hit ps assign body rfl rfl rfl) hQ
mutual
/-- What is told of a value speaks of blocks of cells alone. -/
theorem RepV.cells {H H' : Heap} (hH : ∀ b o t fr, H b = some (.cells o t fr) → H' b = some (.cells o t fr)) : ∀ {x : AV} {L : Loc} {v : Value}, RepV H x L v → RepV H' x L v
 | .any, _, _, _ => by simp [RepV]
 | .lit _, _, _, h => by simpa [RepV] using h
 | .sl sz cs, _, _, h => by
  simp only [RepV] at h ⊢
  obtain ⟨A, n, cap, rfl, h1, h2, h3, h4, h4', h5⟩ := h
  refine ⟨A, n, cap, rfl, h1, h2, h3, h4, h4', fun hn => ?_⟩
  obtain ⟨b, off, o, t, fr, vs, e, hb, hc, hr, h1c⟩ := h5 hn
  exact ⟨b, off, o, t, fr, vs, e, hH _ _ _ _ hb, hc, RepL.cells hH hr, h1c⟩
 | .slc sz cs cap, _, _, h => by
  simp only [RepV] at h ⊢
  obtain ⟨A, n, rfl, h1, h2, h3, h4, h4', h5⟩ := h
  refine ⟨A, n, rfl, h1, h2, h3, h4, h4', fun hn => ?_⟩
  obtain ⟨b, off, o, t, fr, vs, e, hb, hc, hr, h1c⟩ := h5 hn
  exact ⟨b, off, o, t, fr, vs, e, hH _ _ _ _ hb, hc, RepL.cells hH hr, h1c⟩
 | .agg fs, _, _, h => by
  simp only [RepV] at h ⊢
  obtain ⟨vs, rfl, hr, h1⟩ := h
  exact ⟨vs, rfl, RepL.cells hH hr, h1⟩
 | .tup fs, _, _, h => by
  simp only [RepV] at h ⊢
  obtain ⟨vs, rfl, hr⟩ := h
  exact ⟨vs, rfl, RepL.cells hH hr⟩
 | .ref id off, _, _, h => by simpa [RepV] using h
 | .row id, _, _, h => by simpa [RepV] using h
 | .vw id off sz n, _, _, h => by simpa [RepV] using h
 | .ip cs, _, _, h => by
  simp only [RepV] at h ⊢
  obtain ⟨b, off, o, t, fr, vs, e, hb, hc, hr, h1c⟩ := h
  exact ⟨b, off, o, t, fr, vs, e, hH _ _ _ _ hb, hc, RepL.cells hH hr, h1c⟩
 | .clo f cs, _, _, h => by
  simp only [RepV] at h ⊢
  obtain ⟨vs, rfl, hr⟩ := h
  exact ⟨vs, rfl, RepL.cells hH hr⟩
theorem RepL.cells {H H' : Heap} (hH : ∀ b o t fr, H b = some (.cells o t fr) → H' b = some (.cells o t fr)) : ∀ {xs : List AV} {L : Loc} {vs : List Value}, RepL H xs L vs → RepL H' xs L vs
 | [], _, _, h => by simpa [RepL] using h
 | x :: xs, _, _, h => by
  simp only [RepL] at h ⊢
  obtain ⟨v, r, rfl, h1, h2⟩ := h
  exact ⟨v, r, rfl, RepV.cells hH h1, RepL.cells hH h2⟩
end
theorem Rep.take {C : Ctx} (hG : ∀ H, C.G H) {n : Nat} {w0 : World} {H : Heap} {L : Loc} {S : SS} {a : Act} {w : World} (hr : Rep C n w0 H L S a w) {D : Nat} {ds : Option (List Deferred)} (h : H D = some (.deferred ds)) (hB : w0.heap.size ≤ D) (o : Obj) :
  Rep C n w0 (fun b => if b = D then none else H b) L S a (w.putObj D o) := by
 have hc : ∀ b o t fr, H b = some (.cells o t fr) → (if b = D then none else H b) = some (.cells o t fr) := fun b o t fr hb => by
  have : b ≠ D := fun e => by rw [e, h] at hb; cases hb
  simp [this, hb]
 have hne : ∀ {g : Nat}, H g = none → g ≠ D := fun hg e => by rw [e, h] at hg; cases hg
 refine ⟨hG _, fun b o' hb => ?_, hr.size, fun i => RepV.cells hc (hr.slot i), fun id ob ho => ?_, hr.apart, hr.below.trans ⟨rfl, rfl, rfl, by simp, fun k hk => World.putObj_heap_other (by omega), Nat.le_refl _⟩, hr.defers⟩
 ·by_cases hbD : b = D
  ·simp [hbD] at hb
  ·simp [hbD] at hb
   rw [World.putObj_heap_other hbD]
   exact hr.heap b o' hb
 ·have h0 := hr.objs id ob ho
  cases ob with
  | var t cs =>
   obtain ⟨g, vs, a1, a2, a3, a4, a5, a6⟩ := h0
   exact ⟨g, vs, a1, by rw [World.putObj_heap_other (hne a6)]; exact a2, RepL.cells hc a3, a4, a5, by simp [a6]⟩
  | row e sz cs =>
   obtain ⟨v, vs, m, a1, a2, a3, a4, a5, a6, a7, a8⟩ := h0
   refine ⟨v, vs, m, a1, a2, ⟨a3.1, a3.2.imp (fun x => x) fun ⟨g, cap, cur, r1, r2, r3, r4⟩ => ⟨g, cap, cur, r1, r2, ?_, r4⟩⟩, RepL.cells hc a4, a5, a6, a7, fun g hg => by simp [a8 g hg]⟩
   rw [World.putObj_heap_other (hne (a8 g (by rw [r1]; rfl)))]; exact r3
  | blk o2 =>
   obtain ⟨g, a1, a2, a3, a4⟩ := h0
   exact ⟨g, a1, by rw [World.putObj_heap_other (hne a4)]; exact a2, a3, by simp [a4]⟩
  | pin cs us => exact ⟨h0.1, RepL.cells hc h0.2⟩
theorem leaves_marks {C : Ctx} (hG : ∀ H, C.G H) {n : Nat} {w0 : World} {L : Loc} {S : SS} {a : Act} {P : Program} {fn : Func} {tmps : Array Value} {R : Ending → World → Prop} {u : FrameMode} (hu : u ≠ .run) : ∀ (mk : List Deferred) (H : Heap) (w : World), MarksOk H w0.heap.size mk → Rep C n w0 H L S a w →
  (∀ (H' : Heap) (w' : World), (∀ b, b < w0.heap.size → H' b = H b) → Rep C n w0 H' L S a w' → LeavesIn (fen none) 0 P fn tmps R [] u w') → LeavesInM (fen none) 0 P fn tmps R mk u w
 | [], H, w, _, hr, k => k H w (fun _ _ => rfl) hr
 | d :: ds, H, w, ⟨⟨D, h1, h2, h3, h4⟩, h5⟩, hr, k => by
  refine ⟨hu, .inl ⟨D, w.putObj D (.deferred none), by rw [h1]; rfl, run_takeDeferred (hr.heap _ _ h3), ?_⟩⟩
  have hm : ∀ {ds : List Deferred}, (∀ D', mark D' ∈ ds → D' ≠ D) → MarksOk H w0.heap.size ds → MarksOk (fun b => if b = D then none else H b) w0.heap.size ds := by
   intro ds
   induction ds with
   | nil => intro _ _; trivial
   | cons e es ih =>
    rintro hne ⟨⟨E, g1, g2, g3, g4⟩, g5⟩
    refine ⟨⟨E, g1, g2, ?_, g4⟩, ih (fun D' hD' => hne D' (by simp [hD'])) g5⟩
    have : E ≠ D := hne E (by rw [g1]; simp)
    simp [this, g3]
  refine leaves_marks hG hu ds (fun b => if b = D then none else H b) (w.putObj D (.deferred none)) (hm h4 h5) (hr.take hG h3 h2 _) fun H' w' a1 a2 => k H' w' (fun b hb => ?_) a2
  rw [a1 b hb]
  have : b ≠ D := fun e => by omega
  simp [this]
theorem resOk_any {C : Ctx} {mk : List Deferred} {σ : St} : ∀ (rs : List ResultVar) (vs : List AV), ResOk C σ rs vs → ResOk { C with G := fun _ => True, mono := fun _ _ _ _ => trivial, marks := mk } σ rs vs := by
 intro rs
 induction rs with
 | nil => intro vs h; cases vs <;> exact h
 | cons r rs ih =>
  intro vs h
  cases vs with
  | nil => cases r <;> exact h.elim
  | cons v vs =>
   cases r with
   | tmp t => exact ⟨h.1, ih _ h.2⟩
   | cell t ty => exact ⟨h.1, ih _ h.2⟩
theorem ecalls_of_awpM {C : Ctx} {f : FuncId} {fn : Func} {c : Code} {args : List AV} {res : AV} (hf : C.P.funcs[f]? = some fn) (hb : fn.body = some c) (hn : args.length ≤ fn.ntmps) (h : awpM C fn.ntmps c (postF C fn res) (entry args)) (hmk : C.marks = [] := by rfl) : ECalls C f args res := by
 intro H L vals w hG hH hr
 have hrep := entry_Rep hmk hG hH hn hr
 rw [← marks_nil hmk] at hrep
 refine (callsIn_wide (n := 0)).1 ?_
 refine callsIn_of_wp_marks hf hb trivial ?_
 refine wpIn_mono (h [] w H L _ w trivial hrep) fun e a' w' hp => ?_
 obtain ⟨mk', σ', H', L', hm, hx, hr', hq⟩ := hp
 have fin : (∃ vs, ResOk C σ' fn.results.toList vs ∧ closedL vs = true ∧ res = packR vs) → LeavesInM (fen none) 0 C.P fn a'.tmps (fun e w' => ∃ H' v, e = .returned v ∧ RepV H' res noLoc v ∧ Ext w.heap.size H H' ∧ (∀ b o, H' b = some o → w'.heap[b]? = some o) ∧ Bel w.heap.size w w') a'.defers .returning w' := by
  rintro ⟨vs, hres, hcl, rfl⟩
  rw [hr'.defers]
  have r2 : Rep { C with G := fun _ => True, mono := fun _ _ _ _ => trivial, marks := mk' } fn.ntmps w H' L' (St.sem σ') a' w' := ⟨trivial, hr'.heap, hr'.size, hr'.slot, hr'.objs, hr'.apart, hr'.below, hr'.defers⟩
  refine leaves_marks (fun _ => trivial) (by simp) mk' H' w' hm r2 fun H2 w2 e2 r3 => ?_
  have hres2 : ResOk { C with G := fun _ => True, mono := fun _ _ _ _ => trivial, marks := mk' } σ' fn.results.toList vs := resOk_any _ _ hres
  obtain ⟨v, hrun, hv⟩ := res_ends r3 hres2 hcl
  refine ⟨v, hrun, H2, v, rfl, hv, ⟨fun b o hb => ?_, fun b hb => (e2 b hb).trans (hx.2 b hb)⟩, r3.heap, r3.below⟩
  have hlt := (Array.getElem?_eq_some_iff.1 (hH b o hb)).1
  rw [e2 b hlt]
  exact hx.1 b o hb
 cases e with
 | ret => exact fin hq
 | normal => exact fin hq
 | _ => exact hq.elim
end Go.Ab

namespace Go.Ab
open Go.RowKit
theorem gcells_dropA {α : Type} {c : α → List AV} {n : Nat} (hc : ∀ x, (c x).length = n) : ∀ (l : List α) (i : Nat), (gcells c l).drop (i * n) = gcells c (l.drop i)
 | [], i => by simp [gcells]
 | x :: l, 0 => by simp
 | x :: l, i + 1 => by
  have ih := gcells_dropA hc l i
  rw [List.drop_succ_cons, ← ih, Nat.succ_mul, Nat.add_comm]
  show (c x ++ gcells c l).drop (n + i * n) = _
  rw [List.drop_append, hc, List.drop_of_length_le (by rw [hc]; omega), List.nil_append, show n + i * n - n = i * n by omega]
theorem gcells_takeA {α : Type} {c : α → List AV} {n : Nat} (hc : ∀ x, (c x).length = n) : ∀ (l : List α) (i : Nat), (gcells c l).take (i * n) = gcells c (l.take i)
 | [], i => by simp [gcells]
 | x :: l, 0 => by simp [gcells]
 | x :: l, i + 1 => by
  have ih := gcells_takeA hc l i
  rw [List.take_succ_cons, Nat.succ_mul, Nat.add_comm]
  show (c x ++ gcells c l).take (n + i * n) = c x ++ gcells c (l.take i)
  rw [← ih, List.take_append, hc, List.take_of_length_le (by rw [hc]; omega), show n + i * n - n = i * n by omega]
section
variable {C : Ctx} {ops : Array Oper} {s : List (Nat × AV)} {m : List (Nat × AO)} {K : List Eff → St → Prop} {os : List Oper} {d : Nat} {t : TypeId} {p : String} {af : Array Edge} {g : Option (Nat × Bool)}
theorem g_slice {α : Type} {ty : TypeId} {x : Operand} {lo hi mx : Option Operand} {e n by' : Nat} (c : α → List AV) (xs : List α) (l h : Nat) (hc : ∀ x, (c x).length = n) (hg : Gd ops s g) (ht : tyElem C.P ty = some (e, n, by')) (hx : ev s x = .sl n (gcells c xs))
  (hlo : (St.sem ⟨s, m⟩).loOk lo l) (hhi : (St.sem ⟨s, m⟩).hiOk hi xs.length h) (hmx : (St.sem ⟨s, m⟩).mxOk mx hi.isSome h) (h1 : l ≤ h) (h2 : h ≤ xs.length)
  (kk : aops C ops ⟨(d, .sl n (gcells c ((xs.drop l).take (h - l)))) :: s, m⟩ os fun es σ' => K ({ val := .sl n (gcells c ((xs.drop l).take (h - l))) } :: es) σ') : aops C ops ⟨s, m⟩ (⟨some d, .slice ty x lo hi mx, t, p, af, g⟩ :: os) K :=
 o_slice l h _ hg ht hx (gcells_len hc xs) hlo hhi hmx h1 h2 (by rw [gcells_dropA hc, gcells_takeA hc]) kk
end
end Go.Ab

namespace Go.Proofs.YtdmkejloknejdaaDoor
open Go Go.Ab Go.Mth
theorem f86_ : callable cx.P 72 = true := by kernel_rfl
theorem f87_ : callable cx.P 58 = true := by kernel_rfl
theorem f88_ : cx.P.underlying 62 = some (.slice 50) := by kernel_rfl
theorem f89_ : tyElem cx.P 62 = some (50, 2, 32) := by kernel_rfl
theorem f90_ : callable cx.P 42 = true := by kernel_rfl
theorem f91_ : callable cx.P 41 = true := by kernel_rfl
theorem f92_ : callable cx.P 45 = true := by kernel_rfl
theorem f93_ : callable cx.P 25 = true := by kernel_rfl
theorem f94_ : callable cx.P 46 = true := by kernel_rfl
theorem c_isNaN (x : Int) : ECalls cx 72 [Iv x] Fv := by
 refine ecalls_of_awp Tryd.func72 (c := _) rfl (Nat.le_of_ble_eq_true rfl) ?_
 show awp cx 6 _ (postF cx Tryd.f72 _) ⟨[(0, Iv x)], []⟩
 refine awp_seq fun K0 hK0 => awp_region rfl (o_as Fv rfl (aops_end (hK0 _ (awp_seq fun K1 hK1 => awp_region rfl (o_mv (Iv x) rfl (o_mv (Iv x) rfl ?_))))))
 refine o_neq (a := x) (c := x) gn rfl rfl ?_
 refine n_as (v' := Fv) (by exact bpn (fun h => h rfl)) ?_
 refine o_as Fv rfl (aops_end (hK1 _ ?_))
 refine awp_ret ?_
 refine post_ret ⟨[Fv], ⟨AV.le_refl _, trivial⟩, rfl, ?_⟩
 rfl

theorem c_cmpInt (x y : Int) : ECalls cx 58 [Iv x, Iv y] (.lit (.int .i64 (cmpZ x y))) := by
 refine ecalls_of_awp Tryd.func58 (c := _) rfl (Nat.le_of_ble_eq_true rfl) ?_
 show awp cx 20 _ (postF cx Tryd.f58 _) ⟨[(0, Iv x), (1, Iv y)], []⟩
 refine awp_seq fun K0 hK0 => awp_region rfl (o_as (Nv 0) rfl (aops_end (hK0 _ (awp_seq fun K1 hK1 => awp_region rfl (o_mv (Iv x) rfl ?_)))))
 refine o_ct (c_isNaN _) gn f86_ rfl ?_
 refine o_as Fv rfl (aops_end (hK1 _ (awp_seq fun K2 hK2 => awp_region rfl (o_mv (Iv y) rfl ?_))))
 refine o_ct (c_isNaN _) gn f86_ rfl ?_
 refine o_as Fv rfl (aops_end (hK2 _ (awp_seq fun K3 hK3 => awp_seq fun K4 hK4 => awp_region rfl (o_mv Fv rfl (aops_end (hK4 _ ?_))))))
 refine awp_condB (b := false) rfl (fun hh => absurd (hh.symm.trans rfl) (by decide)) (fun _ => ?_)
 refine awp_skip (hK3 _ (awp_seq fun K5 hK5 => awp_seq fun K6 hK6 => awp_region rfl (o_mv Fv rfl (aops_end (hK6 _ ?_)))))
 refine awp_condB (b := false) rfl (fun hh => absurd (hh.symm.trans rfl) (by decide)) (fun _ => ?_)
 refine awp_skip (hK5 _ (awp_seq fun K7 hK7 => awp_seq fun K8 hK8 => awp_region rfl (o_mv (Iv x) rfl (o_mv (Iv y) rfl ?_))))
 refine o_lss (a := x) (c := y) gn rfl rfl ?_
 refine aops_end (hK8 _ ?_)
 refine awp_condQ (q := x < y) rfl (fun h1 => ?_) (fun h1 => ?_)
 ·refine awp_seq fun K9 hK9 => awp_region rfl (o_as (Iv (-1)) rfl (aops_end (hK9 _ ?_)))
  refine awp_ret ?_
  refine post_ret ⟨[Iv (-1)], ⟨AV.le_refl _, trivial⟩, rfl, ?_⟩
  exact congrArg (fun z => AV.lit (.int .i64 z)) (by unfold cmpZ; rw [if_pos (by assumption)]; all_goals rfl)
 ·refine awp_skip (hK7 _ (awp_seq fun K10 hK10 => awp_seq fun K11 hK11 => awp_region rfl (o_mv (Iv x) rfl (o_mv (Iv y) rfl ?_))))
  refine o_gtr (a := x) (c := y) gn rfl rfl ?_
  refine aops_end (hK11 _ ?_)
  refine awp_condQ (q := y < x) rfl (fun h2 => ?_) (fun h2 => ?_)
  ·refine awp_seq fun K12 hK12 => awp_region rfl (o_as (Nv 1) rfl (aops_end (hK12 _ ?_)))
   refine awp_ret ?_
   refine post_ret ⟨[Nv 1], ⟨AV.le_refl _, trivial⟩, rfl, ?_⟩
   exact congrArg (fun z => AV.lit (.int .i64 z)) (by unfold cmpZ; rw [if_neg (by assumption), if_pos (by assumption)]; all_goals rfl)
  ·refine awp_skip (hK10 _ (awp_seq fun K13 hK13 => awp_region rfl (o_as (Nv 0) rfl (aops_end (hK13 _ ?_)))))
   refine awp_ret ?_
   refine post_ret ⟨[Nv 0], ⟨AV.le_refl _, trivial⟩, rfl, ?_⟩
   exact congrArg (fun z => AV.lit (.int .i64 z)) (by unfold cmpZ; rw [if_neg (by assumption), if_neg (by assumption)]; all_goals rfl)

theorem c_cmpL (x y : List Int) : ECalls cx 41 [Lv x, Lv y] (.lit (.int .i64 (cmpL x y))) := by
 refine ecalls_of_awp Tryd.func41 (c := _) rfl (Nat.le_of_ble_eq_true rfl) ?_
 show awp cx 36 _ (postF cx Tryd.f41 _) ⟨[(0, Lv x), (1, Lv y)], []⟩
 refine awp_bound (i := 0) rfl fun hxl => ?_
 replace hxl := is_bnd hxl
 refine awp_bound (i := 1) rfl fun hyl => ?_
 replace hyl := is_bnd hyl
 refine awp_seq fun K0 hK0 => awp_region rfl (o_as (Nv 0) rfl (aops_end (hK0 _ (awp_seq fun K1 hK1 => awp_seq fun K2 hK2 => awp_region rfl (o_mv (Lv x) rfl ?_)))))
 refine i_len x gn f40_ rfl ?_
 refine o_mv (Nv 0) rfl (aops_end (hK2 _ ?_))
 refine awp_block ?_
 refine awp_loopR (fun κ σ => ∃ (i : Nat), (i ≤ x.length) ∧ (cmpL x y = cmpL (x.drop i) (y.drop i)) ∧ (x.length - i) = κ ∧ σ = ⟨[(0, Lv x), (1, Lv y), (9, Lv x), (10, Nv (x.length)), (11, Nv i)], []⟩) ⟨_, _, ⟨0, Nat.zero_le _, rfl, rfl, rfl⟩, ?wk0⟩ ?rd0
 case wk0 =>
  exact Wk.sub ⟨rfl, rfl, rfl, rfl, (by first | rfl | exact nm_int (by omega)), trivial⟩ trivial
 rintro κ _ ⟨i, hi, hc, rfl, rfl⟩
 refine awp_seq fun K3 hK3 => awp_region rfl ?_
 refine n_lss i (x.length) gn rfl rfl ?_
 refine aops_end (hK3 _ (awp_seq fun K4 hK4 => ?_))
 refine awp_condQ (q := i < (x.length)) rfl (fun h1 => ?_) (fun h1 => ?_)
 ·refine awp_skip (hK4 _ (awp_seq fun K5 hK5 => ?_))
  refine awp_block ?_
  refine awp_seq fun K6 hK6 => awp_region rfl (o_mv (Nv i) rfl ?_)
  refine i_index x i gn f42_ rfl rfl (by omega) ?_
  refine i_loadI x i gn f37_ rfl (by omega) ?_
  refine o_as (Nv i) rfl (o_as (Iv (x.getD i 0)) rfl (aops_end (hK6 _ (awp_seq fun K7 hK7 => awp_seq fun K8 hK8 => awp_region rfl (o_mv (Nv i) rfl (o_mv (Lv y) rfl ?_))))))
  refine i_len y gn f40_ rfl ?_
  refine n_geq i (y.length) gn rfl rfl ?_
  refine aops_end (hK8 _ ?_)
  refine awp_condQ (q := (y.length) ≤ i) rfl (fun h2 => ?_) (fun h2 => ?_)
  ·refine awp_seq fun K9 hK9 => awp_region rfl (o_as (Nv 1) rfl (aops_end (hK9 _ ?_)))
   refine awp_ret ?_
   refine post_ret ⟨[Nv 1], ⟨AV.le_refl _, trivial⟩, rfl, ?_⟩
   exact congrArg (fun z => AV.lit (.int .i64 z)) (hc.trans (cmpL_s1 (by assumption) (by omega)))
  ·refine awp_skip (hK7 _ (awp_seq fun K10 hK10 => awp_region rfl (o_mv (Lv y) rfl (o_mv (Nv i) rfl ?_))))
   refine i_index y i gn f42_ rfl rfl (by omega) ?_
   refine i_loadI y i gn f37_ rfl (by omega) ?_
   refine o_as (Iv (y.getD i 0)) rfl (aops_end (hK10 _ (awp_seq fun K11 hK11 => awp_region rfl (o_mv (Iv (x.getD i 0)) rfl (o_mv (Iv (y.getD i 0)) rfl ?_)))))
   refine o_ct (c_cmpInt (x.getD i 0) (y.getD i 0)) gn f87_ rfl ?_
   refine o_as (Iv (cmpZ (x.getD i 0) (y.getD i 0))) rfl (aops_end (hK11 _ (awp_seq fun K12 hK12 => awp_region rfl (o_mv (Iv (cmpZ (x.getD i 0) (y.getD i 0))) rfl ?_))))
   refine o_neq (a := (cmpZ (x.getD i 0) (y.getD i 0))) (c := ((0 : Nat) : Int)) gn rfl rfl ?_
   refine aops_end (hK12 _ ?_)
   refine awp_condQ (q := (cmpZ (x.getD i 0) (y.getD i 0)) ≠ ((0 : Nat) : Int)) rfl (fun h3 => ?_) (fun h3 => ?_)
   ·refine awp_seq fun K13 hK13 => awp_region rfl (o_mv (Iv (cmpZ (x.getD i 0) (y.getD i 0))) rfl (o_as (Iv (cmpZ (x.getD i 0) (y.getD i 0))) rfl (aops_end (hK13 _ ?_))))
    refine awp_ret ?_
    refine post_ret ⟨[Iv (cmpZ (x.getD i 0) (y.getD i 0))], ⟨AV.le_refl _, trivial⟩, rfl, ?_⟩
    exact congrArg (fun z => AV.lit (.int .i64 z)) (hc.trans ((cmpL_s2 (by assumption) (by omega)).trans (if_neg (by assumption))))
   ·refine awp_skip (hK5 _ (awp_region rfl ?_))
    refine n_add i 1 gn rfl rfl (by simp only [topOf]; omega) ?_
    refine o_mv (Nv (i + 1)) rfl (aops_end ?_)
    refine ⟨_, _, ?lt, ⟨i + 1, (by omega), (hc.trans ((cmpL_s2 (by assumption) (by omega)).trans (if_pos (Decidable.not_not.1 (by assumption))))), rfl, rfl⟩, ?wk⟩
    case lt => omega
    case wk => exact Wk.sub ⟨rfl, rfl, rfl, rfl, (by first | rfl | exact nm_int (by omega)), trivial⟩ trivial
 ·refine awp_exit ?_
  refine hK1 _ (awp_seq fun K14 hK14 => awp_seq fun K15 hK15 => awp_region rfl (o_mv (Lv x) rfl ?_))
  refine i_len x gn f40_ rfl ?_
  refine o_mv (Lv y) rfl ?_
  refine i_len y gn f40_ rfl ?_
  refine n_lss (x.length) (y.length) gn rfl rfl ?_
  refine aops_end (hK15 _ ?_)
  refine awp_condQ (q := (x.length) < (y.length)) rfl (fun h4 => ?_) (fun h4 => ?_)
  ·refine awp_seq fun K16 hK16 => awp_region rfl (o_as (Iv (-1)) rfl (aops_end (hK16 _ ?_)))
   refine awp_ret ?_
   refine post_ret ⟨[Iv (-1)], ⟨AV.le_refl _, trivial⟩, rfl, ?_⟩
   exact congrArg (fun z => AV.lit (.int .i64 z)) (hc.trans (cmpL_e1 (by omega) (by omega)))
  ·refine awp_skip (hK14 _ (awp_seq fun K17 hK17 => awp_region rfl (o_as (Nv 0) rfl (aops_end (hK17 _ ?_)))))
   refine awp_ret ?_
   refine post_ret ⟨[Nv 0], ⟨AV.le_refl _, trivial⟩, rfl, ?_⟩
   exact congrArg (fun z => AV.lit (.int .i64 z)) (hc.trans (cmpL_e2 (by omega) (by omega)))

theorem c_clone (l : List Int) (hl : 0 < l.length) (hb : l.length ≤ 1000) : ECallsM cx 42 [Lv l] (.row 701) 701 3 1 (is .i64 l) := by
 refine ecallsM_of_awp Tryd.func42 (c := _) rfl (Nat.le_of_ble_eq_true rfl) ?_
 show awp cx 8 _ (postM cx Tryd.f42 _ 701 3 1 (is .i64 l)) ⟨[(0, Lv l)], []⟩
 refine awp_seq fun K0 hK0 => awp_region rfl (o_as Zv rfl (aops_end (hK0 _ (awp_seq fun K1 hK1 => awp_seq fun K2 hK2 => awp_region rfl (o_mv (Lv l) rfl ?_)))))
 refine o_eqlNilSl gn f40_ rfl rfl (by simp [is, ns]; omega) ?_
 refine aops_end (hK2 _ ?_)
 refine awp_condB (b := false) rfl (fun hh => absurd (hh.symm.trans rfl) (by decide)) (fun _ => ?_)
 refine awp_skip (hK1 _ (awp_seq fun K3 hK3 => awp_region rfl ?_))
 refine o_buildSlice 2 (is .i64 ([])) [] gn f42_ rfl f46_ rfl rfl rfl rfl rfl rfl rfl ?_
 refine o_mv (Lv l) rfl ?_
 refine i_appendSl 3 ([]) l [] gn f42_ f46_ rfl rfl rfl rfl (by simp only [List.length_append, List.length_cons, List.length_nil]; omega) (by decide) rfl rfl ?_
 refine o_as (.row 3) rfl (aops_end (hK3 _ ?_))
 refine awp_wk (σ' := ⟨[(2, .row 3)], [(3, .row 3 1 (is .i64 l))]⟩) (Wk.sub ⟨rfl, trivial⟩ ⟨rfl, trivial⟩) ?_
 refine awp_wk (σ' := ⟨[(2, .row 701)], [(701, .row 3 1 (is .i64 l))]⟩) (Wk.ren (id := 3) (id' := 701) rfl) ?_
 refine awp_ret ?_
 refine postM_ret ⟨[.row 701], ⟨AV.le_refl _, trivial⟩, rfl, rfl, ?_⟩
 rfl

theorem c_cloneW (l : List Int) (hl : 0 < l.length) (hb : l.length ≤ 1000) : ECallsM cx 46 [.sl 2 (gcells cW l)] (.row 701) 701 50 2 (gcells cW l) := by
 refine ecallsM_of_awp Tryd.func46 (c := _) rfl (Nat.le_of_ble_eq_true rfl) ?_
 show awp cx 8 _ (postM cx Tryd.f46 _ 701 50 2 (gcells cW l)) ⟨[(0, .sl 2 (gcells cW l))], []⟩
 refine awp_seq fun K0 hK0 => awp_region rfl (o_as Zv rfl (aops_end (hK0 _ (awp_seq fun K1 hK1 => awp_seq fun K2 hK2 => awp_region rfl (o_mv (.sl 2 (gcells cW l)) rfl ?_)))))
 refine o_eqlNilSl gn f88_ rfl rfl (by rw [gcells_len cW_len]; omega) ?_
 refine aops_end (hK2 _ ?_)
 refine awp_condB (b := false) rfl (fun hh => absurd (hh.symm.trans rfl) (by decide)) (fun _ => ?_)
 refine awp_skip (hK1 _ (awp_seq fun K3 hK3 => awp_region rfl ?_))
 refine o_buildSlice 2 (gcells cW ([])) [] gn f89_ rfl f5_ rfl rfl rfl rfl rfl rfl rfl ?_
 refine o_mv (.sl 2 (gcells cW l)) rfl ?_
 refine g_appendSl cW 3 ([]) l [] cW_len rfl gn f89_ f5_ rfl rfl rfl rfl (by simp only [List.length_append, List.length_cons, List.length_nil]; omega) (by simp only [List.length_append, List.length_cons, List.length_nil]; omega) rfl rfl ?_
 refine o_as (.row 3) rfl (aops_end (hK3 _ ?_))
 refine awp_wk (σ' := ⟨[(2, .row 3)], [(3, .row 50 2 (gcells cW l))]⟩) (Wk.sub ⟨rfl, trivial⟩ ⟨rfl, trivial⟩) ?_
 refine awp_wk (σ' := ⟨[(2, .row 701)], [(701, .row 50 2 (gcells cW l))]⟩) (Wk.ren (id := 3) (id' := 701) rfl) ?_
 refine awp_ret ?_
 refine postM_ret ⟨[.row 701], ⟨AV.le_refl _, trivial⟩, rfl, rfl, ?_⟩
 rfl

theorem c_first (w : List Int) (hl : w.length ≤ 1000) : ECalls cx 24 [Lv w] (bp (firstP w)) := by
 refine ecalls_of_awp Tryd.func24 (c := _) rfl (Nat.le_of_ble_eq_true rfl) ?_
 show awp cx 21 _ (postF cx Tryd.f24 _) ⟨[(0, Lv w)], []⟩
 refine awp_seq fun K0 hK0 => awp_region rfl (o_as Fv rfl (aops_end (hK0 _ (awp_seq fun K1 hK1 => awp_seq fun K2 hK2 => awp_region rfl (o_as (Nv 1) rfl (aops_end (hK2 _ ?_)))))))
 refine awp_block ?_
 refine awp_loopR (fun κ σ => ∃ (i : Nat), (1 ≤ i) ∧ (∀ j, j < i → 0 < j → ¬ cmpL (rotL w j) w ≤ 0) ∧ (w.length - i) = κ ∧ σ = ⟨[(0, Lv w), (3, Nv i)], []⟩) ⟨_, _, ⟨1, (by omega), (fun j h1 h2 => by omega), rfl, rfl⟩, ?wk0⟩ ?rd0
 case wk0 =>
  exact Wk.sub ⟨rfl, (by first | rfl | exact nm_int (by omega)), trivial⟩ trivial
 rintro κ _ ⟨i, hi0, hf, rfl, rfl⟩
 refine awp_seq fun K3 hK3 => awp_seq fun K4 hK4 => awp_region rfl (o_mv (Nv i) rfl (o_mv (Lv w) rfl ?_))
 refine i_len w gn f40_ rfl ?_
 refine n_lss i (w.length) gn rfl rfl ?_
 refine aops_end (hK4 _ ?_)
 refine awp_condQ (q := i < (w.length)) rfl (fun h1 => ?_) (fun h1 => ?_)
 ·refine awp_skip (hK3 _ (awp_seq fun K5 hK5 => ?_))
  refine awp_block ?_
  refine awp_seq fun K6 hK6 => awp_regionD rfl (o_mv (Lv w) rfl (o_mv (Nv i) rfl ?_))
  refine i_slice w i (w.length) gn f42_ rfl (lo_nm rfl) rfl trivial (by omega) (by omega) ?_
  refine o_callM 701 [Lv ((w.drop i).take (w.length - i))] gn f90_ rfl (c_clone ((w.drop i).take (w.length - i)) (by simp only [List.length_take, List.length_drop]; omega) (by simp only [List.length_take, List.length_drop]; omega)) rfl ?_
  refine o_mv (Lv w) rfl (o_mv (Nv i) rfl ?_)
  refine i_slice w 0 i gn f42_ rfl rfl (hi_nm rfl) trivial (by omega) (by omega) ?_
  refine i_appendSl 101 ((w.drop i).take (w.length - i)) ((w.drop 0).take (i - 0)) [] gn f42_ f46_ rfl rfl rfl rfl (by simp only [List.length_append, List.length_take, List.length_drop]; omega) (by decide) rfl rfl ?_
  refine o_mv (Lv w) rfl ?_
  refine o_callG [(101, 1, is .i64 (((w.drop i).take (w.length - i)) ++ ((w.drop 0).take (i - 0))))] [Lv (((w.drop i).take (w.length - i)) ++ ((w.drop 0).take (i - 0))), Lv w] _ (Iv (cmpL (((w.drop i).take (w.length - i)) ++ ((w.drop 0).take (i - 0))) w)) [] gn f91_ rfl ⟨⟨_, rfl⟩, trivial⟩ rfl rfl (LeL.cons (AV.le_refl _) (LeL.cons (AV.le_refl _) LeL.nil)) (c_cmpL (((w.drop i).take (w.length - i)) ++ ((w.drop 0).take (i - 0))) w) rfl ?_
  refine n_as (v' := (Iv (cmpL (rotL w i) w))) (by exact congrArg (fun z => AV.lit (.int .i64 z)) (congrArg (fun l => cmpL l w) (rot_cut w (by omega)))) ?_
  refine o_leq (a := (cmpL (rotL w i) w)) (c := ((0 : Nat) : Int)) gn rfl rfl ?_
  refine aops_end ⟨by kernel_rfl, ?_⟩
  refine hK6 _ ?_
  refine awp_condQ (q := (cmpL (rotL w i) w) ≤ ((0 : Nat) : Int)) rfl (fun h2 => ?_) (fun h2 => ?_)
  ·refine awp_seq fun K7 hK7 => awp_region rfl (o_as Fv rfl (aops_end (hK7 _ ?_)))
   refine awp_ret ?_
   refine post_ret ⟨[Fv], ⟨AV.le_refl _, trivial⟩, rfl, ?_⟩
   exact bpn (fun h => h i (by assumption) (by omega) (by assumption))
  ·refine awp_skip (hK5 _ (awp_region rfl (o_mv (Nv i) rfl ?_)))
   refine n_add i 1 gn rfl rfl (by simp only [topOf]; omega) ?_
   refine o_as (Nv (i + 1)) rfl (aops_end ?_)
   refine ⟨_, _, ?lt, ⟨i + 1, (by omega), (fun j h8 h9 => by rcases Nat.lt_or_ge j i with e | e; exact hf j e h9; rw [show j = i by omega]; assumption), rfl, rfl⟩, ?wk⟩
   case lt => omega
   case wk => exact Wk.sub ⟨rfl, (by first | rfl | exact nm_int (by omega)), trivial⟩ trivial
 ·refine awp_exit ?_
  refine hK1 _ (awp_seq fun K8 hK8 => awp_region rfl (o_as Tv rfl (aops_end (hK8 _ ?_))))
  refine awp_ret ?_
  refine post_ret ⟨[Tv], ⟨AV.le_refl _, trivial⟩, rfl, ?_⟩
  exact bpy (fun j h8 h9 => hf j (by omega) h9)

theorem c_loop (m : MapM) (x : Int) (n : Nat) (hM : OkM m) (hn1 : 1 ≤ n) (hn : n ≤ 200) (hx : (digs x.natAbs).length ≤ 1000) : ECalls cx 27 [mapV m, intW x, Nv n] (.sl 2 (gcells cW (cyc m x n))) := by
 refine ecalls_of_awp Tryd.func27 (c := _) rfl (Nat.le_of_ble_eq_true rfl) ?_
 show awp cx 58 _ (postF cx Tryd.f27 _) ⟨[(0, mapV m), (1, intW x), (2, Nv n)], []⟩
 refine awp_seq fun K0 hK0 => awp_region rfl ?_
 refine o_box 2 [Iv m.mod, Lv m.mul, Lv m.add] gn rfl rfl ?_
 refine o_box 3 [bp (x < 0), .sl 1 (ns .u32 (digs x.natAbs))] gn rfl rfl ?_
 refine o_as Zv rfl (aops_end (hK0 _ (awp_seq fun K1 hK1 => awp_region rfl ?_)))
 refine o_loadA [bp (x < 0), .sl 1 (ns .u32 (digs x.natAbs))] gn f10_ rfl rfl rfl rfl rfl ?_
 refine o_buildSlice 4 (gcells cW ([x])) [(0, [bp (x < 0), .sl 1 (ns .u32 (digs x.natAbs))])] gn f89_ rfl f5_ rfl rfl rfl rfl rfl rfl rfl ?_
 refine o_as (.row 4) rfl (aops_end (hK1 _ (awp_seq fun K2 hK2 => ?_)))
 refine awp_block ?_
 refine awp_loopR (fun κ σ => ∃ (j : Nat), (j + 1 ≤ n) ∧ (n - j) = κ ∧ σ = ⟨[(2, Nv n), (3, .ref 2 0), (7, .row 50)], [(2, oM 24 m), (50, .row 50 2 (gcells cW (orbL m x (j + 1))))]⟩) ⟨_, _, ⟨0, (by omega), rfl, rfl⟩, ?wk0⟩ ?rd0
 case wk0 =>
  exact Wk.trans (Wk.sub (σ' := ⟨[(2, Nv n), (3, .ref 2 0), (7, .row 4)], [(2, oM 24 m), (4, .row 50 2 (gcells cW ([x])))]⟩) ⟨rfl, rfl, rfl, trivial⟩ ⟨rfl, rfl, trivial⟩) (Wk.trans (Wk.ren (id := 4) (id' := 50) rfl) (Wk.sub ⟨rfl, rfl, (by first | rfl | simp), trivial⟩ ⟨(by first | rfl | (first | exact row_gs' (orbL_s m x _) | exact row_gs' (by rfl) | exact row_gs' (by rw [show j + 1 = n by omega]))), (by first | rfl | exact row_ns (by simp) | (first | exact row_gs' (orbL_s m x _) | exact row_gs' (by rfl) | exact row_gs' (by rw [show j + 1 = n by omega]))), trivial⟩))
 rintro κ _ ⟨j, hj, rfl, rfl⟩
 have k1 := orbL_len m x (j + 1)
 have k2 := iter_len hM x j
 refine awp_seq fun K3 hK3 => awp_seq fun K4 hK4 => awp_region rfl (o_mv (.row 50) rfl ?_)
 refine g_lenRow cW (orbL m x (j + 1)) cW_len gn f88_ rfl rfl ?_
 refine o_mv (Nv n) rfl ?_
 refine n_lss ((orbL m x (j + 1)).length) n gn rfl rfl ?_
 refine aops_end (hK4 _ ?_)
 refine awp_condQ (q := ((orbL m x (j + 1)).length) < n) rfl (fun h1 => ?_) (fun h1 => ?_)
 ·refine awp_skip (hK3 _ ?_)
  refine awp_block ?_
  refine awp_seq fun K5 hK5 => awp_regionD rfl ?_
  refine o_loadA [Iv m.mod, Lv m.mul, Lv m.add] gn f49_ rfl rfl rfl rfl rfl ?_
  refine o_mv (.row 50) rfl (o_mv (.row 50) rfl ?_)
  refine g_lenRow cW (orbL m x (j + 1)) cW_len gn f88_ rfl rfl ?_
  refine n_sub ((orbL m x (j + 1)).length) 1 gn rfl rfl (by omega) (by simp only [topOf]; omega) ?_
  refine g_indexRow cW (orbL m x (j + 1)) (((orbL m x (j + 1)).length) - 1) cW_len rfl gn f89_ rfl rfl rfl (by omega) ?_
  refine g_loadRowA cW (orbL m x (j + 1)) (((orbL m x (j + 1)).length) - 1) default cW_len gn f10_ rfl rfl (by omega) ?_
  refine n_as (v' := (intW (iterZ m j x))) (by exact congrArg intW ((congrArg (fun i => (orbL m x (j + 1)).getD i default) (by rw [orbL_len]; rfl)).trans (orbL_get (Nat.lt_succ_self j)))) ?_
  refine o_ct (c_sNext m (iterZ m j x) (by first | assumption | exact okM_iff.1 (by assumption)) (by first | omega | assumption | (simp only [Int.natAbs_neg]; omega))) gn f92_ rfl ?_
  refine o_mv (.tup [intW (stepZ m (iterZ m j x)), Iv ((iterZ m j x) % m.mod)]) rfl (o_extract (intW (stepZ m (iterZ m j x))) gn rfl rfl ?_)
  refine n_as (v' := (intW (iterZ m (j + 1) x))) (by exact rfl) ?_
  refine o_extract (Iv ((iterZ m j x) % m.mod)) gn rfl rfl ?_
  refine o_alloc 101 [Fv, Zv] gn f5_ rfl rfl rfl ?_
  refine o_store [(101, oZ 50 .u32 (iterZ m (j + 1) x)), (2, oM 24 m), (50, .row 50 2 (gcells cW (orbL m x (j + 1))))] gn f9_ rfl rfl rfl rfl rfl rfl ?_
  refine o_as (Iv ((iterZ m j x) % m.mod)) rfl ?_
  refine aops_end ⟨by kernel_rfl, ?_⟩
  refine hK5 _ (awp_region rfl (o_mv (.row 50) rfl ?_))
  refine o_loadA [bp ((iterZ m (j + 1) x) < 0), .sl 1 (ns .u32 (digs (iterZ m (j + 1) x).natAbs))] gn f10_ rfl rfl rfl rfl rfl ?_
  refine o_buildSlice 102 (gcells cW ([iterZ m (j + 1) x])) [(0, [bp ((iterZ m (j + 1) x) < 0), .sl 1 (ns .u32 (digs (iterZ m (j + 1) x).natAbs))])] gn f89_ rfl f5_ rfl rfl rfl rfl rfl rfl rfl ?_
  refine g_append cW 103 (orbL m x (j + 1)) ([iterZ m (j + 1) x]) [(102, .row 50 2 (gcells cW ([iterZ m (j + 1) x]))), (101, oZ 50 .u32 (iterZ m (j + 1) x)), (2, oM 24 m)] cW_len rfl gn f89_ f5_ rfl rfl rfl rfl rfl (by simp only [List.length_append, List.length_cons, List.length_nil]; omega) (by simp only [List.length_append, List.length_cons, List.length_nil]; omega) rfl rfl ?_
  refine o_as (.row 103) rfl (aops_end ?_)
  refine ⟨_, _, ?lt, ⟨j + 1, (by omega), rfl, rfl⟩, ?wk⟩
  case lt => omega
  case wk => exact Wk.trans (Wk.sub (σ' := ⟨[(2, Nv n), (3, .ref 2 0), (7, .row 103)], [(2, oM 24 m), (103, .row 50 2 (gcells cW ((orbL m x (j + 1)) ++ ([iterZ m (j + 1) x]))))]⟩) ⟨rfl, rfl, rfl, trivial⟩ ⟨rfl, rfl, trivial⟩) (Wk.trans (Wk.ren (id := 103) (id' := 50) rfl) (Wk.sub ⟨rfl, rfl, (by first | rfl | simp), trivial⟩ ⟨rfl, (by first | rfl | exact row_ns (by simp) | (first | exact row_gs' (orbL_s m x _) | exact row_gs' (by rfl) | exact row_gs' (by rw [show j + 1 = n by omega]))), trivial⟩))
 ·refine awp_exit ?_
  refine hK2 _ (awp_seq fun K6 hK6 => awp_region rfl (o_as (Nv 0) rfl ?_))
  refine n_as (v' := (Nv (leastI (orbL m x n) 0))) (by exact congrArg (nm _) (by first | rfl | exact (least_y (cmpZ_lt.1 (by assumption))).symm)) ?_
  refine aops_end (hK6 _ (awp_seq fun K7 hK7 => awp_seq fun K8 hK8 => awp_region rfl (o_mv (.row 50) rfl ?_)))
  refine g_lenRow cW (orbL m x (j + 1)) cW_len gn f88_ rfl rfl ?_
  refine n_as (v' := (Nv n)) (congrArg (nm _) (by rw [orbL_len]; omega)) ?_
  refine o_mv (Nv 0) rfl (aops_end (hK8 _ ?_))
  refine awp_block ?_
  refine awp_loopR (fun κ σ => ∃ (i : Nat), (i ≤ n) ∧ (n - i) = κ ∧ σ = ⟨[(7, .row 50), (10, Nv (leastI (orbL m x n) i)), (34, Nv n), (35, Nv i)], [(50, .row 50 2 (gcells cW (orbL m x n)))]⟩) ⟨_, _, ⟨0, (by omega), rfl, rfl⟩, ?wk1⟩ ?rd1
  case wk1 =>
   exact Wk.sub ⟨rfl, (by first | rfl | exact nm_int (by omega)), rfl, (by first | rfl | exact nm_int (by omega)), trivial⟩ ⟨(by first | rfl | exact row_ns (by simp) | (first | exact row_gs' (orbL_s m x _) | exact row_gs' (by rfl) | exact row_gs' (by rw [show j + 1 = n by omega]))), trivial⟩
  rintro κ _ ⟨i, hi, rfl, rfl⟩
  have k1 := orbL_len m x n
  have k3 := least_lt (l := orbL m x n) (by omega) i (by omega)
  refine awp_seq fun K9 hK9 => awp_region rfl ?_
  refine n_lss i n gn rfl rfl ?_
  refine aops_end (hK9 _ (awp_seq fun K10 hK10 => ?_))
  refine awp_condQ (q := i < n) rfl (fun h2 => ?_) (fun h2 => ?_)
  ·refine awp_skip (hK10 _ (awp_seq fun K11 hK11 => ?_))
   refine awp_block ?_
   refine awp_seq fun K12 hK12 => awp_region rfl (o_mv (Nv i) rfl (o_as (Nv i) rfl (aops_end (hK12 _ (awp_seq fun K13 hK13 => awp_regionD rfl (o_mv (.row 50) rfl (o_mv (Nv i) rfl ?_)))))))
   refine g_indexRow cW (orbL m x n) i cW_len rfl gn f89_ rfl rfl rfl (by omega) ?_
   refine g_loadRowA cW (orbL m x n) i default cW_len gn f10_ rfl rfl (by omega) ?_
   refine o_mv (.row 50) rfl (o_mv (Nv (leastI (orbL m x n) i)) rfl ?_)
   refine g_indexRow cW (orbL m x n) (leastI (orbL m x n) i) cW_len rfl gn f89_ rfl rfl rfl (by omega) ?_
   refine g_loadRowA cW (orbL m x n) (leastI (orbL m x n) i) default cW_len gn f10_ rfl rfl (by omega) ?_
   refine o_ct (c_wCmp ((orbL m x n).getD i default) ((orbL m x n).getD (leastI (orbL m x n) i) default)) gn f93_ rfl ?_
   refine o_lss (a := (cmpZ ((orbL m x n).getD i default) ((orbL m x n).getD (leastI (orbL m x n) i) default))) (c := ((0 : Nat) : Int)) gn rfl rfl ?_
   refine aops_end ⟨by kernel_rfl, ?_⟩
   refine hK13 _ ?_
   refine awp_condQ (q := (cmpZ ((orbL m x n).getD i default) ((orbL m x n).getD (leastI (orbL m x n) i) default)) < ((0 : Nat) : Int)) rfl (fun h3 => ?_) (fun h3 => ?_)
   ·refine awp_region rfl (o_mv (Nv i) rfl (o_as (Nv i) rfl ?_))
    refine n_as (v' := (Nv (leastI (orbL m x n) (i + 1)))) (by exact congrArg (nm _) (by first | rfl | exact (least_y (cmpZ_lt.1 (by assumption))).symm)) ?_
    refine aops_end (hK11 _ (awp_region rfl ?_))
    refine n_add i 1 gn rfl rfl (by simp only [topOf]; omega) ?_
    refine o_mv (Nv (i + 1)) rfl (aops_end ?_)
    refine ⟨_, _, ?lt, ⟨i + 1, (by omega), rfl, rfl⟩, ?wk⟩
    case lt => omega
    case wk => exact Wk.sub ⟨rfl, (by first | rfl | exact nm_int (by omega)), rfl, (by first | rfl | exact nm_int (by omega)), trivial⟩ ⟨rfl, trivial⟩
   ·refine awp_wk (Wk.slot (i := 10) (y := (Nv (leastI (orbL m x n) (i + 1)))) (AV.le_eq (by exact congrArg (nm _) (least_n (fun e => absurd (cmpZ_lt.2 e) (by assumption))).symm))) ?_
    refine awp_skip (hK11 _ (awp_region rfl ?_))
    refine n_add i 1 gn rfl rfl (by simp only [topOf]; omega) ?_
    refine o_mv (Nv (i + 1)) rfl (aops_end ?_)
    refine ⟨_, _, ?lt, ⟨i + 1, (by omega), rfl, rfl⟩, ?wk⟩
    case lt => omega
    case wk => exact Wk.sub ⟨rfl, (by first | rfl | exact nm_int (by omega)), rfl, (by first | rfl | exact nm_int (by omega)), trivial⟩ ⟨rfl, trivial⟩
  ·refine awp_exit ?_
   refine hK7 _ (awp_seq fun K14 hK14 => ?_)
   refine awp_wk (σ' := ⟨[(7, .row 50), (10, Nv (leastI (orbL m x n) i)), (35, Nv i)], [(50, .row 50 2 (gcells cW (orbL m x n)))]⟩) (Wk.sub ⟨rfl, rfl, rfl, trivial⟩ ⟨rfl, trivial⟩) ?_
   refine awp_wk (σ' := ⟨[(7, .sl 2 (gcells cW (orbL m x n))), (10, Nv (leastI (orbL m x n) i)), (35, Nv i)], []⟩) (Wk.freeze (id := 50) (e := 50) (sz := 2) (cs := (gcells cW (orbL m x n))) rfl) ?_
   refine awp_regionD rfl (o_mv (.sl 2 (gcells cW (orbL m x n))) rfl (o_mv (Nv (leastI (orbL m x n) i)) rfl ?_))
   refine g_slice cW (orbL m x n) (leastI (orbL m x n) i) ((orbL m x n).length) cW_len gn f89_ rfl (lo_nm rfl) rfl trivial (by omega) (by omega) ?_
   refine o_callM 701 [.sl 2 (gcells cW (((orbL m x n).drop (leastI (orbL m x n) i)).take ((orbL m x n).length - leastI (orbL m x n) i)))] gn f94_ rfl (c_cloneW (((orbL m x n).drop (leastI (orbL m x n) i)).take ((orbL m x n).length - leastI (orbL m x n) i)) (by simp only [List.length_take, List.length_drop]; omega) (by simp only [List.length_take, List.length_drop]; omega)) rfl ?_
   refine o_mv (.sl 2 (gcells cW (orbL m x n))) rfl (o_mv (Nv (leastI (orbL m x n) i)) rfl ?_)
   refine g_slice cW (orbL m x n) 0 (leastI (orbL m x n) i) cW_len gn f89_ rfl rfl (hi_nm rfl) trivial (by omega) (by omega) ?_
   refine g_appendSl cW 201 (((orbL m x n).drop (leastI (orbL m x n) i)).take ((orbL m x n).length - leastI (orbL m x n) i)) (((orbL m x n).drop 0).take (leastI (orbL m x n) i - 0)) [] cW_len rfl gn f89_ f5_ rfl rfl rfl rfl (by simp only [List.length_append, List.length_take, List.length_drop]; omega) (by simp only [List.length_append, List.length_take, List.length_drop]; omega) rfl rfl ?_
   refine o_as (.row 201) rfl ?_
   refine aops_end ⟨by kernel_rfl, ?_⟩
   refine hK14 _ ?_
   refine awp_wk (σ' := ⟨[(6, .row 201)], [(201, .row 50 2 (gcells cW ((((orbL m x n).drop (leastI (orbL m x n) i)).take ((orbL m x n).length - leastI (orbL m x n) i)) ++ (((orbL m x n).drop 0).take (leastI (orbL m x n) i - 0)))))]⟩) (Wk.sub ⟨rfl, trivial⟩ ⟨rfl, trivial⟩) ?_
   refine awp_wk (σ' := ⟨[(6, .sl 2 (gcells cW ((((orbL m x n).drop (leastI (orbL m x n) i)).take ((orbL m x n).length - leastI (orbL m x n) i)) ++ (((orbL m x n).drop 0).take (leastI (orbL m x n) i - 0)))))], []⟩) (Wk.freeze (id := 201) (e := 50) (sz := 2) (cs := (gcells cW ((((orbL m x n).drop (leastI (orbL m x n) i)).take ((orbL m x n).length - leastI (orbL m x n) i)) ++ (((orbL m x n).drop 0).take (leastI (orbL m x n) i - 0))))) rfl) ?_
   refine awp_ret ?_
   refine post_ret ⟨[.sl 2 (gcells cW ((((orbL m x n).drop (leastI (orbL m x n) i)).take ((orbL m x n).length - leastI (orbL m x n) i)) ++ (((orbL m x n).drop 0).take (leastI (orbL m x n) i - 0))))], ⟨AV.le_refl _, trivial⟩, rfl, ?_⟩
   have hin : i = n := by omega
   subst hin
   exact gs_as (((congrArg (fun q => rotL (orbL m x i) (leastI (orbL m x i) q)) k1).trans rfl).trans (rot_cut _ (by omega)).symm)

end Go.Proofs.YtdmkejloknejdaaDoor

namespace Go.Mth
open Go Go.Ab
structure Fal where
 steps : Int
 rest : Int
 lmul : ByteArray
 ladd : ByteArray
 ldiv : ByteArray
 bound : ByteArray
 deriving Inhabited, DecidableEq
def cL (f : Fal) : List AV := [.lit (.int .i64 f.steps), .lit (.int .i64 f.rest), .lit (.string f.lmul), .lit (.string f.ladd), .lit (.string f.ldiv), .lit (.string f.bound)]
def falV (f : Fal) : AV := .agg (cL f)
def zFal : Fal := ⟨0, 0, noS, noS, noS, noS⟩
def bndZ (l : LinZ) : Int := l.add / (l.div - l.mul)
def falO (s r : Int) (l : LinZ) : Fal := ⟨s, r, txt l.mul, txt l.add, txt l.div, txt (bndZ l)⟩
def fallsW (m : MapM) (w : List Int) : Prop := (lineZ m w).mul < (lineZ m w).div
instance (m : MapM) (w : List Int) : Decidable (fallsW m w) := by unfold fallsW; infer_instance
def ffal (m : MapM) (z : Int) : Nat → Nat
 | 0 => 0
 | k + 1 => if ffal m z k ≠ 0 then ffal m z k else if fallsW m (wordZ m z (k + 1)) then k + 1 else 0
def fndF (m : MapM) (z : Int) (k : Nat) : Fal := if ffal m z k = 0 then zFal else falO (ffal m z k) (z % m.mod ^ ffal m z k) (lineZ m (wordZ m z (ffal m z k)))
def fndB (m : MapM) (z : Int) (k : Nat) : Prop := ffal m z k ≠ 0
instance (m : MapM) (z : Int) (k : Nat) : Decidable (fndB m z k) := by unfold fndB; infer_instance
def mayS (m : MapM) (k : Int) : Prop := freeM m ∧ 1 ≤ k ∧ m.mod ^ k.toNat ≤ 65536
noncomputable instance (m : MapM) (k : Int) : Decidable (mayS m k) := Classical.propDecidable _
noncomputable def chkE (m : MapM) (k : Int) : Nat := if okM m = true then (if mayS m k then 0 else 2) else 1
theorem may_16 {m : MapM} (hm : OkM m) {k : Nat} (h : m.mod ^ k ≤ 65536) : k ≤ 16 := by
 refine Decidable.byContradiction fun e => ?_
 have h1 : (2 : Int) ^ k ≤ m.mod ^ k := by
  have a : (2 : Int) = ((2 : Nat) : Int) := rfl
  have b : m.mod = ((m.mod.toNat : Nat) : Int) := (Int.toNat_of_nonneg (by have := hm.1; omega)).symm
  rw [a, b, ← Int.natCast_pow, ← Int.natCast_pow]
  have : (2 : Nat) ^ k ≤ m.mod.toNat ^ k := Nat.pow_le_pow_left (by have := hm.1; omega) k
  omega
 have h2 : (2 : Nat) ^ 17 ≤ 2 ^ k := Nat.pow_le_pow_right (by decide) (by omega)
 have h3 : ((2 : Nat) ^ k : Nat) = ((2 : Int) ^ k) := by rw [Int.natCast_pow]; rfl
 have h4 : (2 : Nat) ^ 17 = 131072 := by decide
 omega
theorem pow_le_of {m : MapM} (hm : OkM m) {j k : Nat} (h : j ≤ k) : m.mod ^ j ≤ m.mod ^ k := by
 have b : m.mod = ((m.mod.toNat : Nat) : Int) := (Int.toNat_of_nonneg (by have := hm.1; omega)).symm
 rw [b, ← Int.natCast_pow, ← Int.natCast_pow]
 have : m.mod.toNat ^ j ≤ m.mod.toNat ^ k := Nat.pow_le_pow_right (by have := hm.1; omega) h
 omega
theorem chk_1 {m : MapM} {k : Int} (h : ¬ okM m = true) : chkE m k = 1 := if_neg h
theorem chk_2 {m : MapM} {k : Int} (h : okM m = true) (h2 : ¬ mayS m k) : chkE m k = 2 := (if_pos h).trans (if_neg h2)
theorem chk_0 {m : MapM} {k : Int} (h : okM m = true) (h2 : mayS m k) : chkE m k = 0 := (if_pos h).trans (if_pos h2)
theorem may_big {m : MapM} {k : Int} {i : Nat} (hm : OkM m) (h : 65536 < m.mod ^ (i + 1)) (hi : ((i : Nat) : Int) < k) : ¬ mayS m k := fun e => by
 have := pow_le_of hm (j := i + 1) (k := k.toNat) (by omega)
 have := e.2.2
 omega
noncomputable def fdE (m : MapM) (a : ByteArray) (k : Int) : Nat := if okM m = true ∧ okS a = true then chkE m k else 1
noncomputable def fdF (m : MapM) (a : ByteArray) (k : Int) : Fal := if fdE m a k = 0 then fndF m (numS a) k.toNat else zFal
def fdB (m : MapM) (a : ByteArray) (k : Int) : Prop := fdE m a k = 0 ∧ fndB m (numS a) k.toNat
noncomputable instance (m : MapM) (a : ByteArray) (k : Int) : Decidable (fdB m a k) := Classical.propDecidable _
noncomputable def rstN (m : MapM) (k : Int) : Int := if 1 ≤ k ∧ m.mod ^ k.toNat ≤ 65536 then m.mod ^ k.toNat else 0
theorem rst_big {m : MapM} {k : Int} {i : Nat} (hm : OkM m) (h : 65536 < m.mod ^ (i + 1)) (hi : ((i : Nat) : Int) < k) : rstN m k = 0 := if_neg fun e => by
 have := pow_le_of hm (j := i + 1) (k := k.toNat) (by omega)
 omega
def fln (m : MapM) (z : Int) (k : Nat) : LinZ := lineZ m (wordZ m z (if ffal m z k = 0 then k else ffal m z k))
end Go.Mth

namespace Go.Proofs
open Go.Shelf
def Tryd.sortW_ren : Go.Shelf.Ren := ⟨fun | 6 => 28 | 15 => 48 | 14 => 47 | 28 => 68 | 29 => 69 | 20 => 60 | 21 => 61 | 22 => 62 | 23 => 63 | 24 => 64 | 25 => 65 | 26 => 66 | 27 => 67 | 46 => 73 | 47 => 74 | 48 => 75 | 49 => 76 | 50 => 77 | 57 => 81 | n => n, fun | 22 => 57 | 24 => 62 | 25 => 65 | 3 => 3 | 39 => 87 | 0 => 0 | 53 => 81 | 55 => 80 | 4 => 4 | 46 => 99 | 45 => 98 | 50 => 103 | 5 => 5 | 9 => 9 | 66 => 110 | 70 => 114 | 76 => 119 | 77 => 120 | n => n, fun | n => n⟩
theorem Tryd.sortW : Go.Proofs.SlLaysF.n6 Tryd.prog Tryd.sortW_ren := {
 mixed := by kernel_rfl
 f6 := ⟨Tryd.f28.name, by decide, Tryd.func28.trans (congrArg some (by kernel_rfl))⟩
 f14 := ⟨Tryd.f47.name, by decide, Tryd.func47.trans (congrArg some (by kernel_rfl))⟩
 f15 := Tryd.func48.trans (congrArg some (by kernel_rfl))
 f20 := ⟨Tryd.f60.name, by decide, Tryd.func60.trans (congrArg some (by kernel_rfl))⟩
 f21 := ⟨Tryd.f61.name, by decide, Tryd.func61.trans (congrArg some (by kernel_rfl))⟩
 f22 := ⟨Tryd.f62.name, by decide, Tryd.func62.trans (congrArg some (by kernel_rfl))⟩
 f23 := ⟨Tryd.f63.name, by decide, Tryd.func63.trans (congrArg some (by kernel_rfl))⟩
 f24 := ⟨Tryd.f64.name, by decide, Tryd.func64.trans (congrArg some (by kernel_rfl))⟩
 f25 := ⟨Tryd.f65.name, by decide, Tryd.func65.trans (congrArg some (by kernel_rfl))⟩
 f26 := ⟨Tryd.f66.name, by decide, Tryd.func66.trans (congrArg some (by kernel_rfl))⟩
 f27 := ⟨Tryd.f67.name, by decide, Tryd.func67.trans (congrArg some (by kernel_rfl))⟩
 f28 := Tryd.func68.trans (congrArg some (by kernel_rfl))
 f29 := Tryd.func69.trans (congrArg some (by kernel_rfl))
 f46 := ⟨Tryd.f73.name, by decide, Tryd.func73.trans (congrArg some (by kernel_rfl))⟩
 f47 := Tryd.func74.trans (congrArg some (by kernel_rfl))
 f48 := Tryd.func75.trans (congrArg some (by kernel_rfl))
 f49 := ⟨Tryd.f76.name, by decide, Tryd.func76.trans (congrArg some (by kernel_rfl))⟩
 f50 := ⟨Tryd.f77.name, by decide, Tryd.func77.trans (congrArg some (by kernel_rfl))⟩
 f57 := ⟨Tryd.f81.name, by decide, Tryd.func81.trans (congrArg some (by kernel_rfl))⟩
 t0 := Tryd.underlying0
 a0 := Tryd.isAgg0
 z0 := Tryd.sizeOf0
 v0 := Tryd.zeroValue0
 t3 := Tryd.underlying3
 a3 := Tryd.isAgg3
 z3 := Tryd.sizeOf3
 v3 := Tryd.zeroValue3
 t4 := Tryd.underlying4
 a4 := Tryd.isAgg4
 z4 := Tryd.sizeOf4
 v4 := Tryd.zeroValue4
 t5 := Tryd.underlying5
 a5 := Tryd.isAgg5
 z5 := Tryd.sizeOf5
 v5 := Tryd.zeroValue5
 t9 := Tryd.underlying9
 a9 := Tryd.isAgg9
 z9 := Tryd.sizeOf9
 v9 := Tryd.zeroValue9
 t22 := Tryd.underlying57
 a22 := Tryd.isAgg57
 z22 := Tryd.sizeOf57
 v22 := Tryd.zeroValue57
 a24 := Tryd.isAgg62
 z24 := Tryd.sizeOf62
 t25 := Tryd.underlying65
 a25 := Tryd.isAgg65
 z25 := Tryd.sizeOf65
 v25 := Tryd.zeroValue65
 t39 := Tryd.underlying87
 a39 := Tryd.isAgg87
 z39 := Tryd.sizeOf87
 v39 := Tryd.zeroValue87
 t45 := Tryd.underlying98
 a45 := Tryd.isAgg98
 z45 := Tryd.sizeOf98
 v45 := Tryd.zeroValue98
 t46 := Tryd.underlying99
 a46 := Tryd.isAgg99
 z46 := Tryd.sizeOf99
 v46 := Tryd.zeroValue99
 t50 := Tryd.underlying103
 a50 := Tryd.isAgg103
 z50 := Tryd.sizeOf103
 v50 := Tryd.zeroValue103
 t53 := Tryd.underlying81
 a53 := Tryd.isAgg81
 z53 := Tryd.sizeOf81
 v53 := Tryd.zeroValue81
 t55 := Tryd.underlying80
 a55 := Tryd.isAgg80
 z55 := Tryd.sizeOf80
 v55 := Tryd.zeroValue80
 t66 := Tryd.underlying110
 a66 := Tryd.isAgg110
 z66 := Tryd.sizeOf110
 v66 := Tryd.zeroValue110
 t70 := Tryd.underlying114
 a70 := Tryd.isAgg114
 z70 := Tryd.sizeOf114
 v70 := Tryd.zeroValue114
 t76 := Tryd.underlying119
 a76 := Tryd.isAgg119
 z76 := Tryd.sizeOf119
 v76 := Tryd.zeroValue119
 t77 := Tryd.underlying120
 a77 := Tryd.isAgg120
 z77 := Tryd.sizeOf120
 v77 := Tryd.zeroValue120 }
end Go.Proofs

namespace Go.Mth
open Go.Ab
def hdL (l : List Int) : Int := l.getD 0 default
def insK (x : List Int) : List (List Int) → List (List Int)
 | [] => [x]
 | y :: l => if hdL x ≤ hdL y then x :: y :: l else y :: insK x l
def sortK (l : List (List Int)) : List (List Int) := l.foldr insK []
theorem insK_perm (x : List Int) : ∀ l, (insK x l).Perm (x :: l)
 | [] => List.Perm.refl _
 | y :: l => by
  rw [insK]
  split
  ·exact List.Perm.refl _
  ·exact ((insK_perm x l).cons y).trans (List.Perm.swap x y l)
theorem sortK_perm : ∀ l, (sortK l).Perm l
 | [] => List.Perm.refl _
 | x :: l => (insK_perm x _).trans ((sortK_perm l).cons x)
theorem insK_srt (x : List Int) : ∀ l : List (List Int), l.Pairwise (fun a b => hdL a ≤ hdL b) → (insK x l).Pairwise (fun a b => hdL a ≤ hdL b)
 | [], _ => by simp [insK]
 | y :: l, h => by
  obtain ⟨h1, h2⟩ := List.pairwise_cons.1 h
  rw [insK]
  split
  ·rename_i e
   refine List.pairwise_cons.2 ⟨fun b hb => ?_, h⟩
   rcases List.mem_cons.1 hb with q | q
   ·rw [q]; exact e
   ·have := h1 b q; omega
  ·rename_i e
   refine List.pairwise_cons.2 ⟨fun b hb => ?_, insK_srt x l h2⟩
   rcases List.mem_cons.1 ((insK_perm x l).mem_iff.1 hb) with q | q
   ·rw [q]; omega
   ·exact h1 b q
theorem sortK_srt : ∀ l : List (List Int), (sortK l).Pairwise (fun a b => hdL a ≤ hdL b)
 | [] => List.Pairwise.nil
 | x :: l => insK_srt x _ (sortK_srt l)
theorem sortK_uniq {l l' : List (List Int)} (hp : l'.Perm l) (hs : l'.Pairwise (fun a b => hdL a ≤ hdL b)) (hinj : ∀ a ∈ l, ∀ b ∈ l, hdL a = hdL b → a = b) : l' = sortK l :=
 List.Perm.eq_of_pairwise (fun a b ha hb h1 h2 => hinj a (hp.mem_iff.1 ha) b ((sortK_perm l).mem_iff.1 hb) (Int.le_antisymm h1 h2)) hs (sortK_srt l) (hp.trans (sortK_perm l).symm)
end Go.Mth
namespace Go.Ab
open Go.RowKit Go.Mth Go.Sort
abbrev TldV (H : Heap) : Type := { p : List Int × Value // p.1 ≠ [] ∧ RepV H (.sl 2 (gcells cW p.1)) noLoc p.2 }
theorem told_ex {H : Heap} : ∀ (ls : List (List Int)) (vs : List Value), RepL H (gcells cV ls) noLoc vs → (∀ l ∈ ls, l ≠ []) → ∃ ds : List (TldV H), ds.map (fun p => p.1.1) = ls ∧ ds.map (fun p => p.1.2) = vs
 | [], vs, h, _ => by
  simp only [gcells, List.flatMap_nil, RepL] at h
  exact ⟨[], rfl, by rw [h]; rfl⟩
 | l :: ls, vs, h, hne => by
  have h' : RepL H (AV.sl 2 (gcells cW l) :: gcells cV ls) noLoc vs := h
  rw [RepL] at h'
  obtain ⟨v, r, rfl, h1, h2⟩ := h'
  obtain ⟨ds, e1, e2⟩ := told_ex ls r h2 fun x hx => hne x (by simp [hx])
  exact ⟨⟨(l, v), hne l (by simp), h1⟩ :: ds, by simp [e1], by simp [e2]⟩
theorem told_rep {H : Heap} : ∀ ds : List (TldV H), RepL H (gcells cV (ds.map fun p => p.1.1)) noLoc (ds.map fun p => p.1.2)
 | [] => by simp [gcells, RepL]
 | p :: ds => by
  show RepL H (AV.sl 2 (gcells cW p.1.1) :: gcells cV (ds.map fun p => p.1.1)) noLoc (p.1.2 :: ds.map fun p => p.1.2)
  rw [RepL]
  exact ⟨_, _, rfl, p.2.2, told_rep ds⟩
theorem told_one {H : Heap} (p : TldV H) : p.1.2.oneCell' = true := by
 have h := p.2.2
 simp only [RepV] at h
 obtain ⟨A, n, cap, e, _⟩ := h
 rw [e]; rfl
theorem heap_putRow_other {α : Type} [Inhabited α] (enc : α → Value) (w : World) (g off : Nat) (d : Array α) {k : Nat} (hk : k ≠ g) : (putRow enc w g off d).heap[k]? = w.heap[k]? := by
 simp only [putRow, mapBlock, Array.getElem?_modify]
 rw [if_neg (fun e => hk e.symm)]
theorem heap_putRow_same {α : Type} [Inhabited α] (enc : α → Value) (w : World) (g off : Nat) (d : Array α) {cur : Array Value} {e : TypeId} {fr : Nat × Nat} (h : w.heap[g]? = some (.cells cur e fr)) : (putRow enc w g off d).heap[g]? = some (.cells (putCells enc off d cur) e fr) := by
 simp only [putRow, mapBlock, Array.getElem?_modify]
 rw [if_pos trivial, h]; rfl
theorem heap_grow {w : World} {os : Array Obj} {k : Nat} (hk : k < w.heap.size) : (grow w os).heap[k]? = w.heap[k]? := by
 simp only [grow]
 rw [Array.getElem?_append_left hk]
theorem SWO_hd {α : Type} (f : α → Int) : SWO (Proofs.ltOf fun x y => cmpZ (f x) (f y)) := by
 have e : ∀ x y : α, Proofs.ltOf (fun x y => cmpZ (f x) (f y)) x y = decide (f x < f y) := fun x y => by unfold Proofs.ltOf; exact decide_eq_decide.2 cmpZ_lt
 exact ⟨fun x => by rw [e]; simp, fun x y z h1 h2 => by rw [e] at *; simp at *; omega, fun x y z h1 h2 => by rw [e] at *; simp at *; omega⟩
end Go.Ab
namespace Go.Proofs.YtdmkejloknejdaaDoor
open Go Go.Ab Go.Mth Go.RowKit Go.Sort
def LessOk (f : FuncId) : Prop := ∀ a b : List Int, a ≠ [] → b ≠ [] → ECalls cx f [.sl 2 (gcells cW a), .sl 2 (gcells cW b)] (.lit (.int .i64 (cmpZ (hdL a) (hdL b))))
theorem cmp_lays {f : FuncId} (hf : LessOk f) {H : Heap} [Inhabited (TldV H)] {w : World} (hG : cx.G H) (hH : ∀ b o, H b = some o → w.heap[b]? = some o) {g off size : Nat} (hg : H g = none) :
  CmpLays1 Tryd.prog f #[] (fun p : TldV H => p.1.2) (fun x y => cmpZ (hdL x.1.1) (hdL y.1.1)) g off size w := fun mm os dk hdk x y => by
 have hW : ∀ b o, H b = some o → (sortWorld (fun p : TldV H => p.1.2) w g off mm dk os).heap[b]? = some o := fun b o hb => by
  have hlt := (Array.getElem?_eq_some_iff.1 (hH b o hb)).1
  have hne : b ≠ g := fun e => by rw [e, hg] at hb; cases hb
  unfold sortWorld
  rw [heap_grow (by rw [size_putRow]; exact hlt), heap_putRow_other _ _ _ _ _ hne]
  exact hH b o hb
 have h := hf x.1.1 y.1.1 x.2.1 y.2.1 H noLoc [x.1.2, y.1.2] _ hG hW (RepL.cons x.2.2 (RepL.cons y.2.2 (by simp [RepL])))
 refine Calls.mono h ?_
 rintro e w' ⟨H', v, rfl, hv, _, _, hb⟩
 simp only [RepV] at hv
 subst hv
 obtain ⟨p, hp⟩ := regrown_of_below hb.low
 refine ⟨rfl, p.d - (sortWorld (fun p : TldV H => p.1.2) w g off mm dk os).drawn, p.os, ?_⟩
 have hd := hb.drawn
 rw [hp] at hd ⊢
 have hd' : (sortWorld (fun p : TldV H => p.1.2) w g off mm dk os).drawn ≤ p.d := hd
 unfold World.drewN redrawn
 rw [Nat.add_sub_cancel' hd']
theorem c_sort (mk : List Deferred) {f : FuncId} (hf : LessOk f) (hfc : callable cx.P f = true) {n : Nat} {so : List (Nat × AV)} {m m' : List (Nat × AO)} (id : Nat) (ls : List (List Int)) (ho : lookO m id = some (.row 62 1 (gcells cV ls)))
  (hm : ∀ i, lookO m' i = if i = id then some (.row 62 1 (gcells cV (sortK ls))) else lookO m i) (hne : ∀ l ∈ ls, l ≠ []) (hinj : ∀ a ∈ ls, ∀ b ∈ ls, hdL a = hdL b → a = b) (hlen : ls.length ≤ 1000000) :
  SCalls { cx with marks := mk } n 28 [.row id, .clo f []] so m (.tup []) m' := by
 intro w0 H L a w vals hr hra
 simp only [RepL, RepV] at hra
 obtain ⟨v, _, rfl, ⟨hl, hv1⟩, _, _, rfl, ⟨vs0, rfl, rfl⟩, rfl⟩ := hra
 obtain ⟨v', vs, k, hl', hlen', hown, hrl, h1c, hsz, hmx, hH⟩ := hr.objs id _ ho
 rw [hl] at hl'
 cases hl'
 rw [gcells_len cV_len] at hlen'
 have hk : k = ls.length := by omega
 subst hk
 by_cases hls : ls = []
 ·subst hls
  have hv : ∃ p cap, v = .slice p 0 cap := by
   rcases hown.2 with ⟨rfl, _⟩ | ⟨g, cap, cur, rfl, _⟩
   ·exact ⟨none, 0, rfl⟩
   ·exact ⟨some ⟨g, 0, none⟩, cap, rfl⟩
  obtain ⟨p, cap, rfl⟩ := hv
  have h := AnyF.slices_SortFunc_none (P := Tryd.prog) (ρ := Tryd.sortW_ren) { Tryd.sortW with } p cap (.func (.func f) #[] #[]) w
  refine Calls.mono h ?_
  rintro e w' ⟨rfl, rfl⟩
  refine ⟨.tuple #[], H, L, rfl, Ext.refl _ _, by simp only [RepV]; exact ⟨[], rfl, by simp [RepL]⟩, ?_⟩
  exact hr.fewer (μ := lookO m') fun i o hi => by
   rw [hm i] at hi
   by_cases hid : i = id
   ·subst hid; rw [if_pos rfl] at hi; rw [← hi]; exact ho
   ·rw [if_neg hid] at hi; exact hi
 ·rcases hown.2 with ⟨rfl, hk0⟩ | ⟨g, cap, cur, rfl, hB, hh, hnc, hcm, hcs, htake⟩
  ·exact absurd (List.eq_nil_of_length_eq_zero hk0) hls
  obtain ⟨ds, e1, e2⟩ := told_ex ls vs hrl hne
  have hdl : ds.length = ls.length := by rw [← e1, List.length_map]
  obtain ⟨x0, _, hx0⟩ : ∃ x l, ds = x :: l := by
   cases ds with
   | nil => exact absurd (by rw [← e1]; rfl) hls
   | cons x l => exact ⟨x, l, rfl⟩
  haveI : Inhabited (TldV H) := ⟨x0⟩
  have hgn : H g = none := hH g rfl
  have hglt := (Array.getElem?_eq_some_iff.1 hh).1
  have hget : ∀ (j : Nat), j < ds.length → vs[j]? = some (ds.toArray[j]!).1.2 := fun j hj => by
   have e8 : ds.toArray[j]! = ds[j] := by
    rw [getElem!_pos ds.toArray j (by simpa using hj)]
    exact List.getElem_toArray _
   rw [← e2, List.getElem?_map, List.getElem?_eq_getElem hj, Option.map_some, e8]
  have hHd : Holds (fun p : TldV H => p.1.2) w g 0 ds.toArray := fun j hj => by
   have hj' : j < ds.length := by simpa using hj
   refine ⟨?_, by unfold World.frozen?; simp only [hh]; simp⟩
   unfold World.cell?
   simp only [hh]
   have := hget j hj'
   rw [← htake, List.getElem?_take] at this
   split at this
   ·simpa using this
   ·cases this
  have h := Any.slices_SortFunc (P := Tryd.prog) (ρ := Tryd.sortW_ren) Tryd.sortW (fun p : TldV H => p.1.2) told_one (fun x y => cmpZ (hdL x.1.1) (hdL y.1.1)) (SWO_hd fun p : TldV H => hdL p.1.1) f #[] g 0 cap ds.toArray w
   (fun args w => run_callFunc hfc args w) (cmp_lays hf hr.glob hr.heap hgn) hHd hglt (by have h9 : ds.toArray.size = ds.length := List.size_toArray; omega)
  have hsz2 : ds.toArray.size = ls.length := by simp [hdl]
  rw [hsz2] at h
  refine Calls.mono h ?_
  rintro e w' ⟨rfl, d', q, os, hp, hs, rfl⟩
  have hds : d'.size = ls.length := hp.1.trans hsz2
  have hp2 : d'.toList.Perm ds := by
   have := hp.2.2
   rw [show d'.extract 0 ls.length = d' by rw [← hds]; exact Array.extract_size, show ds.toArray.extract 0 ls.length = ds.toArray by rw [← hsz2]; exact Array.extract_size] at this
   exact this
  have hls' : d'.toList.map (fun p => p.1.1) = sortK ls := by
   refine sortK_uniq (by rw [← e1]; exact hp2.map _) ?_ hinj
   rw [List.pairwise_map, List.pairwise_iff_getElem]
   intro i j hi hj hij
   have h1 := hs i j (Nat.zero_le _) hij (by have h9 : j < d'.size := (by simpa using hj); omega)
   have e9 : ∀ x y : TldV H, Proofs.ltOf (fun x y => cmpZ (hdL x.1.1) (hdL y.1.1)) x y = decide (hdL x.1.1 < hdL y.1.1) := fun x y => by unfold Proofs.ltOf; exact decide_eq_decide.2 cmpZ_lt
   rw [e9] at h1
   have h2 := of_decide_eq_false h1
   have hi' : i < d'.size := by simpa using hi
   have hj' : j < d'.size := by simpa using hj
   rw [getElem!_pos d' i hi', getElem!_pos d' j hj'] at h2
   simp only [Array.getElem_toList]
   omega
  have hrl' := told_rep d'.toList
  rw [hls'] at hrl'
  have hsl : (sortK ls).length = ls.length := (sortK_perm ls).length_eq
  have hw1 := hr.wrote (ob' := .row 62 1 (gcells cV (sortK ls))) ho hl rfl (w' := putRow (fun p : TldV H => p.1.2) (Sort.ahead w q) g 0 d') (fun k hk => heap_putRow_other _ _ _ _ _ hk)
   ⟨rfl, rfl, rfl, by rw [size_putRow]; exact Nat.le_refl _, fun k hk => heap_putRow_other _ _ _ _ _ (by omega), Nat.le_add_right _ _⟩
   ⟨_, d'.toList.map (fun p => p.1.2), ls.length, hl, by rw [gcells_len cV_len, hsl], ⟨by rw [List.length_map, Array.length_toList, hds, Nat.mul_one], .inr ⟨g, cap, putCells (fun p : TldV H => p.1.2) 0 d' cur, rfl, hB, heap_putRow_same _ (Sort.ahead w q) _ _ _ hh, hnc, hcm, by simp [putCells, hcs], ?_⟩⟩, hrl', fun u hu => ?_, hsz, by rw [gcells_len cV_len, hsl]; rw [gcells_len cV_len] at hmx; exact hmx, hH⟩
  ·refine ⟨.tuple #[], H, L, rfl, Ext.refl _ _, by simp only [RepV]; exact ⟨[], rfl, by simp [RepL]⟩, ?_⟩
   have hg2 := hw1.grow (Ext.refl _ _) (w' := grow (putRow (fun p : TldV H => p.1.2) (Sort.ahead w q) g 0 d') os) (fun b o hb => by rw [heap_grow (Array.getElem?_eq_some_iff.1 (hw1.heap b o hb)).1]; exact hw1.heap b o hb)
    ⟨rfl, rfl, rfl, by simp [grow], fun k hk => heap_grow hk, Nat.le_refl _⟩
   exact hg2.fewer (μ := lookO m') fun i o hi => by
    rw [hm i] at hi
    exact hi
  ·apply List.ext_getElem?
   intro j
   rw [List.getElem?_take, List.getElem?_map]
   by_cases hj : j < ls.length * 1
   ·have hj2 : j < d'.size := by omega
    have hj3 : j < cur.size := by rw [hcs]; omega
    rw [if_pos hj]
    simp only [putCells, Array.getElem?_toList, Array.getElem?_mapIdx]
    rw [Array.getElem?_eq_getElem hj3, Array.getElem?_eq_getElem hj2]
    simp only [Option.map_some]
    rw [if_pos ⟨Nat.zero_le _, by omega⟩, Nat.sub_zero, getElem!_pos d' j hj2]
   ·rw [if_neg hj, Array.getElem?_toList, Array.getElem?_eq_none (by omega)]; rfl
  ·obtain ⟨p, _, rfl⟩ := List.mem_map.1 hu
   exact told_one p
end Go.Proofs.YtdmkejloknejdaaDoor

namespace Go.Mth
open Go.Ab
theorem iterZ_add (m : MapM) (x : Int) (a : Nat) : ∀ k, iterZ m k (iterZ m a x) = iterZ m (k + a) x
 | 0 => by rw [Nat.zero_add]; rfl
 | k + 1 => by rw [Nat.succ_add]; show stepZ m _ = stepZ m _; rw [iterZ_add m x a k]
theorem iterZ_per {m : MapM} {x : Int} {n : Nat} (h : iterZ m n x = x) (k : Nat) : iterZ m (k + n) x = iterZ m k x := by rw [← iterZ_add, h]
theorem iterZ_mul {m : MapM} {x : Int} {n : Nat} (h : iterZ m n x = x) : ∀ q, iterZ m (q * n) x = x
 | 0 => by rw [Nat.zero_mul]; rfl
 | q + 1 => by rw [Nat.succ_mul, iterZ_per h, iterZ_mul h q]
theorem iterZ_mod {m : MapM} {x : Int} {n : Nat} (h : iterZ m n x = x) (k : Nat) : iterZ m k x = iterZ m (k % n) x := by
 have e := Nat.div_add_mod k n
 have h2 := iterZ_add m x (n * (k / n)) (k % n)
 rw [Nat.mul_comm, iterZ_mul h] at h2
 rw [h2]; congr 1; rw [Nat.mul_comm]; omega
theorem rot_get {l : List Int} {a k : Nat} (ha : a ≤ l.length) (hk : k < l.length) : (rotL l a).getD k default = if a + k < l.length then l.getD (a + k) default else l.getD (a + k - l.length) default := by
 unfold rotL
 simp only [List.getD_eq_getElem?_getD]
 split
 ·rename_i h
  rw [List.getElem?_append_left (by rw [List.length_drop]; omega), List.getElem?_drop]
 ·rename_i h
  rw [List.getElem?_append_right (by rw [List.length_drop]; omega), List.length_drop, List.getElem?_take_of_lt (by omega)]
  congr 2; omega
theorem listI_ext {x y : List Int} (hl : x.length = y.length) (h : ∀ k, k < x.length → x.getD k default = y.getD k default) : x = y := by
 refine List.ext_getElem hl fun k h1 h2 => ?_
 have := h k h1
 simpa [List.getD_eq_getElem?_getD, List.getElem?_eq_getElem h1, List.getElem?_eq_getElem h2] using this
theorem cyc_orb {m : MapM} {x : Int} {n : Nat} (h : iterZ m n x = x) (hn : 0 < n) : cyc m x n = orbL m (iterZ m (leastI (orbL m x n) n) x) n := by
 have hl := orbL_len m x n
 have ha := least_lt (l := orbL m x n) (by omega) n (by omega)
 unfold cyc rotM
 rw [hl] at ha ⊢
 refine listI_ext (by rw [rot_len, hl, orbL_len]) fun k hk => ?_
 rw [rot_len, hl] at hk
 rw [rot_get (by omega) (by omega), hl, orbL_get hk, iterZ_add]
 split
 ·rename_i e; rw [orbL_get (by omega), Nat.add_comm]
 ·rename_i e
  rw [orbL_get (by omega), ← iterZ_per h]
  congr 1; omega
def hitW (m : MapM) (w : List Int) : Prop := firstP w ∧ (fixZ m w).den = 1
instance (m : MapM) (w : List Int) : Decidable (hitW m w) := inferInstanceAs (Decidable (firstP w ∧ (fixZ m w).den = 1))
def cyT (m : MapM) (n t : Nat) : List Int := cyc m (fixZ m (wordT m.mod.toNat n t)).num n
def lsT (m : MapM) (n t : Nat) : List (List Int) := ((List.range t).filter fun t => decide (hitW m (wordT m.mod.toNat n t))).map (cyT m n)
def lpN (m : MapM) (n : Nat) : List (List Int) := sortK (lsT m n (m.mod.toNat ^ n))
def cyU (m : MapM) : Nat → List (List Int)
 | 0 => []
 | k + 1 => cyU m k ++ lpN m (k + 1)
noncomputable def lpL (m : MapM) (k : Int) : List (List Int) := if chkE m k = 0 then cyU m k.toNat else []
theorem lsT_y {m : MapM} {n t : Nat} (h1 : firstP (wordT m.mod.toNat n t)) (h2 : (fixZ m (wordT m.mod.toNat n t)).den = 1) : lsT m n t ++ [cyT m n t] = lsT m n (t + 1) := by
 have h : hitW m (wordT m.mod.toNat n t) := ⟨h1, h2⟩
 unfold lsT
 rw [List.range_succ, List.filter_append, List.filter_cons, if_pos (decide_eq_true h), List.filter_nil, List.map_append]; rfl
theorem lsT_n {m : MapM} {n t : Nat} (h : ¬ (firstP (wordT m.mod.toNat n t) ∧ (fixZ m (wordT m.mod.toNat n t)).den = 1)) : lsT m n t = lsT m n (t + 1) := by
 have h : ¬ hitW m (wordT m.mod.toNat n t) := h
 unfold lsT
 rw [List.range_succ, List.filter_append, List.filter_cons, if_neg (by simp [h]), List.filter_nil, List.append_nil]
theorem lsT_len (m : MapM) (n t : Nat) : (lsT m n t).length ≤ t := by
 unfold lsT
 rw [List.length_map]
 have := List.length_filter_le (fun t => decide (hitW m (wordT m.mod.toNat n t))) (List.range t)
 rw [List.length_range] at this
 exact this
theorem lpN_len (m : MapM) (n : Nat) : (lpN m n).length ≤ m.mod.toNat ^ n := by unfold lpN; rw [(sortK_perm _).length_eq]; exact lsT_len _ _ _
structure Loo (m : MapM) (n : Nat) (l : List Int) : Prop where
 pos : 0 < n
 back : iterZ m n (hdL l) = hdL l
 orb : l = orbL m (hdL l) n
 low : ∀ i, i < n → hdL l ≤ iterZ m i (hdL l)
 alone : ∀ i, 0 < i → i < n → iterZ m i (hdL l) ≠ hdL l
 fit : Fit (hdL l)
theorem valW_pos_rot {m : MapM} (hm : OkM m) {x : Int} {n d : Nat} (h : iterZ m n x = x) (hd : d ≤ n) : rotL (wordZ m x n) d = wordZ m (iterZ m d x) n := by
 have hl := wordZ_len m x n
 refine list_extZ (by rw [rot_len, wordZ_len, wordZ_len]) fun k hk => ?_
 rw [rot_len, hl] at hk
 have h1 := rot_get (l := wordZ m x n) (a := d) (k := k) (by omega) (by omega)
 rw [show (default : Int) = 0 from rfl] at h1
 rw [h1, hl, wordZ_get m _ _ k hk, iterZ_add]
 split
 ·rw [wordZ_get m _ _ _ (by omega), Nat.add_comm]
 ·rw [wordZ_get m _ _ _ (by omega), ← iterZ_per h]
  congr 2; omega
theorem first_alone {m : MapM} (hm : OkM m) {x : Int} {n : Nat} (h : iterZ m n x = x) (hf : firstP (wordZ m x n)) : ∀ i, 0 < i → i < n → iterZ m i x ≠ x := fun i h1 h2 e => by
 have h3 := (first_val hm (wordZ_is hm x n)).1 hf i (by rw [wordZ_len]; exact h2) h1
 rw [valW_pos_rot hm h (by omega), e] at h3
 exact absurd h3 (Int.lt_irrefl _)
theorem iter_alone {m : MapM} {x : Int} {n : Nat} (h : iterZ m n x = x) (ha : ∀ i, 0 < i → i < n → iterZ m i x ≠ x) {a : Nat} (hn : a < n) : ∀ i, 0 < i → i < n → iterZ m i (iterZ m a x) ≠ iterZ m a x := fun i h1 h2 e => by
 refine ha i h1 h2 ?_
 have e2 := congrArg (iterZ m (n - a)) e
 rw [iterZ_add, iterZ_add, iterZ_add, show n - a + a = n by omega, h, show n - a + i + a = i + n by omega, iterZ_per h] at e2
 exact e2
theorem hd_orb (m : MapM) (x : Int) {n : Nat} (hn : 0 < n) : hdL (orbL m x n) = x := by unfold hdL; rw [orbL_get hn]; rfl
theorem cyc_loo {m : MapM} (hm : OkM m) {x : Int} {n : Nat} (h : iterZ m n x = x) (hn : 0 < n) (hn2 : n ≤ 200) (ha : ∀ i, 0 < i → i < n → iterZ m i x ≠ x) {E : Nat} (hE : 6 ≤ E ∧ E ≤ 1000) (hx : x.natAbs < 10 ^ E) : Loo m n (cyc m x n) := by
 have hl := orbL_len m x n
 have hlt := least_lt (l := orbL m x n) (by omega) n (by omega)
 rw [hl] at hlt
 have hc := cyc_orb h hn
 have hh : hdL (cyc m x n) = iterZ m (leastI (orbL m x n) n) x := by rw [hc, hd_orb m _ hn]
 have hb : iterZ m n (iterZ m (leastI (orbL m x n) n) x) = iterZ m (leastI (orbL m x n) n) x := by rw [iterZ_add, Nat.add_comm, iterZ_per h]
 refine ⟨hn, by rw [hh]; exact hb, by rw [hh]; exact hc, fun i hi => ?_, fun i h1 h2 => by rw [hh]; exact iter_alone h ha hlt i h1 h2, ?_⟩
 ·rw [hh, iterZ_add, iterZ_mod h (i + leastI (orbL m x n) n)]
  have h3 := least_le (l := orbL m x n) n ((i + leastI (orbL m x n) n) % n) (Nat.mod_lt _ hn)
  rw [orbL_get hlt, orbL_get (Nat.mod_lt _ hn)] at h3
  exact h3
 ·rw [hh]
  exact fit_of_pow' (iter_abs hm hE.1 hx _) (by omega) (by omega)
theorem lsT_mem {m : MapM} (hm : OkM m) (hf : freeM m) {n t : Nat} (hn : 0 < n) (hn2 : n ≤ 100) {l : List Int} (h : l ∈ lsT m n t) : ∃ t', t' < t ∧ hitW m (wordT m.mod.toNat n t') ∧ l = cyT m n t' ∧ iterZ m n (fixZ m (wordT m.mod.toNat n t')).num = (fixZ m (wordT m.mod.toNat n t')).num ∧ wordZ m (fixZ m (wordT m.mod.toNat n t')).num n = wordT m.mod.toNat n t' ∧ Loo m n l := by
 obtain ⟨t', h1, rfl⟩ := List.mem_map.1 h
 obtain ⟨h2, h3⟩ := List.mem_filter.1 h1
 have h4 := of_decide_eq_true h3
 have hw := wordT_is hm n t'
 have hl := wordT_len m.mod.toNat n t'
 have hne : wordT m.mod.toNat n t' ≠ [] := fun e => by rw [e] at hl; simp at hl; omega
 obtain ⟨_, e1, e2⟩ := fix_int hm hf hw h4.2
 rw [hl] at e1 e2
 refine ⟨t', by simpa using h2, h4, rfl, e1, e2, cyc_loo hm e1 hn (by omega) (first_alone hm e1 (by rw [e2]; exact h4.1)) (E := 3 * n + 7) (by omega) ?_⟩
 obtain ⟨a1, _⟩ := redZ_abs (n := (lineZ m (wordT m.mod.toNat n t')).add) (line_ne hm hf hw hne)
 obtain ⟨l1, l2, l3⟩ := line_abs hm _ hw
 rw [hl] at l2
 exact Nat.lt_of_le_of_lt a1 l2
theorem loo_inj {m : MapM} {n : Nat} {a b : List Int} (ha : Loo m n a) (hb : Loo m n b) (h : hdL a = hdL b) : a = b := by rw [ha.orb, hb.orb, h]
theorem loo_len {m : MapM} {n : Nat} {l : List Int} (h : Loo m n l) : l.length = n := by rw [h.orb, orbL_len]
theorem loo_get {m : MapM} {n : Nat} {l : List Int} (h : Loo m n l) {i : Nat} (hi : i < n) : l.getD i default = iterZ m i (hdL l) := by
 have e := h.orb
 rw [congrArg (fun x : List Int => x.getD i default) e]
 exact orbL_get hi
theorem lsT_ne {m : MapM} (hm : OkM m) (hf : freeM m) {n t : Nat} (hn : 0 < n) (hn2 : n ≤ 100) : ∀ l ∈ lsT m n t, l ≠ [] := fun l hl e => by
 obtain ⟨_, _, _, _, _, _, h⟩ := lsT_mem hm hf hn hn2 hl
 have := loo_len h
 rw [e] at this; simp at this; omega
theorem lsT_inj {m : MapM} (hm : OkM m) (hf : freeM m) {n t : Nat} (hn : 0 < n) (hn2 : n ≤ 100) : ∀ a ∈ lsT m n t, ∀ b ∈ lsT m n t, hdL a = hdL b → a = b := fun a ha b hb e => by
 obtain ⟨_, _, _, _, _, _, h1⟩ := lsT_mem hm hf hn hn2 ha
 obtain ⟨_, _, _, _, _, _, h2⟩ := lsT_mem hm hf hn hn2 hb
 exact loo_inj h1 h2 e
theorem lpN_loo {m : MapM} (hm : OkM m) (hf : freeM m) {n : Nat} (hn : 0 < n) (hn2 : n ≤ 100) {l : List Int} (h : l ∈ lpN m n) : Loo m n l := by
 obtain ⟨_, _, _, _, _, _, h1⟩ := lsT_mem hm hf hn hn2 ((sortK_perm _).mem_iff.1 h)
 exact h1
theorem getD_memL {l : List (List Int)} {i : Nat} (h : i < l.length) : l.getD i default ∈ l := by rw [List.getD_eq_getElem?_getD, List.getElem?_eq_getElem h]; exact List.getElem_mem h
theorem loo_dig {m : MapM} (hm : OkM m) {n : Nat} (hn2 : n ≤ 100) {l : List Int} (h : Loo m n l) {i : Nat} (hi : i < n) : (digs (l.getD i default).natAbs).length ≤ 1000 := by
 rw [loo_get h hi]
 have := iter_len hm (hdL l) i
 have := fit_len h.fit
 omega
theorem cyU_len (m : MapM) (hm : OkM m) : ∀ k, (cyU m k).length ≤ k * m.mod.toNat ^ k
 | 0 => by simp [cyU]
 | k + 1 => by
  have h1 := cyU_len m hm k
  have h2 := lpN_len m (k + 1)
  have h3 : m.mod.toNat ^ k ≤ m.mod.toNat ^ (k + 1) := Nat.pow_le_pow_right (by have := hm.1; omega) (by omega)
  have h4 := Nat.mul_le_mul_left k h3
  rw [cyU, List.length_append, Nat.succ_mul]
  omega
theorem toNat_pw {m : MapM} (hM : OkM m) (k : Nat) : ((m.mod.toNat ^ k : Nat) : Int) = m.mod ^ k := by rw [Int.natCast_pow, Int.toNat_of_nonneg (by have := hM.1; omega)]
theorem lpL_no {m : MapM} {k : Int} (h : chkE m k ≠ 0) : lpL m k = [] := if_neg h
theorem lpL_ok {m : MapM} {k : Int} (h : chkE m k = 0) : lpL m k = cyU m k.toNat := if_pos h
theorem ns_rep (n : Nat) : ns .i64 (List.replicate n 0) = is .i64 (List.replicate n (0 : Int)) := by simp [ns, is, nm, im]
theorem wordT_0 (M : Nat) : ∀ n, wordT M n 0 = List.replicate n (0 : Int)
 | 0 => rfl
 | n + 1 => by rw [wordT, Nat.zero_div, wordT_0 M n, Nat.zero_mod, List.replicate_succ']; rfl
theorem next_tot {m : MapM} (hm : OkM m) {n t q : Nat} {w : List Int} (h : nextP m n t w q) (hq : ¬ q < n) (ht : (t : Int) < m.mod ^ n) : t + 1 = m.mod.toNat ^ n := by
 have h3 := h.2.2.1
 have e : q = n := by omega
 subst e
 have h1 := next_n hm h ht
 have h2 := toNat_pw hm q
 omega
theorem out_s {A L : List (List Int)} {i q : Nat} (hi : i < L.length) (hq : (L.getD i default).length ≤ q) : (A ++ L.take i) ++ [(L.getD i default).take q] = A ++ L.take (i + 1) := by
 rw [List.take_of_length_le hq, List.append_assoc, List.take_add_one, List.getD_eq_getElem?_getD, List.getElem?_eq_getElem hi]; rfl
theorem strs_take {l : List Int} {q : Nat} (hq : q < l.length) : sbs ((l.take q).map txt) ++ [.lit (.string (txt (l.getD q default)))] = sbs ((l.take (q + 1)).map txt) := by
 rw [List.take_add_one, List.getD_eq_getElem?_getD, List.getElem?_eq_getElem hq]
 unfold sbs
 rw [List.map_append, List.map_append]; rfl
theorem row_is' {e : TypeId} {k : IntKind} {xs ys : List Int} (h : xs = ys) : (some (AO.row e 1 (is k xs)) : Option AO) = some (AO.row e 1 (is k ys)) := by rw [h]
theorem row_start (e : TypeId) (M n : Nat) : (some (AO.row e 1 (ns .i64 (List.replicate n 0))) : Option AO) = some (AO.row e 1 (is .i64 (wordT M n 0))) := by rw [ns_rep, wordT_0]
end Go.Mth

namespace Go.Proofs.YtdmkejloknejdaaDoor
open Go Go.Ab Go.Mth
theorem c_words (m : MapM) (n : Nat) : ECallsW cx 23 [mapV m, nm .i64 n] 40 3 [nm .i64 n] 24 [Iv m.mod, Lv m.mul, Lv m.add] := by
 refine ecallsW_of_awp Tryd.func23 (c := _) rfl (Nat.le_of_ble_eq_true rfl) rfl rfl ?_
 show awp cx 6 _ (postW cx Tryd.f23 _ _ _ _ _) ⟨[(0, mapV m), (1, nm .i64 n)], []⟩
 refine awp_seq fun K0 hK0 => awp_region rfl ?_
 refine o_box 2 [Iv m.mod, Lv m.mul, Lv m.add] gn rfl rfl ?_
 refine o_box 3 [Nv n] gn rfl rfl ?_
 refine o_as (.lit .nilFunc) rfl (aops_end (hK0 _ (awp_seq fun K1 hK1 => awp_region rfl ?_)))
 refine o_makeFunc [.ref 3 0, .ref 2 0] gn rfl ?_
 refine o_as (.clo 40 [.ref 3 0, .ref 2 0]) rfl (aops_end (hK1 _ ?_))
 refine awp_ret ?_
 exact ⟨4, 3, 2, rfl, by decide, rfl, rfl, rfl⟩

theorem c_lessE (a b : List Int) (ha : 0 < a.length) (hb : 0 < b.length) : ECalls cx 29 [.sl 2 (gcells cW a), .sl 2 (gcells cW b)] (.lit (.int .i64 (cmpZ (hdL a) (hdL b)))) := by
 refine ecalls_of_awp Tryd.func29 (c := _) rfl (Nat.le_of_ble_eq_true rfl) ?_
 show awp cx 12 _ (postF cx Tryd.f29 _) ⟨[(0, .sl 2 (gcells cW a)), (1, .sl 2 (gcells cW b))], []⟩
 refine awp_seq fun K0 hK0 => awp_region rfl (o_as (Nv 0) rfl (aops_end (hK0 _ (awp_seq fun K1 hK1 => awp_regionD rfl (o_mv (.sl 2 (gcells cW a)) rfl ?_)))))
 refine g_index cW a 0 cW_len rfl gn f89_ rfl rfl (by omega) ?_
 refine g_loadA cW a 0 default cW_len gn f10_ rfl (by omega) ?_
 refine o_mv (.sl 2 (gcells cW b)) rfl ?_
 refine g_index cW b 0 cW_len rfl gn f89_ rfl rfl (by omega) ?_
 refine g_loadA cW b 0 default cW_len gn f10_ rfl (by omega) ?_
 refine o_ct (c_wCmp (a.getD 0 default) (b.getD 0 default)) gn f93_ rfl ?_
 refine o_as (Iv (cmpZ (a.getD 0 default) (b.getD 0 default))) rfl ?_
 refine aops_end ⟨by kernel_rfl, ?_⟩
 refine hK1 _ ?_
 refine awp_ret ?_
 refine post_ret ⟨[Iv (cmpZ (a.getD 0 default) (b.getD 0 default))], ⟨AV.le_refl _, trivial⟩, rfl, ?_⟩
 rfl

theorem c_less : LessOk 29 := fun a b ha hb => c_lessE a b (List.length_pos_iff.2 ha) (List.length_pos_iff.2 hb)
end Go.Proofs.YtdmkejloknejdaaDoor

