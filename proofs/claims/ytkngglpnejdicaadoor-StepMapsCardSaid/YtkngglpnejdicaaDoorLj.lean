/- What each law's row of this seat leans on. -/
import Derived.Test.YtkngglpnejdicaaDoorCards
import Derived.Test.YtkngglpnejdicaaDoorTie
import Derived.Test.YtkngglpnejdicaaDoorCx
import Derived.Test.YtkngglpnejdicaaDoorAb16
import Derived.Stop.LaidErr
set_option linter.unusedVariables false
namespace Go.Proofs.YtkngglpnejdicaaDoor
open Go Go.Ab Go.Mth Go.ChangeShapes Go.WideShapes Go.ChangeAt Go.RowKit
open Go.ChangeMaps (open_string shut_string)
theorem ownT : ownKnob Tryd.prog.godebug = none := by kernel_rfl
theorem laidOutT : laidOutB Tryd.prog = true := by kernel_rfl
noncomputable def laid5 : List (String × DataW Unit) := [("math/bits.deBruijn32tab", Rows.laid_math_bits_deBruijn32tab), ("math/bits.deBruijn64tab", Rows.laid_math_bits_deBruijn64tab), ("internal/strconv.uint64pow10", Rows.laid_internal_strconv_uint64pow10), ("strconv.ErrRange", Rows.laid_strconv_ErrRange), ("strconv.ErrSyntax", Rows.laid_strconv_ErrSyntax)]
theorem gTab : Tryd.prog.globalNamed "internal/strconv.uint64pow10" = some 2 := by kernel_rfl
noncomputable def tyTab : TypeId := ((Tryd.prog.globals[2]?).map (·.type)).getD 0
theorem gTabType : (Tryd.prog.globals[2]?).map (·.type) = some tyTab := by kernel_rfl
noncomputable def elTab : TypeId := match Tryd.prog.underlying tyTab with | some (.array _ e) => e | _ => 0
theorem uTab : Tryd.prog.underlying tyTab = some (.array 20 elTab) := by kernel_rfl
theorem uElTab : Tryd.prog.underlying elTab = some (.int .u64) := by kernel_rfl
theorem cElTab : Tryd.prog.cellsOf elTab = 1 := by kernel_rfl
theorem cTab : Tryd.prog.cellsOf tyTab = 20 := by kernel_rfl
theorem var_mem {P : Program} {W : World} {name : String} {g : Nat} {a : Array Value} (hg : P.globalNamed name = some g) (h : W.var? P name = some a) : ∃ t fr, memOf W g = some (.cells a t fr) := by
  unfold World.var? at h
  rw [hg, Option.bind_some] at h
  unfold memOf
  split at h
  · rename_i cs t fr hh
    cases h
    exact ⟨t, fr, hh⟩
  · cases h
theorem laid5_met {W : World} (h : laidMetH Tryd.prog laid5 W) : laidMet Tryd.prog laid5 W := (MakeChecks.laidMetH_plain _ _ _ (by kernel_rfl)).mp h
theorem laid5_tab {W : World} (h : laidMet Tryd.prog laid5 W) : laidMet Tryd.prog (("internal/strconv.uint64pow10", Lib.tabData .u64 Lib.pow10Tab) :: [("strconv.ErrRange", Rows.laid_strconv_ErrRange), ("strconv.ErrSyntax", Rows.laid_strconv_ErrSyntax)]) W := h.tail.tail
set_option maxRecDepth 100000 in
theorem tabG_of {W : World} (h : laidMetH Tryd.prog laid5 W) : TabG (memOf W) :=
  var_mem gTab (Lib.tabIs_of_head gTab gTabType uTab uElTab cElTab cTab (laid5_tab (laid5_met h)))
theorem u24T : Tryd.prog.underlying 24 = some (.struct #[{ name := "Mod", type := 3, offset := 0, embedded := false, tag := "", pkgPath := "", byteOffset := 0 }, { name := "Mul", type := 22, offset := 1, embedded := false, tag := "", pkgPath := "", byteOffset := 8 }, { name := "Add", type := 22, offset := 2, embedded := false, tag := "", pkgPath := "", byteOffset := 32 }]) := by kernel_rfl
theorem u22T : Tryd.prog.underlying 22 = some (.slice 3) := by kernel_rfl
theorem u3T : Tryd.prog.underlying 3 = some (.int .i64) := by kernel_rfl
theorem u9T : Tryd.prog.underlying 9 = some .string := by kernel_rfl
theorem u4T : Tryd.prog.underlying 4 = some .bool := by kernel_rfl
theorem c3T : Tryd.prog.cellsOf 3 = 1 := by kernel_rfl
theorem b3T : Tryd.prog.bytesOf 3 = 8 := by kernel_rfl
theorem one24T : Deep.oneCellFields Tryd.prog #[{ name := "Mod", type := 3, offset := 0, embedded := false, tag := "", pkgPath := "", byteOffset := 0 }, { name := "Mul", type := 22, offset := 1, embedded := false, tag := "", pkgPath := "", byteOffset := 8 }, { name := "Add", type := 22, offset := 2, embedded := false, tag := "", pkgPath := "", byteOffset := 32 }] = true := by kernel_rfl
theorem c24T : Tryd.prog.cellsOf 24 = 3 := by kernel_rfl
theorem reachB : reachBytes = 140737488351232 := by decide
set_option maxRecDepth 100000 in
/-- A map that came in. -/
theorem rep_map {H : Type} {enc : TypeId × Value → H} {W : World} {base : Nat} {v : Value} {d : DataW H} {p : List MemPlace} (hv : Value.okWide Tryd.prog W .any base 24 v) (h : DataW.Trod enc Tryd.prog W 0 (fun _ => true) true 24 v d p)
    (hsz : ∀ n ∈ d.weights Tryd.prog 24, n ≤ reachBytes) : ∃ m : MapM, RepV (memOf W) (mapV m) noLoc v ∧ m.mul.length ≤ 17592186044416 ∧ m.add.length ≤ 17592186044416 := by
  obtain ⟨v0, v1, v2, y0, y1, y2, n, rfl, rfl, rfl, h0, h1, h2⟩ := Joins.open_agg3 u24T one24T c24T hv h
  have w1 : ∀ n ∈ y1.1.weights Tryd.prog 22, n ≤ reachBytes := fun n hn => hsz n (by simp only [DataW.weights, u24T]; exact DataW.weights_mem_each (j := 1) rfl rfl n hn)
  have w2 : ∀ n ∈ y2.1.weights Tryd.prog 22, n ≤ reachBytes := fun n hn => hsz n (by simp only [DataW.weights, u24T]; exact DataW.weights_mem_each (j := 2) rfl rfl n hn)
  obtain ⟨z, hc, _, _⟩ := DataW.trod_int u3T h0
  simp only [List.cons.injEq, and_true] at hc
  obtain ⟨zs1, r1, o1, l1, _⟩ := rep_ints (c := 8) u22T u3T c3T h1 b3T (by decide) w1 noLoc
  obtain ⟨zs2, r2, o2, l2, _⟩ := rep_ints (c := 8) u22T u3T c3T h2 b3T (by decide) w2 noLoc
  rw [reachB] at l1 l2
  refine ⟨⟨z, zs1, zs2⟩, ?_, by show zs1.length ≤ _; omega, by show zs2.length ≤ _; omega⟩
  unfold mapV
  simp only [RepV]
  refine ⟨[v0, v1, v2], rfl, ?_, ?_⟩
  · exact RepL.cons (by simp only [RepV]; exact hc) (RepL.cons r1 (RepL.cons r2 (by simp only [RepL])))
  · intro u hu
    simp only [List.mem_cons, List.not_mem_nil, or_false] at hu
    rcases hu with rfl | rfl | rfl
    · rw [hc]; rfl
    · exact o1
    · exact o2
set_option maxRecDepth 100000 in
theorem rep_str {H : Type} {enc : TypeId × Value → H} {W : World} {base : Nat} {v : Value} {d : DataW H} {p : List MemPlace} (hv : Value.okWide Tryd.prog W .any base 9 v) (h : DataW.Trod enc Tryd.prog W 0 (fun _ => true) true 9 v d p) :
    ∃ a : ByteArray, RepV (memOf W) (.lit (.string a)) noLoc v ∧ a.size ≤ 9223372036854775807 := by
  obtain ⟨a, rfl, _, _, ha⟩ := open_string u9T hv h
  refine ⟨a, by simp only [RepV], Nat.le_trans ha ?_⟩
  simp [maxLen]
set_option maxRecDepth 100000 in
theorem rep_int {H : Type} {enc : TypeId × Value → H} {W : World} {base : Nat} {v : Value} {d : DataW H} {p : List MemPlace} (hv : Value.okWide Tryd.prog W .any base 3 v) (h : DataW.Trod enc Tryd.prog W 0 (fun _ => true) true 3 v d p) :
    ∃ z : Int, RepV (memOf W) (.lit (.int .i64 z)) noLoc v ∧ -9223372036854775808 ≤ z ∧ z ≤ 9223372036854775807 := by
  obtain ⟨z, rfl, _, _, hz⟩ := open_int u3T hv h
  refine ⟨z, by simp only [RepV], ?_⟩
  simp only [Lit.wf, Bool.and_eq_true, decide_eq_true_eq] at hz
  exact hz
end Go.Proofs.YtkngglpnejdicaaDoor
