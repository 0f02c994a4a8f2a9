/- The orbit of a number, and what the orbit's functions hand back. No walk in sight. -/
import Derived.Test.YtkngglpnejdicaaDoorCx
import Derived.Test.YtkngglpnejdicaaDoorAb15
set_option linter.unusedVariables false
namespace Go.Mth
open Go.Ab
def iterZ (m : MapM) : Nat → Int → Int
  | 0, z => z
  | k + 1, z => stepZ m (iterZ m k z)
/-- Strings in a row. -/
def sbs (l : List ByteArray) : List AV := l.map fun s => .lit (.string s)
/-- Strings in a row: the texts of numbers. -/
def strs (zs : List Int) : List AV := sbs (zs.map txt)
theorem strs_len (zs : List Int) : (strs zs).length = zs.length := by simp [strs, sbs]
theorem strs_app (zs : List Int) (z : Int) : strs zs ++ [.lit (.string (txt z))] = strs (zs ++ [z]) := by simp [strs, sbs]
theorem sbs_bnd {xs : List ByteArray} {c : Nat} (h : (sbs xs).length ≤ c) : xs.length ≤ c := by simpa [sbs] using h
theorem rcells_at : ∀ {zs : List Int} {i : Nat}, i < zs.length → ((rcells zs).drop (i * 2)).take 2 = [bp (zs.getD i 0 < 0), .sl 1 (ns .i64 (digs (zs.getD i 0).natAbs))]
  | [], i, h => by simp at h
  | z :: zs, 0, h => by simp [rcells]
  | z :: zs, i + 1, h => by
    have := rcells_at (zs := zs) (i := i) (by simpa using h)
    rw [show (i + 1) * 2 = i * 2 + 2 by omega]
    simpa [rcells] using this
section
variable {C : Ctx} {ops : Array Oper} {s : List (Nat × AV)} {m : List (Nat × AO)} {os : List Oper} {K : List Eff → St → Prop} {d : Nat} {t : TypeId} {p : String} {af : Array Edge} {g : Option (Nat × Bool)}
theorem s_len {ty e : TypeId} {x : Operand} (xs : List ByteArray) (hg : Gd ops s g) (ht : C.P.underlying ty = some (.slice e)) (hx : ev s x = .sl 1 (sbs xs)) (kk : aops C ops ⟨(d, nm .i64 xs.length) :: s, m⟩ os fun es σ' => K ({ val := nm .i64 xs.length } :: es) σ') :
    aops C ops ⟨s, m⟩ (⟨some d, .call { callee := .builtin .len, args := #[x], argTypes := #[ty] }, t, p, af, g⟩ :: os) K := o_lenSl xs.length hg ht hx (by simp [sbs]) kk
theorem s_index {ty : TypeId} {x y : Operand} {e by' : Nat} {kk' : IntKind} (xs : List ByteArray) (i : Nat) (hg : Gd ops s g) (ht : tyElem C.P ty = some (e, 1, by')) (hx : ev s x = .sl 1 (sbs xs)) (hy : ev s y = nm kk' i) (h1 : i < xs.length)
    (kk : aops C ops ⟨(d, .ip ((sbs xs).drop i)) :: s, m⟩ os fun es σ' => K ({ val := .ip ((sbs xs).drop i) } :: es) σ') : aops C ops ⟨s, m⟩ (⟨some d, .indexAddr ty x y, t, p, af, g⟩ :: os) K :=
  o_index1 (i := (i : Int)) hg ht hx hy (by omega) (by simpa [sbs] using h1) kk
theorem s_loadI {ty : TypeId} {x : Operand} (xs : List ByteArray) (i : Nat) (hg : Gd ops s g) (ht : tySc C.P ty = true) (hx : ev s x = .ip ((sbs xs).drop i)) (h1 : i < xs.length)
    (kk : aops C ops ⟨(d, .lit (.string (xs.getD i { data := #[] }))) :: s, m⟩ os fun es σ' => K ({ val := .lit (.string (xs.getD i { data := #[] })) } :: es) σ') : aops C ops ⟨s, m⟩ (⟨some d, .load ty x, t, p, af, g⟩ :: os) K :=
  o_loadIS (.lit (.string (xs.getD i { data := #[] }))) hg ht hx (dropMap0 (f := fun s => AV.lit (.string s)) { data := #[] } h1) kk
theorem r_len {ty e : TypeId} {x : Operand} (xs : List Int) (hg : Gd ops s g) (ht : C.P.underlying ty = some (.slice e)) (hx : ev s x = .sl 2 (rcells xs)) (kk : aops C ops ⟨(d, nm .i64 xs.length) :: s, m⟩ os fun es σ' => K ({ val := nm .i64 xs.length } :: es) σ') :
    aops C ops ⟨s, m⟩ (⟨some d, .call { callee := .builtin .len, args := #[x], argTypes := #[ty] }, t, p, af, g⟩ :: os) K := o_lenSl xs.length hg ht hx (rcells_len xs) kk
theorem r_index {ty : TypeId} {x y : Operand} {e by' : Nat} {kk' : IntKind} (xs : List Int) (i : Nat) (hg : Gd ops s g) (ht : tyElem C.P ty = some (e, 2, by')) (hx : ev s x = .sl 2 (rcells xs)) (hy : ev s y = nm kk' i) (h1 : i < xs.length)
    (kk : aops C ops ⟨(d, .ip ((rcells xs).drop (i * 2))) :: s, m⟩ os fun es σ' => K ({ val := .ip ((rcells xs).drop (i * 2)) } :: es) σ') : aops C ops ⟨s, m⟩ (⟨some d, .indexAddr ty x y, t, p, af, g⟩ :: os) K :=
  o_indexN (i := (i : Int)) hg ht hx hy (by omega) (by rw [rcells_len]; show i * 2 < _; omega) kk
theorem r_loadI {ty : TypeId} {x : Operand} (xs : List Int) (i : Nat) (hg : Gd ops s g) (ht : tyAgg C.P ty = some 2) (hx : ev s x = .ip ((rcells xs).drop (i * 2))) (h1 : i < xs.length)
    (kk : aops C ops ⟨(d, .agg [bp (xs.getD i 0 < 0), .sl 1 (ns .i64 (digs (xs.getD i 0).natAbs))]) :: s, m⟩ os fun es σ' => K ({ val := .agg [bp (xs.getD i 0 < 0), .sl 1 (ns .i64 (digs (xs.getD i 0).natAbs))] } :: es) σ') : aops C ops ⟨s, m⟩ (⟨some d, .load ty x, t, p, af, g⟩ :: os) K :=
  o_loadIA _ hg ht hx (by rw [List.length_drop, rcells_len]; omega) (rcells_at h1) kk
end
theorem runZ_bad {m : MapM} {z : Int} (h : ¬ Fit z) : ∀ k, runZ m k z = z
  | 0 => rfl
  | k + 1 => by rw [runZ, if_neg h]
/-- The program's orbit: the numbers, and the error. -/
def orbQ (m : MapM) (a : ByteArray) (k : Int) : Prop := okM m = true ∧ okS a = true ∧ 0 ≤ k ∧ k ≤ 1000
open Classical in
noncomputable def orbS (m : MapM) (a : ByteArray) (k : Int) : List Int := if okM m = true ∧ okS a = true ∧ 0 ≤ k ∧ k ≤ 1000 ∧ Fit (runZ m k.toNat (numS a)) then orbZ m k.toNat (numS a) else []
open Classical in
noncomputable def orbE (m : MapM) (a : ByteArray) (k : Int) : Nat := if okM m = true ∧ okS a = true then if 0 ≤ k ∧ k ≤ 1000 then if Fit (runZ m k.toNat (numS a)) then 0 else 3 else 2 else 1
noncomputable def runS (m : MapM) (a : ByteArray) (k : Int) : ByteArray := if okM m = true ∧ okS a = true ∧ 0 ≤ k ∧ k ≤ 20000 then toldS (runZ m k.toNat (numS a)) else { data := #[] }
noncomputable def runE (m : MapM) (a : ByteArray) (k : Int) : Nat := if okM m = true ∧ okS a = true then if 0 ≤ k ∧ k ≤ 20000 then toldE (runZ m k.toNat (numS a)) else 2 else 1
def fallF (m : MapM) (a : ByteArray) (k : Int) : Nat × Int × Nat := fallZ m (numS a) k.toNat (numS a) 1
noncomputable def fallK (m : MapM) (a : ByteArray) (k : Int) : Nat := if okM m = true ∧ okS a = true ∧ 1 ≤ k ∧ k ≤ 20000 then (fallF m a k).1 else 0
noncomputable def fallT (m : MapM) (a : ByteArray) (k : Int) : ByteArray := if okM m = true ∧ okS a = true ∧ 1 ≤ k ∧ k ≤ 20000 ∧ (fallF m a k).2.2 = 0 then txt (fallF m a k).2.1 else { data := #[] }
noncomputable def fallE (m : MapM) (a : ByteArray) (k : Int) : Nat := if okM m = true ∧ okS a = true then if 1 ≤ k ∧ k ≤ 20000 then (fallF m a k).2.2 else 2 else 1
theorem fallZ_go {m : MapM} {n x : Int} {k i : Nat} (h : Fit (stepZ m x)) (h2 : ¬ stepZ m x < n) : fallZ m n (k + 1) x i = fallZ m n k (stepZ m x) (i + 1) := by rw [fallZ, if_pos h, if_neg h2]
theorem fallZ_bad {m : MapM} {n x : Int} {k i : Nat} (h : ¬ Fit (stepZ m x)) : fallZ m n (k + 1) x i = (0, 0, 3) := by rw [fallZ, if_neg h]
theorem fallZ_yes {m : MapM} {n x : Int} {k i : Nat} (h : Fit (stepZ m x)) (h2 : stepZ m x < n) : fallZ m n (k + 1) x i = (i, stepZ m x, 0) := by rw [fallZ, if_pos h, if_pos h2]
end Go.Mth
