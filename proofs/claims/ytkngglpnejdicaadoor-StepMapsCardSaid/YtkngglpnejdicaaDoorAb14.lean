/- Rules for numbers that are natural ones, and for slices of such numbers. Over any program. -/
import Derived.Test.YtkngglpnejdicaaDoorAb13
set_option linter.unusedVariables false
set_option linter.unusedSimpArgs false
namespace Go.Ab
open Go.RowKit

/-- A whole number as a value; a list of natural numbers as cells. -/
def nm (k : IntKind) (x : Nat) : AV := .lit (.int k (x : Int))
def ns (k : IntKind) (xs : List Nat) : List AV := xs.map (nm k)
theorem ns_len {k : IntKind} {xs : List Nat} : (ns k xs).length = xs.length := by simp [ns]
/-- The largest number of a kind. -/
def topOf : IntKind → Nat
  | .i8 => 127 | .i16 => 32767 | .i32 => 2147483647 | .i64 => 9223372036854775807
  | .u8 => 255 | .u16 => 65535 | .u32 => 4294967295 | .u64 => 18446744073709551615
theorem wrapN {k : IntKind} {x : Nat} (h : x ≤ topOf k) : k.wrap (x : Int) = (x : Int) := by
  cases k <;> simp only [topOf] at h <;> simp [IntKind.wrap, IntKind.bits, IntKind.signed] <;> omega
theorem wrap64 {x : Int} (h : -9223372036854775808 ≤ x) (h' : x ≤ 9223372036854775807) : IntKind.i64.wrap x = x := by
  simp [IntKind.wrap, IntKind.bits, IntKind.signed]; omega

theorem run_max {P : Program} {tys : Array TypeId} {t : TypeId} (a c : Int) (w : World) : (Builtin.max_ tys t #[.int .i64 a, .int .i64 c]).run P w = .ok (.int .i64 (max a c)) w := by
  have e : (if c > a then c else a) = max a c := by split <;> omega
  simp [Builtin.max_, Builtin.max2, e]
theorem run_min {P : Program} {tys : Array TypeId} {t : TypeId} (a c : Int) (w : World) : (Builtin.min_ tys t #[.int .i64 a, .int .i64 c]).run P w = .ok (.int .i64 (min a c)) w := by
  have e : (if c < a then c else a) = min a c := by split <;> omega
  simp [Builtin.min_, Builtin.min2, e]
/-- A list of whole numbers as cells. -/
def im (k : IntKind) (x : Int) : AV := .lit (.int k x)
def is (k : IntKind) (xs : List Int) : List AV := xs.map (im k)
theorem is_len {k : IntKind} {xs : List Int} : (is k xs).length = xs.length := by simp [is]
theorem is_bnd {k : IntKind} {xs : List Int} {c : Nat} (h : (is k xs).length ≤ c) : xs.length ≤ c := by rwa [is_len] at h
theorem nm_int {k : IntKind} {x : Int} {n : Nat} (h : x = (n : Int)) : AV.lit (.int k x) = nm k n := by rw [h]; rfl
theorem int_nm {k : IntKind} {x : Int} {n : Nat} (h : (n : Int) = x) : nm k n = AV.lit (.int k x) := by rw [← h]; rfl
/-- A string's bytes, as numbers; a string of bytes. -/
def byts (a : ByteArray) : List Nat := a.data.toList.map UInt8.toNat
def strN (l : List Nat) : ByteArray := strOfNums (l.map fun (x : Nat) => (x : Int))
theorem strCells_ns (a : ByteArray) : (Lib.strCells a).map AV.lit = ns .u8 (byts a) := by simp [Lib.strCells, ns, byts, nm]
theorem byts_len (a : ByteArray) : (byts a).length = a.size := by simp [byts]
section
variable {C : Ctx} {ops : Array Oper} {s : List (Nat × AV)} {m : List (Nat × AO)} {os : List Oper} {K : List Eff → St → Prop} {d : Nat} {t : TypeId} {p : String} {af : Array Edge} {g : Option (Nat × Bool)}

theorem n_val {op : Op} {v : AV} (v' : AV) (e : v' = v) (h : (aops C ops ⟨(d, v) :: s, m⟩ os fun es σ' => K ({ val := v } :: es) σ') → aops C ops ⟨s, m⟩ (⟨some d, op, t, p, af, g⟩ :: os) K)
    (kk : aops C ops ⟨(d, v') :: s, m⟩ os fun es σ' => K ({ val := v' } :: es) σ') : aops C ops ⟨s, m⟩ (⟨some d, op, t, p, af, g⟩ :: os) K := by subst e; exact h kk

theorem n_add {xt yt : TypeId} {x y : Operand} {k : IntKind} (a c : Nat) (hg : Gd ops s g) (hx : ev s x = nm k a) (hy : ev s y = nm k c) (hr : a + c ≤ topOf k)
    (kk : aops C ops ⟨(d, nm k (a + c)) :: s, m⟩ os fun es σ' => K ({ val := nm k (a + c) } :: es) σ') : aops C ops ⟨s, m⟩ (⟨some d, .binOp .add xt x y yt, t, p, af, g⟩ :: os) K :=
  n_val (nm k (a + c)) (by simp [nm]) (o_add hg hx hy (by rw [← Int.natCast_add]; exact wrapN hr)) kk
theorem n_sub {xt yt : TypeId} {x y : Operand} {k : IntKind} (a c : Nat) (hg : Gd ops s g) (hx : ev s x = nm k a) (hy : ev s y = nm k c) (hc : c ≤ a) (hr : a ≤ topOf k)
    (kk : aops C ops ⟨(d, nm k (a - c)) :: s, m⟩ os fun es σ' => K ({ val := nm k (a - c) } :: es) σ') : aops C ops ⟨s, m⟩ (⟨some d, .binOp .sub xt x y yt, t, p, af, g⟩ :: os) K :=
  n_val (nm k (a - c)) (by simp [nm, Int.natCast_sub hc]) (o_sub hg hx hy (by rw [← Int.natCast_sub hc]; exact wrapN (by omega))) kk
theorem n_mul {xt yt : TypeId} {x y : Operand} {k : IntKind} (a c : Nat) (hg : Gd ops s g) (hx : ev s x = nm k a) (hy : ev s y = nm k c) (hr : a * c ≤ topOf k)
    (kk : aops C ops ⟨(d, nm k (a * c)) :: s, m⟩ os fun es σ' => K ({ val := nm k (a * c) } :: es) σ') : aops C ops ⟨s, m⟩ (⟨some d, .binOp .mul xt x y yt, t, p, af, g⟩ :: os) K :=
  n_val (nm k (a * c)) (by simp [nm]) (o_mul hg hx hy (by rw [← Int.natCast_mul]; exact wrapN hr)) kk
theorem n_quo {xt yt : TypeId} {x y : Operand} {k : IntKind} (a c : Nat) (hg : Gd ops s g) (hx : ev s x = nm k a) (hy : ev s y = nm k c) (hc : 0 < c) (hr : a / c ≤ topOf k)
    (kk : aops C ops ⟨(d, nm k (a / c)) :: s, m⟩ os fun es σ' => K ({ val := nm k (a / c) } :: es) σ') : aops C ops ⟨s, m⟩ (⟨some d, .binOp .quo xt x y yt, t, p, af, g⟩ :: os) K :=
  n_val (nm k (a / c)) (by simp [nm]) (o_quo hg hx hy (by omega) (by omega) (by rw [← Int.natCast_ediv]; exact wrapN hr)) kk
theorem n_rem {xt yt : TypeId} {x y : Operand} {k : IntKind} (a c : Nat) (hg : Gd ops s g) (hx : ev s x = nm k a) (hy : ev s y = nm k c) (hc : 0 < c)
    (kk : aops C ops ⟨(d, nm k (a % c)) :: s, m⟩ os fun es σ' => K ({ val := nm k (a % c) } :: es) σ') : aops C ops ⟨s, m⟩ (⟨some d, .binOp .rem xt x y yt, t, p, af, g⟩ :: os) K :=
  n_val (nm k (a % c)) (by simp [nm]) (o_rem hg hx hy (by omega) (by omega)) kk
theorem dec_eq {p q : Prop} [Decidable p] [Decidable q] (h : p ↔ q) : decide p = decide q := by simp [h]
def bp (q : Prop) [Decidable q] : AV := .lit (.bool (decide q))
theorem n_eql {xt yt : TypeId} {x y : Operand} {k : IntKind} (a c : Nat) (hg : Gd ops s g) (hx : ev s x = nm k a) (hy : ev s y = nm k c) (kk : aops C ops ⟨(d, bp (a = c)) :: s, m⟩ os fun es σ' => K ({ val := bp (a = c) } :: es) σ') :
    aops C ops ⟨s, m⟩ (⟨some d, .binOp .eql xt x y yt, t, p, af, g⟩ :: os) K := n_val (bp (a = c)) (by unfold bp; rw [dec_eq (p := a = c) (q := (a : Int) = c) (by omega)]) (o_eql hg hx hy) kk
theorem n_neq {xt yt : TypeId} {x y : Operand} {k : IntKind} (a c : Nat) (hg : Gd ops s g) (hx : ev s x = nm k a) (hy : ev s y = nm k c) (kk : aops C ops ⟨(d, bp (a ≠ c)) :: s, m⟩ os fun es σ' => K ({ val := bp (a ≠ c) } :: es) σ') :
    aops C ops ⟨s, m⟩ (⟨some d, .binOp .neq xt x y yt, t, p, af, g⟩ :: os) K := n_val (bp (a ≠ c)) (by unfold bp; rw [dec_eq (p := a ≠ c) (q := (a : Int) ≠ c) (by omega)]) (o_neq hg hx hy) kk
theorem n_lss {xt yt : TypeId} {x y : Operand} {k : IntKind} (a c : Nat) (hg : Gd ops s g) (hx : ev s x = nm k a) (hy : ev s y = nm k c) (kk : aops C ops ⟨(d, bp (a < c)) :: s, m⟩ os fun es σ' => K ({ val := bp (a < c) } :: es) σ') :
    aops C ops ⟨s, m⟩ (⟨some d, .binOp .lss xt x y yt, t, p, af, g⟩ :: os) K := n_val (bp (a < c)) (by unfold bp; rw [dec_eq (p := a < c) (q := (a : Int) < c) (by omega)]) (o_lss hg hx hy) kk
theorem n_leq {xt yt : TypeId} {x y : Operand} {k : IntKind} (a c : Nat) (hg : Gd ops s g) (hx : ev s x = nm k a) (hy : ev s y = nm k c) (kk : aops C ops ⟨(d, bp (a ≤ c)) :: s, m⟩ os fun es σ' => K ({ val := bp (a ≤ c) } :: es) σ') :
    aops C ops ⟨s, m⟩ (⟨some d, .binOp .leq xt x y yt, t, p, af, g⟩ :: os) K := n_val (bp (a ≤ c)) (by unfold bp; rw [dec_eq (p := a ≤ c) (q := (a : Int) ≤ c) (by omega)]) (o_leq hg hx hy) kk
theorem n_gtr {xt yt : TypeId} {x y : Operand} {k : IntKind} (a c : Nat) (hg : Gd ops s g) (hx : ev s x = nm k a) (hy : ev s y = nm k c) (kk : aops C ops ⟨(d, bp (c < a)) :: s, m⟩ os fun es σ' => K ({ val := bp (c < a) } :: es) σ') :
    aops C ops ⟨s, m⟩ (⟨some d, .binOp .gtr xt x y yt, t, p, af, g⟩ :: os) K := n_val (bp (c < a)) (by unfold bp; rw [dec_eq (p := c < a) (q := (c : Int) < a) (by omega)]) (o_gtr hg hx hy) kk
theorem n_geq {xt yt : TypeId} {x y : Operand} {k : IntKind} (a c : Nat) (hg : Gd ops s g) (hx : ev s x = nm k a) (hy : ev s y = nm k c) (kk : aops C ops ⟨(d, bp (c ≤ a)) :: s, m⟩ os fun es σ' => K ({ val := bp (c ≤ a) } :: es) σ') :
    aops C ops ⟨s, m⟩ (⟨some d, .binOp .geq xt x y yt, t, p, af, g⟩ :: os) K := n_val (bp (c ≤ a)) (by unfold bp; rw [dec_eq (p := c ≤ a) (q := (c : Int) ≤ a) (by omega)]) (o_geq hg hx hy) kk
theorem n_conv {src dst : TypeId} {x : Operand} {k k' : IntKind} (a : Nat) (hg : Gd ops s g) (hx : ev s x = nm k a) (hs : tyInt C.P src = some k) (hd : tyInt C.P dst = some k') (hr : a ≤ topOf k') (kk : aops C ops ⟨(d, nm k' a) :: s, m⟩ os fun es σ' => K ({ val := nm k' a } :: es) σ') :
    aops C ops ⟨s, m⟩ (⟨some d, .convert src dst x, t, p, af, g⟩ :: os) K := o_conv hg hx hs hd (wrapN hr) kk
theorem n_max {ty ty' : TypeId} {x y : Operand} (a c : Nat) (hg : Gd ops s g) (hx : ev s x = nm .i64 a) (hy : ev s y = nm .i64 c) (h : ∀ (a c : Int) w, (Builtin.max_ #[ty, ty'] t #[.int .i64 a, .int .i64 c]).run C.P w = .ok (.int .i64 (max a c)) w)
    (kk : aops C ops ⟨(d, nm .i64 (max a c)) :: s, m⟩ os fun es σ' => K ({ val := nm .i64 (max a c) } :: es) σ') :
    aops C ops ⟨s, m⟩ (⟨some d, .call { callee := .builtin .max, args := #[x, y], argTypes := #[ty, ty'] }, t, p, af, g⟩ :: os) K := n_val (nm .i64 (max a c)) (by unfold nm; rw [show ((max a c : Nat) : Int) = max (a : Int) c by omega]) (o_max hg hx hy (h _ _)) kk
theorem n_min {ty ty' : TypeId} {x y : Operand} (a c : Nat) (hg : Gd ops s g) (hx : ev s x = nm .i64 a) (hy : ev s y = nm .i64 c) (h : ∀ (a c : Int) w, (Builtin.min_ #[ty, ty'] t #[.int .i64 a, .int .i64 c]).run C.P w = .ok (.int .i64 (min a c)) w)
    (kk : aops C ops ⟨(d, nm .i64 (min a c)) :: s, m⟩ os fun es σ' => K ({ val := nm .i64 (min a c) } :: es) σ') :
    aops C ops ⟨s, m⟩ (⟨some d, .call { callee := .builtin .min, args := #[x, y], argTypes := #[ty, ty'] }, t, p, af, g⟩ :: os) K := n_val (nm .i64 (min a c)) (by unfold nm; rw [show ((min a c : Nat) : Int) = min (a : Int) c by omega]) (o_min hg hx hy (h _ _)) kk

/-! slices of natural numbers -/
theorem n_len {ty e : TypeId} {x : Operand} {k : IntKind} (xs : List Nat) (hg : Gd ops s g) (ht : C.P.underlying ty = some (.slice e)) (hx : ev s x = .sl 1 (ns k xs)) (kk : aops C ops ⟨(d, nm .i64 xs.length) :: s, m⟩ os fun es σ' => K ({ val := nm .i64 xs.length } :: es) σ') :
    aops C ops ⟨s, m⟩ (⟨some d, .call { callee := .builtin .len, args := #[x], argTypes := #[ty] }, t, p, af, g⟩ :: os) K := o_lenSl xs.length hg ht hx (by simp [ns]) kk
theorem n_lenRow {ty e e' : TypeId} {x : Operand} {id : Nat} {k : IntKind} (xs : List Nat) (hg : Gd ops s g) (ht : C.P.underlying ty = some (.slice e)) (hx : ev s x = .row id) (ho : lookO m id = some (.row e' 1 (ns k xs))) (kk : aops C ops ⟨(d, nm .i64 xs.length) :: s, m⟩ os fun es σ' => K ({ val := nm .i64 xs.length, use := [id] } :: es) σ') :
    aops C ops ⟨s, m⟩ (⟨some d, .call { callee := .builtin .len, args := #[x], argTypes := #[ty] }, t, p, af, g⟩ :: os) K := o_lenRow xs.length hg ht hx ho (by simp [ns]) kk
theorem n_index {ty : TypeId} {x y : Operand} {e by' : Nat} {k kk' : IntKind} (xs : List Nat) (i : Nat) (hg : Gd ops s g) (ht : tyElem C.P ty = some (e, 1, by')) (hx : ev s x = .sl 1 (ns k xs)) (hy : ev s y = nm kk' i) (h1 : i < xs.length)
    (kk : aops C ops ⟨(d, .ip ((ns k xs).drop i)) :: s, m⟩ os fun es σ' => K ({ val := .ip ((ns k xs).drop i) } :: es) σ') : aops C ops ⟨s, m⟩ (⟨some d, .indexAddr ty x y, t, p, af, g⟩ :: os) K :=
  o_index1 (i := (i : Int)) hg ht hx hy (by omega) (by simpa [ns] using h1) kk
theorem n_indexRow {ty : TypeId} {x y : Operand} {e e' id by' : Nat} {k kk' : IntKind} (xs : List Nat) (i : Nat) (hg : Gd ops s g) (ht : tyElem C.P ty = some (e, 1, by')) (hx : ev s x = .row id) (ho : lookO m id = some (.row e' 1 (ns k xs))) (hy : ev s y = nm kk' i) (h1 : i < xs.length)
    (kk : aops C ops ⟨(d, .ref id i) :: s, m⟩ os fun es σ' => K ({ val := .ref id i, use := [id] } :: es) σ') : aops C ops ⟨s, m⟩ (⟨some d, .indexAddr ty x y, t, p, af, g⟩ :: os) K :=
  o_indexRow1 (i := (i : Int)) hg ht hx ho hy (by omega) (by simpa [ns] using h1) kk
theorem n_loadI {ty : TypeId} {x : Operand} {k : IntKind} (xs : List Nat) (i : Nat) (hg : Gd ops s g) (ht : tySc C.P ty = true) (hx : ev s x = .ip ((ns k xs).drop i)) (h1 : i < xs.length)
    (kk : aops C ops ⟨(d, nm k (xs.getD i 0)) :: s, m⟩ os fun es σ' => K ({ val := nm k (xs.getD i 0) } :: es) σ') : aops C ops ⟨s, m⟩ (⟨some d, .load ty x, t, p, af, g⟩ :: os) K :=
  o_loadIS _ hg ht hx (dropMap0 0 h1) kk
theorem n_loadRow {ty : TypeId} {x : Operand} {id e' : Nat} {k : IntKind} (xs : List Nat) (i : Nat) (hg : Gd ops s g) (ht : tySc C.P ty = true) (hx : ev s x = .ref id i) (ho : lookO m id = some (.row e' 1 (ns k xs))) (h1 : i < xs.length)
    (kk : aops C ops ⟨(d, nm k (xs.getD i 0)) :: s, m⟩ os fun es σ' => K ({ val := nm k (xs.getD i 0), use := [id] } :: es) σ') : aops C ops ⟨s, m⟩ (⟨some d, .load ty x, t, p, af, g⟩ :: os) K :=
  o_loadS _ hg ht hx ho (getMap 0 h1) kk
theorem n_storeRow {ty : TypeId} {x y : Operand} {id e' : Nat} {k : IntKind} (xs : List Nat) (i v : Nat) (m' : List (Nat × AO)) (hg : Gd ops s g) (ht : tySize C.P ty = some 1) (hx : ev s x = .ref id i) (ho : lookO m id = some (.row e' 1 (ns k xs))) (hy : ev s y = nm k v) (h1 : i < xs.length)
    (hm : setO m id (.row e' 1 (ns k (xs.set i v))) = m') (kk : aops C ops ⟨s, m'⟩ os fun es σ' => K ({ val := .any, upd := [(id, some (.row e' 1 (ns k (xs.set i v))))], use := [id] } :: es) σ') : aops C ops ⟨s, m⟩ (⟨none, .store ty x y, t, p, af, g⟩ :: os) K :=
  o_storeRow (new := [nm k v]) (ns k (xs.set i v)) m' hg ht hx ho (by rw [hy]; rfl) rfl rfl (by simp [ns]; omega) (overMap (f := nm k) h1) hm kk
theorem n_append {ty : TypeId} {a x : Operand} {e by' : Nat} {z : List Value} {id i e' : Nat} {k : IntKind} (id' : Nat) (xs ys : List Nat) (m' : List (Nat × AO)) (hg : Gd ops s g) (ht : tyElem C.P ty = some (e, 1, by')) (hz : tyZero C.P e = some z) (hzl : z.length = 1)
    (hs : ev s a = .row id) (ho : lookO m id = some (.row e 1 (ns k xs))) (hx : ev s x = .row i) (hi : lookO m i = some (.row e' 1 (ns k ys))) (hb : (xs.length + ys.length) * by' ≤ 140737488355328) (hby : 0 < by')
    (hf : St.freshB ⟨s, m⟩ id' = true) (hm : delO m id = m') (kk : aops C ops ⟨(d, .row id') :: s, (id', .row e 1 (ns k (xs ++ ys))) :: m'⟩ os fun es σ' => K ({ val := .row id', upd := [(id', some (.row e 1 (ns k (xs ++ ys)))), (id, none)], use := [id, i], fresh := [id'] } :: es) σ') :
    aops C ops ⟨s, m⟩ (⟨some d, .call { callee := .builtin .append, args := #[a, x], argTypes := #[ty, ty] }, t, p, af, g⟩ :: os) K :=
  o_append id' (ns k ys) (ns k (xs ++ ys)) [id, i] m' hg ht rfl hz hzl hs ho (.inr ⟨i, e', hx, hi, rfl⟩) (by simp only [ns_len, Nat.div_one]; exact hb) (by simp only [ns_len]; have := Nat.le_mul_of_pos_right (xs.length + ys.length) hby; omega) (by simp [ns]) hf hm kk
theorem n_appendSl {ty : TypeId} {a x : Operand} {e by' : Nat} {z : List Value} {id : Nat} {k : IntKind} (id' : Nat) (xs ys : List Nat) (m' : List (Nat × AO)) (hg : Gd ops s g) (ht : tyElem C.P ty = some (e, 1, by')) (hz : tyZero C.P e = some z) (hzl : z.length = 1)
    (hs : ev s a = .row id) (ho : lookO m id = some (.row e 1 (ns k xs))) (hx : ev s x = .sl 1 (ns k ys)) (hb : (xs.length + ys.length) * by' ≤ 140737488355328) (hby : 0 < by')
    (hf : St.freshB ⟨s, m⟩ id' = true) (hm : delO m id = m') (kk : aops C ops ⟨(d, .row id') :: s, (id', .row e 1 (ns k (xs ++ ys))) :: m'⟩ os fun es σ' => K ({ val := .row id', upd := [(id', some (.row e 1 (ns k (xs ++ ys)))), (id, none)], use := [id], fresh := [id'] } :: es) σ') :
    aops C ops ⟨s, m⟩ (⟨some d, .call { callee := .builtin .append, args := #[a, x], argTypes := #[ty, ty] }, t, p, af, g⟩ :: os) K :=
  o_append id' (ns k ys) (ns k (xs ++ ys)) [id] m' hg ht rfl hz hzl hs ho (.inl ⟨hx, rfl⟩) (by simp only [ns_len, Nat.div_one]; exact hb) (by simp only [ns_len]; have := Nat.le_mul_of_pos_right (xs.length + ys.length) hby; omega) (by simp [ns]) hf hm kk
theorem n_make {ty : TypeId} {x y : Operand} {e by' : Nat} {k kk kk' : IntKind} (id c : Nat) (hg : Gd ops s g) (ht : tyElem C.P ty = some (e, 1, by')) (hz : tyZero C.P e = some [.int k 0]) (hx : ev s x = nm kk c) (hy : ev s y = nm kk' c) (hb : by' * c ≤ 140737488355328) (hby : Nat.blt 0 by' = true) (hf : St.freshB ⟨s, m⟩ id = true)
    (kk : aops C ops ⟨(d, .row id) :: s, (id, .row e 1 (ns k (List.replicate c 0))) :: m⟩ os fun es σ' => K ({ val := .row id, upd := [(id, some (.row e 1 (ns k (List.replicate c 0))))], fresh := [id] } :: es) σ') : aops C ops ⟨s, m⟩ (⟨some d, .makeSlice ty x y, t, p, af, g⟩ :: os) K := by
  have e1 : ns k (List.replicate c 0) = List.replicate c (.lit (.int k 0)) := by simp [ns, nm]
  rw [e1] at kk
  exact o_makeN (c := (c : Int)) id hg ht hz rfl hx hy (by omega) (by simpa using hb) hby hf (by simpa using kk)
theorem n_make0 {ty : TypeId} {x y : Operand} {e by' : Nat} {z : List Value} {kk kk' : IntKind} (k : IntKind) (id c : Nat) (hg : Gd ops s g) (ht : tyElem C.P ty = some (e, 1, by')) (hz : tyZero C.P e = some z) (hx : ev s x = nm kk 0) (hy : ev s y = nm kk' c) (hb : by' * c ≤ 281474976710656) (hm : c ≤ 9223372036854775807) (hf : St.freshB ⟨s, m⟩ id = true)
    (kk : aops C ops ⟨(d, .row id) :: s, (id, .row e 1 (ns k [])) :: m⟩ os fun es σ' => K ({ val := .row id, upd := [(id, some (.row e 1 (ns k [])))], fresh := [id] } :: es) σ') : aops C ops ⟨s, m⟩ (⟨some d, .makeSlice ty x y, t, p, af, g⟩ :: os) K :=
  o_make0 (c := (c : Int)) id hg ht rfl hz hx hy (by omega) (by simpa using hb) (by omega) hf kk
theorem n_slice {ty : TypeId} {x : Operand} {lo hi mx : Option Operand} {e by' : Nat} {k : IntKind} (xs : List Nat) (l h : Nat) (hg : Gd ops s g) (ht : tyElem C.P ty = some (e, 1, by')) (hx : ev s x = .sl 1 (ns k xs))
    (hlo : (St.sem ⟨s, m⟩).loOk lo l) (hhi : (St.sem ⟨s, m⟩).hiOk hi xs.length h) (hmx : (St.sem ⟨s, m⟩).mxOk mx hi.isSome h) (h1 : l ≤ h) (h2 : h ≤ xs.length)
    (kk : aops C ops ⟨(d, .sl 1 (ns k ((xs.drop l).take (h - l)))) :: s, m⟩ os fun es σ' => K ({ val := .sl 1 (ns k ((xs.drop l).take (h - l))) } :: es) σ') : aops C ops ⟨s, m⟩ (⟨some d, .slice ty x lo hi mx, t, p, af, g⟩ :: os) K :=
  o_slice l h _ hg ht hx (by simp [ns]) hlo hhi hmx h1 h2 (by simp [ns, List.map_take, List.map_drop]) kk
theorem n_sliceX {ty : TypeId} {x : Operand} {lo hi mx : Option Operand} {e by' : Nat} {k : IntKind} (xs : List Nat) (l h : Nat) (hg : Gd ops s g) (ht : tyElem C.P ty = some (e, 1, by')) (hx : ev s x = .sl 1 (ns k xs))
    (hlo : (St.sem ⟨s, m⟩).loOk lo l) (hhi : (St.sem ⟨s, m⟩).hiOk hi xs.length h) (hmx : (St.sem ⟨s, m⟩).mxOk mx hi.isSome h) (hs : mx.isSome = true) (h1 : l ≤ h) (h2 : h ≤ xs.length)
    (kk : aops C ops ⟨(d, .slc 1 (ns k ((xs.drop l).take (h - l))) (h - l)) :: s, m⟩ os fun es σ' => K ({ val := .slc 1 (ns k ((xs.drop l).take (h - l))) (h - l) } :: es) σ') : aops C ops ⟨s, m⟩ (⟨some d, .slice ty x lo hi mx, t, p, af, g⟩ :: os) K :=
  o_sliceX l h _ hg ht hx (by simp [ns]) hlo hhi hmx hs h1 h2 (by simp [ns, List.map_take, List.map_drop]) kk
end
theorem n_bnd {k : IntKind} {xs : List Nat} {c : Nat} (h : (ns k xs).length ≤ c) : xs.length ≤ c := by rwa [ns_len] at h

theorem LeL.refl : ∀ (xs : List AV), LeL xs xs
  | [] => .nil
  | x :: xs => .cons (AV.le_refl x) (LeL.refl xs)
theorem ECalls.le {C : Ctx} {f : FuncId} {as as' : List AV} {res : AV} (h : ECalls C f as' res) (hl : LeL as as') : ECalls C f as res := fun H L vals w hG hH hr => h H L vals w hG hH (hl.rep hr)
theorem AV.le_sl {sz : Nat} {xs ys : List AV} (hxy : ys = xs) : AV.le (.sl sz xs) (.sl sz ys) := by subst hxy; exact AV.le_refl _
theorem AV.le_nil' {sz : Nat} {xs : List AV} (h : 0 < sz) (e : xs = []) : AV.le (.lit (.slice none 0 0)) (.sl sz xs) := by subst e; exact AV.le_nil h
theorem AV.le_eq {x y : AV} (h : x = y) : x.le y := by subst h; exact AV.le_refl _
def rowsOk (m : List (Nat × AO)) : List (Nat × Nat × List AV) → Prop
  | [] => True
  | (id, sz, cs) :: r => (∃ e, lookO m id = some (.row e sz cs)) ∧ rowsOk m r
theorem rowsOk_spec {s : List (Nat × AV)} {m : List (Nat × AO)} : ∀ {us : List (Nat × Nat × List AV)}, rowsOk m us → ∀ p ∈ us, ∃ e, (St.sem ⟨s, m⟩).μ p.1 = some (.row e p.2.1 p.2.2)
  | [], _, p, hp => by cases hp
  | (id, sz, cs) :: us, h, p, hp => by
    rcases List.mem_cons.1 hp with e | e
    · subst e; exact h.1
    · exact rowsOk_spec h.2 p e
def nodB : List Nat → Bool
  | [] => true
  | x :: xs => (xs.all fun y => !Nat.beq x y) && nodB xs
theorem nodB_spec : ∀ {l : List Nat}, nodB l = true → l.Nodup
  | [], _ => List.nodup_nil
  | x :: xs, h => by
    simp only [nodB, Bool.and_eq_true] at h
    refine List.nodup_cons.2 ⟨fun hm => ?_, nodB_spec h.2⟩
    have := List.all_eq_true.1 h.1 x hm
    simp at this
def delAll (m : List (Nat × AO)) : List (Nat × Nat × List AV) → List (Nat × AO)
  | [] => m
  | p :: r => delO (delAll m r) p.1
theorem lookO_delAll (m : List (Nat × AO)) (j : Nat) : ∀ us, lookO (delAll m us) j = if j ∈ us.map (·.1) then none else lookO m j
  | [] => by simp [delAll]
  | p :: us => by
    simp only [delAll, lookO_del, lookO_delAll m j us, List.map_cons, List.mem_cons]
    by_cases h1 : j = p.1 <;> by_cases h2 : j ∈ us.map (·.1) <;> simp only [h1, h2, if_true, if_false, true_or, or_true, or_false]
section
variable {C : Ctx} {ops : Array Oper} {s : List (Nat × AV)} {m : List (Nat × AO)} {os : List Oper} {K : List Eff → St → Prop} {d : Nat} {t : TypeId} {p : String} {af : Array Edge} {g : Option (Nat × Bool)}
/-- A call, with rows that are let go, of a function or a function's value. -/
theorem o_callG {y : Operand} {f : FuncId} {args : Array Operand} {tys : Array TypeId} {caps : List AV} (us : List (Nat × Nat × List AV)) (as as' : List AV) (res : AV) (m' : List (Nat × AO)) (hg : Gd ops s g) (hb : callable C.P f = true) (hy : ev s y = .clo f caps) (hu : rowsOk m us) (hnd : nodB (us.map (·.1)) = true)
    (ha : frzAll us (evs s args.toList ++ caps) = as) (hl : LeL as as') (hc : ECalls C f as' res) (hm : delAll m us = m') (k : aops C ops ⟨(d, res) :: s, m'⟩ os fun es σ' => K ({ val := res, use := us.map (·.1), upd := us.map fun p => (p.1, none) } :: es) σ') :
    aops C ops ⟨s, m⟩ (⟨some d, .call { callee := .value y, args := args, argTypes := tys }, t, p, af, g⟩ :: os) K := by
  subst hm
  refine o_mem hg (.callG y f args tys caps us as res rfl (by rw [ev_st]; exact hy) (callable_spec hb).1 (callable_spec hb).2 (rowsOk_spec hu) (nodB_spec hnd) (by rw [evs_st]; exact ha) (hc.le hl)) rfl ?_ k
  unfold St.app St.sem
  congr 1
  funext j
  rw [lookO_delAll]
  show lookO (appU _ m) j = _
  rw [lookO_app, lkU_drop]
  by_cases hj : j ∈ us.map (·.1) <;> simp only [hj, if_true, if_false]
/-- A call that looks at own rows and hands back a plain value: the rows stay the caller's. -/
theorem o_callB {y : Operand} {f : FuncId} {args : Array Operand} {tys : Array TypeId} {caps : List AV} (us : List (Nat × Nat × List AV)) (as as' : List AV) (u : Value) (hg : Gd ops s g) (hb : callable C.P f = true) (hy : ev s y = .clo f caps) (hu : rowsOk m us) (hnd : nodB (us.map (·.1)) = true)
    (ha : frzAll us (evs s args.toList ++ caps) = as) (hl : LeL as as') (hc : ECalls C f as' (.lit u)) (k : aops C ops ⟨(d, .lit u) :: s, m⟩ os fun es σ' => K ({ val := .lit u, use := us.map (·.1) } :: es) σ') :
    aops C ops ⟨s, m⟩ (⟨some d, .call { callee := .value y, args := args, argTypes := tys }, t, p, af, g⟩ :: os) K :=
  o_val hg (.callB y f args tys caps us as u rfl (by rw [ev_st]; exact hy) (callable_spec hb).1 (callable_spec hb).2 (rowsOk_spec hu) (nodB_spec hnd) (by rw [evs_st]; exact ha) (hc.le hl)) k
theorem n_as {v v' : AV} (e : v = v') (k : aops C ops ⟨(d, v') :: s, m⟩ os K) : aops C ops ⟨(d, v) :: s, m⟩ os K := by subst e; exact k
theorem lo_nm {k : IntKind} {y : Operand} {l : Nat} (h : ev s y = nm k l) : (St.sem ⟨s, m⟩).loOk (some y) l := ⟨k, (l : Int), by rw [ev_st]; exact h, by omega, by omega⟩
theorem hi_nm {k : IntKind} {y : Operand} {n l : Nat} (h : ev s y = nm k l) : (St.sem ⟨s, m⟩).hiOk (some y) n l := ⟨k, (l : Int), by rw [ev_st]; exact h, by omega, by omega⟩
theorem mx_nm {k : IntKind} {y : Operand} {l : Nat} (h : ev s y = nm k l) : (St.sem ⟨s, m⟩).mxOk (some y) true l := ⟨k, (l : Int), by rw [ev_st]; exact h, by omega, by omega, rfl⟩
/-- The byte of a string. -/
def byt (a : ByteArray) (i : Nat) : Nat := (a.data.toList.getD i 0).toNat
theorem byt_lt (a : ByteArray) (i : Nat) : byt a i < 256 := (a.data.toList.getD i 0).toNat_lt
theorem n_indexS {ty : TypeId} {x y : Operand} {kk : IntKind} (a : ByteArray) (i : Nat) (hg : Gd ops s g) (ht : C.P.underlying ty = some .string) (hx : ev s x = .lit (.string a)) (hy : ev s y = nm kk i) (h1 : i < a.size)
    (k : aops C ops ⟨(d, nm .u8 (byt a i)) :: s, m⟩ os fun es σ' => K ({ val := nm .u8 (byt a i) } :: es) σ') : aops C ops ⟨s, m⟩ (⟨some d, .index ty x y, t, p, af, g⟩ :: os) K :=
  o_indexS (i := (i : Int)) (byt a i : Nat) hg ht hx hy (by omega) (by simpa using h1) rfl k
theorem n_lenS {ty : TypeId} {x : Operand} (a : ByteArray) (hg : Gd ops s g) (hx : ev s x = .lit (.string a)) (hs : C.P.underlying ty = some .string) (kk : aops C ops ⟨(d, nm .i64 a.size) :: s, m⟩ os fun es σ' => K ({ val := nm .i64 a.size } :: es) σ') :
    aops C ops ⟨s, m⟩ (⟨some d, .call { callee := .builtin .len, args := #[x], argTypes := #[ty] }, t, p, af, g⟩ :: os) K := o_lenS hg hx hs kk
/-- A piece of a string. -/
theorem n_sliceSLH {ty : TypeId} {x y z : Operand} {k k' : IntKind} (a : ByteArray) (l h : Nat) (hg : Gd ops s g) (ht : C.P.underlying ty = some .string) (hx : ev s x = .lit (.string a)) (hy : ev s y = nm k l) (hz : ev s z = nm k' h) (h1 : l ≤ h) (h2 : h ≤ a.size)
    (kk : aops C ops ⟨(d, .lit (.string (a.extract l h))) :: s, m⟩ os fun es σ' => K ({ val := .lit (.string (a.extract l h)) } :: es) σ') : aops C ops ⟨s, m⟩ (⟨some d, .slice ty x (some y) (some z) none, t, p, af, g⟩ :: os) K :=
  o_val hg (.pure _ fun ρ hρ w => by
    have e1 := hρ x (by simp [Op.operands]) _ (by rw [ev_st]; exact hx)
    have e2 := hρ y (by simp [Op.operands]) _ (by rw [ev_st]; exact hy)
    have e3 := hρ z (by simp [Op.operands]) _ (by rw [ev_st]; exact hz)
    have i1 : (0 : Int) ≤ (h : Int) ∧ (h : Int) ≤ (a.size : Int) := by omega
    have i2 : (0 : Int) ≤ (l : Int) ∧ (l : Int) ≤ (h : Int) := by omega
    simp [execOp, e1, e2, e3, Instr.sliceAt, Instr.slice, run_underlying ht, Instr.sliceBounds, Instr.sliceBound, asIntOf, i1, i2, h1, h2]) kk
theorem n_sliceSL {ty : TypeId} {x y : Operand} {k : IntKind} (a : ByteArray) (l h : Nat) (hg : Gd ops s g) (ht : C.P.underlying ty = some .string) (hx : ev s x = .lit (.string a)) (hy : ev s y = nm k l) (h1 : l ≤ h) (h2 : h = a.size)
    (kk : aops C ops ⟨(d, .lit (.string (a.extract l h))) :: s, m⟩ os fun es σ' => K ({ val := .lit (.string (a.extract l h)) } :: es) σ') : aops C ops ⟨s, m⟩ (⟨some d, .slice ty x (some y) none none, t, p, af, g⟩ :: os) K :=
  o_val hg (.pure _ fun ρ hρ w => by
    have e1 := hρ x (by simp [Op.operands]) _ (by rw [ev_st]; exact hx)
    have e2 := hρ y (by simp [Op.operands]) _ (by rw [ev_st]; exact hy)
    have i2 : (0 : Int) ≤ (l : Int) ∧ (l : Int) ≤ (a.size : Int) := by omega
    subst h2
    simp [execOp, e1, e2, Instr.sliceAt, Instr.slice, run_underlying ht, Instr.sliceBounds, Instr.sliceBound, asIntOf, i2, h1]) kk
theorem o_convW {src dst : TypeId} {x : Operand} {k k' : IntKind} {a : Int} (hg : Gd ops s g) (hx : ev s x = .lit (.int k a)) (hs : tyInt C.P src = some k) (hd : tyInt C.P dst = some k') (kk : aops C ops ⟨(d, .lit (.int k' (k'.wrap a))) :: s, m⟩ os fun es σ' => K ({ val := .lit (.int k' (k'.wrap a)) } :: es) σ') :
    aops C ops ⟨s, m⟩ (⟨some d, .convert src dst x, t, p, af, g⟩ :: os) K := o_pure1 rfl hg hx (fun ρ h1 w => by
      have u1 : C.P.underlying src = some (.int k) := by
        unfold tyInt at hs
        cases hu : C.P.underlying src with
        | none => simp [hu] at hs
        | some dd => cases dd <;> simp [hu] at hs; subst hs; rfl
      have u2 : C.P.underlying dst = some (.int k') := by
        unfold tyInt at hd
        cases hu : C.P.underlying dst with
        | none => simp [hu] at hd
        | some dd => cases dd <;> simp [hu] at hd; subst hd; rfl
      simp [execOp, h1, convert, run_underlying u1, run_underlying u2, Conv.intToInt]) kk
theorem o_negW {xt : TypeId} {x : Operand} {k : IntKind} {a : Int} (hg : Gd ops s g) (hx : ev s x = .lit (.int k a)) (kk : aops C ops ⟨(d, .lit (.int k (k.wrap (-a)))) :: s, m⟩ os fun es σ' => K ({ val := .lit (.int k (k.wrap (-a))) } :: es) σ') :
    aops C ops ⟨s, m⟩ (⟨some d, .unOp .neg xt x, t, p, af, g⟩ :: os) K := o_pure1 rfl hg hx (fun ρ h1 w => by simp [execOp, h1, Op.unary, Op.intArith]) kk
theorem i_len {ty e : TypeId} {x : Operand} {k : IntKind} (xs : List Int) (hg : Gd ops s g) (ht : C.P.underlying ty = some (.slice e)) (hx : ev s x = .sl 1 (is k xs)) (kk : aops C ops ⟨(d, nm .i64 xs.length) :: s, m⟩ os fun es σ' => K ({ val := nm .i64 xs.length } :: es) σ') :
    aops C ops ⟨s, m⟩ (⟨some d, .call { callee := .builtin .len, args := #[x], argTypes := #[ty] }, t, p, af, g⟩ :: os) K := o_lenSl xs.length hg ht hx (by simp [is]) kk
theorem i_index {ty : TypeId} {x y : Operand} {e by' : Nat} {k kk' : IntKind} (xs : List Int) (i : Nat) (hg : Gd ops s g) (ht : tyElem C.P ty = some (e, 1, by')) (hx : ev s x = .sl 1 (is k xs)) (hy : ev s y = nm kk' i) (h1 : i < xs.length)
    (kk : aops C ops ⟨(d, .ip ((is k xs).drop i)) :: s, m⟩ os fun es σ' => K ({ val := .ip ((is k xs).drop i) } :: es) σ') : aops C ops ⟨s, m⟩ (⟨some d, .indexAddr ty x y, t, p, af, g⟩ :: os) K :=
  o_index1 (i := (i : Int)) hg ht hx hy (by omega) (by simpa [is] using h1) kk
theorem i_loadI {ty : TypeId} {x : Operand} {k : IntKind} (xs : List Int) (i : Nat) (hg : Gd ops s g) (ht : tySc C.P ty = true) (hx : ev s x = .ip ((is k xs).drop i)) (h1 : i < xs.length)
    (kk : aops C ops ⟨(d, .lit (.int k (xs.getD i 0))) :: s, m⟩ os fun es σ' => K ({ val := .lit (.int k (xs.getD i 0)) } :: es) σ') : aops C ops ⟨s, m⟩ (⟨some d, .load ty x, t, p, af, g⟩ :: os) K :=
  o_loadIS (im k (xs.getD i 0)) hg ht hx (dropMap0 0 h1) kk
theorem n_appendS {ty tu : TypeId} {a x : Operand} {e id : Nat} (id' : Nat) (xs : List Nat) (str : ByteArray) (m' : List (Nat × AO)) (hg : Gd ops s g) (ht : tyElem C.P ty = some (e, 1, 1)) (hus : C.P.underlying tu = some .string) (hz : tyZ1 C.P e = some (.int .u8 0))
    (hs : ev s a = .row id) (ho : lookO m id = some (.row e 1 (ns .u8 xs))) (hx : ev s x = .lit (.string str)) (hb : xs.length + str.size ≤ 140737488355328) (hf : St.freshB ⟨s, m⟩ id' = true) (hm : delO m id = m')
    (kk : aops C ops ⟨(d, .row id') :: s, (id', .row e 1 (ns .u8 (xs ++ byts str))) :: m'⟩ os fun es σ' => K ({ val := .row id', upd := [(id', some (.row e 1 (ns .u8 (xs ++ byts str)))), (id, none)], use := [id], fresh := [id'] } :: es) σ') :
    aops C ops ⟨s, m⟩ (⟨some d, .call { callee := .builtin .append, args := #[a, x], argTypes := #[ty, tu] }, t, p, af, g⟩ :: os) K := by
  have hne : id' ≠ id := fun e => by subst e; rw [lookO_none_of_fr hf] at ho; cases ho
  have e1 : ns .u8 xs ++ (Lib.strCells str).map AV.lit = ns .u8 (xs ++ byts str) := by rw [strCells_ns]; simp [ns]
  have hst := Step.appendS (C := C) (S := St.sem ⟨s, m⟩) (o := ⟨some d, .call { callee := .builtin .append, args := #[a, x], argTypes := #[ty, tu] }, t, p, af, g⟩) ty tu a x e id id' (ns .u8 xs) str rfl ht hus hz (by rw [ev_st]; exact hs) ho (by rw [ev_st]; exact hx) (by rw [ns_len]; exact hb)
  rw [e1] at hst
  exact o_mem hg hst (by simp [hf]) (sem_append m' hm hne) kk
theorem n_strOf {ty ty' : TypeId} {x : Operand} {id e : Nat} (xs : List Nat) (hg : Gd ops s g) (ht : C.P.underlying ty = some (.slice e)) (he : C.P.underlying e = some (.int .u8)) (ht' : C.P.underlying ty' = some .string) (hx : ev s x = .row id) (ho : lookO m id = some (.row e 1 (ns .u8 xs)))
    (k : aops C ops ⟨(d, .lit (.string (strN xs))) :: s, m⟩ os fun es σ' => K ({ val := .lit (.string (strN xs)), use := [id] } :: es) σ') : aops C ops ⟨s, m⟩ (⟨some d, .convert ty ty' x, t, p, af, g⟩ :: os) K :=
  o_strOf (xs.map fun (x : Nat) => (x : Int)) hg ht he ht' hx ho (by simp [ns, nm]) k
/-- An error that is nil. -/
theorem o_neqNil {xt yt : TypeId} {x : Operand} {ms : Array (String × TypeId)} (hg : Gd ops s g) (hx : ev s x = .lit .nilIface) (ht : C.P.underlying xt = some (.interface ms)) (kk : aops C ops ⟨(d, .lit (.bool false)) :: s, m⟩ os fun es σ' => K ({ val := .lit (.bool false) } :: es) σ') :
    aops C ops ⟨s, m⟩ (⟨some d, .binOp .neq xt x (.const .nilIface) yt, t, p, af, g⟩ :: os) K :=
  o_val hg (.pure _ fun ρ hρ w => by
    have e1 := hρ x (by simp [Op.operands]) _ (by rw [ev_st]; exact hx)
    have e2 := hρ (.const .nilIface) (by simp [Op.operands]) .nilIface rfl
    have eg : (eqGuard .neq xt x (.const .nilIface) .nilIface .nilIface).run C.P w = .ok () w := by
      unfold eqGuard; cases x <;> rfl
    have eq : (Op.equal xt .nilIface .nilIface).run C.P w = .ok true w := by
      simp only [Op.equal, Op.maxDepth]
      rw [Op.equalIn]
      simp only [Sem.run_bind, run_underlying ht, Result.andThen_ok]
      rfl
    have eb : (binOp .neq xt .nilIface .nilIface).run C.P w = .ok (.bool false) w := by
      simp only [binOp, Sem.run_bind, eq, Result.andThen_ok, Sem.run_pure]
      rfl
    simp only [execOp, e1, e2, Sem.run_bind, eg, Result.andThen_ok, eb, Sem.run_pure]) kk
/-- Both ways of whatever is told apart. -/
theorem aops_em {σ : St} (q : Prop) [Decidable q] (h1 : q → aops C ops σ os K) (h2 : ¬ q → aops C ops σ os K) : aops C ops σ os K := if h : q then h1 h else h2 h
end
end Go.Ab
