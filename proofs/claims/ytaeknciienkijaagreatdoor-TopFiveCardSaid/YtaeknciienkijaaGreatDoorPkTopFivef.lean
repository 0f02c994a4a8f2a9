/- The law 'katabasistop.TopFive' is true (it has no input): by Collatz's map exactly five cycles have at most 14 numbers, those of 0, 1, -1, -5 and -17, and each number from 1 to 3000 comes to 1. Its condition: none but the row's own (the listed tables of the library). -/
import Derived.Scope
import Derived.Test.YtaeknciienkijaaGreatDoorPkTopFivee
set_option linter.unusedVariables false
set_option linter.unusedSimpArgs false
namespace Go.Ab
open Go.RowKit
theorem bbeq (b c : ByteArray) : (b == c) = decide (b = c) := by
 cases b with | mk x => cases c with | mk y =>
 show ByteArray.beq ⟨x⟩ ⟨y⟩ = _
 rw [ByteArray.beq]
 by_cases h : x = y
 ·subst h; simp
 ·simp [h]
section
variable {P : Program} {w : World}
theorem run_zv {t : TypeId} {z : Value} (h : tyZ1 P t = some z) : (zeroValue t).run P w = .ok z w := by
 unfold tyZ1 at h
 split at h
 ·rename_i i hi
  simp [zeroValue, typeInfo, hi, h]
 ·cases h
def lkV (r : Option (Nat × Value)) (z : Value) : Value := match r with
 | some (_, v) => v
 | none => z
theorem run_checkN {k : TypeId} (hk : P.underlying k = some .string) (b : Bool) (s : ByteArray) (m : Nat) : (Instr.checkKey b (m + 1) k (.string s)).run P w = .ok () w := by
 rw [Instr.checkKey]
 simp only [Sem.run_bind, run_underlying hk, Result.andThen_ok, Sem.run_pure]
theorem run_checkS {k : TypeId} (hk : P.underlying k = some .string) (b : Bool) (s : ByteArray) : (Instr.checkKey b 10000 k (.string s)).run P w = .ok () w := run_checkN hk b s 9999
theorem sameS (b : ByteArray) (m : Nat) : Instr.sameBits (m + 1) (.string b) (.string b) = true := by
 rw [Instr.sameBits, bbeq]
 simp
theorem run_findS {k : TypeId} {es : Array MapEntry} {b : ByteArray} {r : Option (Nat × Value)} (hk : P.underlying k = some .string) (hf : Instr.findNow .string (.string b) es.toList 0 = some r) : (Instr.findKey k (.string b) es.toList).run P w = .ok r w := by
 simp only [Instr.findKey, Sem.run_bind, run_underlying hk, Result.andThen_ok, hf, Sem.run_pure]
theorem run_lookS {t k e g : Nat} {es : Array MapEntry} {clock : Nat} {b : ByteArray} {ok : Bool} {r : Option (Nat × Value)} {z : Value} (ht : P.underlying t = some (.map k e)) (hk : P.underlying k = some .string) (hz : tyZ1 P e = some z) (hh : w.heap[g]? = some (.map es clock)) (hf : Instr.findNow .string (.string b) es.toList 0 = some r) :
  (Instr.lookup t (.map (some g)) (.string b) ok).run P w = .ok (if ok then .tuple #[lkV r z, .bool r.isSome] else lkV r z) w := by
 have hg : (getObj g).run P w = .ok (.map es clock) w := by simp [getObj, Sem.run, hh]
 simp only [Instr.lookup, Sem.run_bind, run_underlying ht, Result.andThen_ok, hg, Sem.run_pure, run_checkS hk, run_findS hk hf]
 cases r with
 | none => simp only [run_zv hz, Sem.run_bind, Sem.run_pure, Result.andThen_ok]; rfl
 | some p => obtain ⟨i, v⟩ := p; simp only [Sem.run_pure, Result.andThen_ok]; rfl
theorem run_updNew {t k e g : Nat} {es : Array MapEntry} {clock : Nat} {b : ByteArray} {v : Value} (ht : P.underlying t = some (.map k e)) (hk : P.underlying k = some .string) (hh : w.heap[g]? = some (.map es clock)) (hf : Instr.findNow .string (.string b) es.toList 0 = some none) :
  (Instr.mapUpdate t (.map (some g)) (.string b) v).run P w = .ok () { w with heap := w.heap.setIfInBounds g (.map (es.push ⟨.string b, v, clock⟩) (clock + 1)) } := by
 have hg : (getObj g).run P w = .ok (.map es clock) w := by simp [getObj, Sem.run, hh]
 simp only [Instr.mapUpdate, Sem.run_bind, run_underlying ht, Result.andThen_ok, hg, Sem.run_pure, run_checkS hk, run_findS hk hf]
 simp [setObj, Sem.run, hh]
theorem run_updOld {t k e g i : Nat} {es : Array MapEntry} {clock br : Nat} {b : ByteArray} {v v0 v1 : Value} (ht : P.underlying t = some (.map k e)) (hk : P.underlying k = some .string) (hh : w.heap[g]? = some (.map es clock)) (hf : Instr.findNow .string (.string b) es.toList 0 = some (some (i, v1))) (hi : es[i]? = some ⟨.string b, v0, br⟩) :
  (Instr.mapUpdate t (.map (some g)) (.string b) v).run P w = .ok () { w with heap := w.heap.setIfInBounds g (.map (es.modify i fun e => { e with key := .string b, val := v }) clock) } := by
 have hg : (getObj g).run P w = .ok (.map es clock) w := by simp [getObj, Sem.run, hh]
 have hs : Instr.sameBits 10000 (.string b) (.string b) = true := sameS b 9999
 have hst : (Instr.keyThatStays (.string b) (.string b)).run P w = .ok (.string b) w := by
  simp only [Instr.keyThatStays, hs, if_true, Sem.run_pure]
 simp only [Instr.mapUpdate, Sem.run_bind, run_underlying ht, Result.andThen_ok, hg, Sem.run_pure, run_checkS hk, run_findS hk hf, hi, Option.map_some, Option.getD_some, hst]
 simp [setObj, Sem.run, hh]
end
def metL (f : Nat → ByteArray) (k : Nat) : List MapEntry := (List.range k).map fun i => ⟨.string (f i), .int .i64 (i : Int), i⟩
def metO (f : Nat → ByteArray) (k : Nat) : Obj := .map (metL f k).toArray k
def mfind (f : Nat → ByteArray) (b : ByteArray) : Nat → Option Nat
 | 0 => none
 | k + 1 => match mfind f b k with
  | some i => some i
  | none => if b = f k then some k else none
theorem findNow_app (b : ByteArray) : ∀ (l : List MapEntry) (e : MapEntry) (i : Nat) (c : ByteArray), e.key = .string c → Instr.findNow .string (.string b) (l ++ [e]) i = match Instr.findNow .string (.string b) l i with
  | some none => if b = c then some (some (i + l.length, e.val)) else some none
  | r => r
 | [], e, i, c, he => by
  simp only [List.nil_append, Instr.findNow, he, Instr.sameNow, List.length_nil, Nat.add_zero, bbeq]
  by_cases h : b = c
  ·subst h; simp
  ·simp [h]
 | x :: l, e, i, c, he => by
  simp only [List.cons_append, Instr.findNow]
  cases hs : Instr.sameNow .string (.string b) x.key with
  | none => rfl
  | some q =>
   cases q with
   | true => rfl
   | false =>
    simp only []
    rw [findNow_app b l e (i + 1) c he]
    simp only [List.length_cons]
    rw [show i + 1 + l.length = i + (l.length + 1) by omega]
theorem findNow_met (f : Nat → ByteArray) (b : ByteArray) : ∀ k, Instr.findNow .string (.string b) (metL f k).toArray.toList 0 = some ((mfind f b k).map fun i => (i, .int .i64 (i : Int)))
 | 0 => rfl
 | k + 1 => by
  have ih := findNow_met f b k
  have e : (metL f (k + 1)).toArray.toList = (metL f k).toArray.toList ++ [⟨.string (f k), .int .i64 (k : Int), k⟩] := by simp [metL, List.range_succ]
  rw [e, findNow_app b _ _ 0 (f k) rfl, ih, mfind]
  cases mfind f b k with
  | some i => rfl
  | none =>
   simp only [Option.map_none]
   have hl : (metL f k).toArray.toList.length = k := by simp [metL]
   rw [hl]
   by_cases h : b = f k
   ·simp [h]
   ·simp [h]
theorem metO_push (f : Nat → ByteArray) (k : Nat) : Obj.map ((metL f k).toArray.push ⟨.string (f k), .int .i64 (k : Int), k⟩) (k + 1) = metO f (k + 1) := by
 unfold metO metL
 rw [List.range_succ]
 simp
theorem mfind_none {f : Nat → ByteArray} {b : ByteArray} : ∀ {k}, (∀ i, i < k → f i ≠ b) → mfind f b k = none
 | 0, _ => rfl
 | k + 1, h => by
  rw [mfind, mfind_none fun i hi => h i (by omega)]
  exact if_neg fun e => h k (by omega) e.symm
theorem mfind_some {f : Nat → ByteArray} {b : ByteArray} {a : Nat} (ha : f a = b) (hn : ∀ i, i < a → f i ≠ b) : ∀ {k}, a < k → mfind f b k = some a
 | 0, h => by omega
 | k + 1, h => by
  rw [mfind]
  by_cases e : a = k
  ·subst e; rw [mfind_none hn]; exact if_pos ha.symm
  ·rw [mfind_some ha hn (show a < k by omega)]
section
variable {C : Ctx} {ops : Array Oper} {s : List (Nat × AV)} {m : List (Nat × AO)} {os : List Oper} {K : List Eff → St → Prop} {d : Nat} {t : TypeId} {p : String} {af : Array Edge} {g : Option (Nat × Bool)}
theorem lit_of {S : SS} {ρ : Operand → Value} {o : Oper} (hρ : ∀ x ∈ o.op.operands, ∀ u, (S.ev x).isLit u → ρ x = u) {x : Operand} {v : Value} (hx : x ∈ o.op.operands) (h : S.ev x = .lit v) : ρ x = v := hρ x hx v (AV.isLit_of h)
theorem o_lookMet {ty k e : TypeId} {x y : Operand} (pid id gb : Nat) (f : Nat → ByteArray) (b : ByteArray) (c : Nat) (hg : Gd ops s g) (ht : C.P.underlying ty = some (.map k e)) (hk : C.P.underlying k = some .string) (hz : tyZ1 C.P e = some (.int .i64 0)) (hx : ev s x = .lit (.map (some gb))) (hy : ev s y = .lit (.string b))
  (hp : lookO m pid = some (.pin [.ref id 0] [.pointer (some ⟨gb, 0, none⟩)])) (ho : lookO m id = some (.blk (metO f c)))
  (kk : aops C ops ⟨(d, .tup [nm .i64 ((mfind f b c).getD 0), .lit (.bool (mfind f b c).isSome)]) :: s, m⟩ os fun es σ' => K ({ val := .tup [nm .i64 ((mfind f b c).getD 0), .lit (.bool (mfind f b c).isSome)], use := [id, pid] } :: es) σ') :
  aops C ops ⟨s, m⟩ (⟨some d, .lookup ty x y true, t, p, af, g⟩ :: os) K := by
 refine o_val hg (.reads pid id gb (metO f c) (.tuple #[.int .i64 ((((mfind f b c).getD 0 : Nat)) : Int), .bool (mfind f b c).isSome]) _ [] hp ho (fun ρ hρ w hh => ?_) (.inl fun H L => ?_)) kk
 ·have e1 := lit_of hρ (x := x) (by simp [Op.operands]) (by rw [ev_st]; exact hx)
  have e2 := lit_of hρ (x := y) (by simp [Op.operands]) (by rw [ev_st]; exact hy)
  have hl := run_lookS (ok := true) ht hk hz hh (findNow_met f b c)
  simp only [execOp, e1, e2, Sem.run_bind, hl, Result.andThen_ok, Sem.run_pure]
  cases mfind f b c with
  | none => rfl
  | some i => rfl
 ·simp only [RepV, RepL, nm]
  exact ⟨[_, _], rfl, _, _, rfl, rfl, _, _, rfl, rfl, rfl⟩
theorem o_updMet {ty k e : TypeId} {x y z : Operand} (pid id gb : Nat) (f : Nat → ByteArray) (c : Nat) (m' : List (Nat × AO)) (hg : Gd ops s g) (ht : C.P.underlying ty = some (.map k e)) (hk : C.P.underlying k = some .string) (hx : ev s x = .lit (.map (some gb))) (hy : ev s y = .lit (.string (f c))) (hv : ev s z = nm .i64 c)
  (hp : lookO m pid = some (.pin [.ref id 0] [.pointer (some ⟨gb, 0, none⟩)])) (ho : lookO m id = some (.blk (metO f c))) (hn : mfind f (f c) c = none) (hm : setO m id (.blk (metO f (c + 1))) = m')
  (kk : aops C ops ⟨s, m'⟩ os fun es σ' => K ({ val := .any, upd := [(id, some (.blk (metO f (c + 1))))], use := [id, pid] } :: es) σ') :
  aops C ops ⟨s, m⟩ (⟨none, .mapUpdate ty x y z, t, p, af, g⟩ :: os) K := by
 subst hm
 refine o_mem hg (.writes pid id gb (metO f c) (metO f (c + 1)) hp ho rfl (fun ρ hρ w hh => ?_)) rfl (sem_set ho rfl) kk
 have e1 := lit_of hρ (x := x) (by simp [Op.operands]) (by rw [ev_st]; exact hx)
 have e2 := lit_of hρ (x := y) (by simp [Op.operands]) (by rw [ev_st]; exact hy)
 have e3 := lit_of hρ (x := z) (by simp [Op.operands]) (by rw [ev_st]; exact hv)
 have hf := findNow_met f (f c) c
 rw [hn] at hf
 have hl := run_updNew (v := .int .i64 (c : Int)) ht hk hh hf
 rw [metO_push] at hl
 simp only [execOp, e1, e2, e3, Sem.run_bind, hl, Result.andThen_ok, Sem.run_pure]
theorem run_nextOne {P : Program} {w : World} {r m : Nat} {one : ByteArray} {v : Value} {ty : TypeId} (h1 : w.heap[r]? = some (.mapIter (some m) 1 #[] 1)) (h2 : w.heap[m]? = some (.map #[⟨.string one, v, 0⟩] 1)) :
  (Instr.next (.pointer (some ⟨r, 0, none⟩)) false ty).run P w = .ok (.tuple #[.bool true, .string one, v]) { w with heap := w.heap.setIfInBounds r (.mapIter (some m) 1 #[0] 1) } := by
 simp [Instr.next, getObj, setObj, choose, Sem.run_bind, Sem.run, h1, h2, Result.andThen, Question.forced]
theorem run_nextEnd {P : Program} {w : World} {r m : Nat} {one : ByteArray} {v : Value} {ty : TypeId} (h1 : w.heap[r]? = some (.mapIter (some m) 1 #[0] 1)) (h2 : w.heap[m]? = some (.map #[⟨.string one, v, 0⟩] 1)) :
  (Instr.next (.pointer (some ⟨r, 0, none⟩)) false ty).run P w = .ok (.tuple #[.bool false]) w := by
 simp [Instr.next, getObj, setObj, choose, Sem.run_bind, Sem.run, h1, h2, Result.andThen, Question.forced]
theorem o_mapRange {ty k e : TypeId} {x : Operand} (pid id gb it : Nat) (es : Array MapEntry) (clock : Nat) (hg : Gd ops s g) (ht : C.P.underlying ty = some (.map k e)) (hx : ev s x = .lit (.map (some gb)))
  (hp : lookO m pid = some (.pin [.ref id 0] [.pointer (some ⟨gb, 0, none⟩)])) (ho : lookO m id = some (.blk (.map es clock))) (hf : St.freshB ⟨s, m⟩ it = true)
  (kk : aops C ops ⟨(d, .ref it 0) :: s, (it, .blk (.mapIter (some gb) clock #[] clock)) :: m⟩ os fun es' σ' => K ({ val := .ref it 0, upd := [(it, some (.blk (.mapIter (some gb) clock #[] clock)))], use := [id, pid], fresh := [it] } :: es') σ') :
  aops C ops ⟨s, m⟩ (⟨some d, .range ty x, t, p, af, g⟩ :: os) K :=
 o_mem hg (.mapRange ty x pid id gb it k e es clock rfl ht (by rw [ev_st]; exact hx) hp ho) (by simp [hf]) (sem_new hf) kk
theorem o_mapNext {x : Operand} (pid id gb it : Nat) (es : Array MapEntry) (clock since : Nat) (seen : Array Nat) (last : Nat) (e : MapEntry) (m' : List (Nat × AO)) (hg : Gd ops s g) (hx : ev s x = .ref it 0) (hit : lookO m it = some (.blk (.mapIter (some gb) since seen last)))
  (hp : lookO m pid = some (.pin [.ref id 0] [.pointer (some ⟨gb, 0, none⟩)])) (ho : lookO m id = some (.blk (.map es clock))) (hn : ∀ (ty : TypeId) (r : Nat) (w : World), w.heap[r]? = some (.mapIter (some gb) since seen last) → w.heap[gb]? = some (.map es clock) → (Instr.next (.pointer (some ⟨r, 0, none⟩)) false ty).run C.P w = .ok (.tuple #[.bool true, e.key, e.val]) { w with heap := w.heap.setIfInBounds r (.mapIter (some gb) since (seen.push e.born) clock) }) (hm : setO m it (.blk (.mapIter (some gb) since (seen.push e.born) clock)) = m')
  (kk : aops C ops ⟨(d, .tup [.lit (.bool true), .any, .any]) :: s, m'⟩ os fun es' σ' => K ({ val := .tup [.lit (.bool true), .any, .any], upd := [(it, some (.blk (.mapIter (some gb) since (seen.push e.born) clock)))], use := [it, id, pid] } :: es') σ') :
  aops C ops ⟨s, m⟩ (⟨some d, .next x false, t, p, af, g⟩ :: os) K := by
 subst hm
 exact o_mem hg (.mapNext x pid id gb it es clock since seen last e rfl (by rw [ev_st]; exact hx) hit hp ho hn) rfl (sem_set hit rfl) kk
theorem o_mapOver {x : Operand} (pid id gb it : Nat) (es : Array MapEntry) (clock since : Nat) (seen : Array Nat) (last : Nat) (hg : Gd ops s g) (hx : ev s x = .ref it 0) (hit : lookO m it = some (.blk (.mapIter (some gb) since seen last)))
  (hp : lookO m pid = some (.pin [.ref id 0] [.pointer (some ⟨gb, 0, none⟩)])) (ho : lookO m id = some (.blk (.map es clock))) (hn : ∀ (ty : TypeId) (r : Nat) (w : World), w.heap[r]? = some (.mapIter (some gb) since seen last) → w.heap[gb]? = some (.map es clock) → (Instr.next (.pointer (some ⟨r, 0, none⟩)) false ty).run C.P w = .ok (.tuple #[.bool false]) w)
  (kk : aops C ops ⟨(d, .tup [.lit (.bool false)]) :: s, m⟩ os fun es' σ' => K ({ val := .tup [.lit (.bool false)], use := [it, id, pid] } :: es') σ') :
  aops C ops ⟨s, m⟩ (⟨some d, .next x false, t, p, af, g⟩ :: os) K :=
 o_val hg (.mapOver x pid id gb it es clock since seen last rfl (by rw [ev_st]; exact hx) hit hp ho hn) kk
theorem o_mapEnt {x : Operand} (pid id gb it q : Nat) (es : Array MapEntry) (clock since : Nat) (seen : Array Nat) (st : Nat) (e : MapEntry) (res : AV) (hg : Gd ops s g) (hx : ev s x = .ref it 0) (hit : lookO m it = some (.blk (.mapIter (some gb) since seen clock)))
  (hp : lookO m pid = some (.pin [.ref id 0] [.pointer (some ⟨gb, 0, none⟩)])) (ho : lookO m id = some (.blk (.map es clock))) (hs : seen.back? = some st) (hf : es.find? (·.born == st) = some e) (hq : lookO m q = some (.pin [res] [e.val]))
  (kk : aops C ops ⟨(d, .tup [.lit e.key, res]) :: s, m⟩ os fun es' σ' => K ({ val := .tup [.lit e.key, res], use := [it, id, pid, q] } :: es') σ') :
  aops C ops ⟨s, m⟩ (⟨some d, .entry x, t, p, af, g⟩ :: os) K :=
 o_val hg (.mapEnt x pid id gb it q es clock since seen st e res rfl (by rw [ev_st]; exact hx) hit hp ho hs hf hq) kk
def namO : Nat → ByteArray → Value → Obj
 | 0, _, _ => .map #[] 0
 | _ + 1, one, v => .map #[⟨.string one, v, 0⟩] 1
theorem findNow_one (one : ByteArray) (v : Value) (b : Nat) : Instr.findNow .string (.string one) [⟨.string one, v, b⟩] 0 = some (some (0, v)) := by
 have h : (one == one) = true := by rw [bbeq]; simp
 simp only [Instr.findNow, Instr.sameNow, h]
theorem run_updNam {P : Program} {w : World} {t k e g i : Nat} {one : ByteArray} {v v' : Value} (ht : P.underlying t = some (.map k e)) (hk : P.underlying k = some .string) (hh : w.heap[g]? = some (namO i one v)) :
  (Instr.mapUpdate t (.map (some g)) (.string one) v').run P w = .ok () { w with heap := w.heap.setIfInBounds g (namO (i + 1) one v') } := by
 show _ = Result.ok () { w with heap := w.heap.setIfInBounds g (.map #[⟨.string one, v', 0⟩] 1) }
 rcases i with _ | i
 ·exact run_updNew ht hk hh rfl
 ·exact run_updOld (v0 := v) (v1 := v) (i := 0) (br := 0) ht hk hh (findNow_one one v 0) rfl
theorem o_lookNam {ty k e : TypeId} {x y : Operand} (pid id gb q : Nat) (i : Nat) (one : ByteArray) (v z : Value) (res : AV) (hg : Gd ops s g) (ht : C.P.underlying ty = some (.map k e)) (hk : C.P.underlying k = some .string) (hz : tyZ1 C.P e = some z) (hi : i = 0 → v = z) (hx : ev s x = .lit (.map (some gb))) (hy : ev s y = .lit (.string one))
  (hp : lookO m pid = some (.pin [.ref id 0] [.pointer (some ⟨gb, 0, none⟩)])) (ho : lookO m id = some (.blk (namO i one v))) (hq : lookO m q = some (.pin [res] [v]))
  (kk : aops C ops ⟨(d, res) :: s, m⟩ os fun es σ' => K ({ val := res, use := [id, pid, q] } :: es) σ') :
  aops C ops ⟨s, m⟩ (⟨some d, .lookup ty x y false, t, p, af, g⟩ :: os) K := by
 refine o_val hg (.reads pid id gb (namO i one v) v res [q] hp ho (fun ρ hρ w hh => ?_) (.inr ⟨q, by simp, hq⟩)) kk
 have e1 := lit_of hρ (x := x) (by simp [Op.operands]) (by rw [ev_st]; exact hx)
 have e2 := lit_of hρ (x := y) (by simp [Op.operands]) (by rw [ev_st]; exact hy)
 rcases i with _ | i
 ·have hl := run_lookS (ok := false) (b := one) (r := none) ht hk hz hh rfl
  simp only [execOp, e1, e2, Sem.run_bind, hl, Result.andThen_ok, Sem.run_pure]
  rw [hi rfl]
  rfl
 ·have hl := run_lookS (ok := false) (b := one) (r := some (0, v)) ht hk hz hh (findNow_one one v 0)
  simp only [execOp, e1, e2, Sem.run_bind, hl, Result.andThen_ok, Sem.run_pure]
  rfl
end
theorem awp_regionMM {C : Ctx} {n : Nat} {Q : Exit → St → Prop} {σ : St} {rid : Nat} {ops : Array Oper} (id pid d : Nat) (t : TypeId) (ty : TypeId) (p : String) (af : Array Edge) (h0 : ops.toList[0]? = some ⟨some d, .makeMap t none, ty, p, af, none⟩) (hd : dstsB n ops.toList = true) (hf : σ.freshB id = true) (hf2 : σ.freshB pid = true) (hne : Nat.beq id pid = false)
  (h : ∀ g, aops C ops ⟨(d, .lit (.map (some g))) :: σ.slots, (pid, .pin [.ref id 0] [.pointer (some ⟨g, 0, none⟩)]) :: (id, .blk (.map #[] 0)) :: σ.objs⟩ (ops.toList.drop 1) fun _ σ' => Q .normal σ') :
  awp C n (.region rid ops false) Q σ := by
 refine awp_regionN hd ?_
 intro w0 r Qx rest H L a w hos hdd hr hQ
 obtain ⟨o0, os', hl⟩ : ∃ o0 os', ops.toList = o0 :: os' := by
  cases hl : ops.toList with
  | nil => rw [hl] at h0; cases h0
  | cons a b => exact ⟨a, b, rfl⟩
 have ho0 : o0 = ⟨some d, .makeMap t none, ty, p, af, none⟩ := by rw [hl] at h0; simpa using h0
 have hlen : ops.toList.length = 1 + os'.length := by rw [hl]; simp; omega
 rw [hlen, ← List.range'_append_1, List.append_assoc]
 show wpOpsIn (fen r) 0 C.P ops Qx (0 :: (List.range' (0 + 1) os'.length ++ rest)) a w
 rw [wpOpsIn_cons]
 have hi : ops[0]? = some ⟨some d, .makeMap t none, ty, p, af, none⟩ := by rw [← Array.getElem?_toList, hl, ho0]; rfl
 unfold wpOpIn
 simp only [hi]
 rw [if_pos (by simp [Region.wanted])]
 have hdst := dsts_spec hdd
 have hdn : d < n := hdst o0 (by rw [hl]; simp) d (by rw [ho0])
 have hex : (execOp a.eval ⟨some d, .makeMap t none, ty, p, af, none⟩).run C.P w = .ok (.value (.map (some w.heap.size))) (w.alloc (.map #[] 0)) := by
  simp only [execOp, Option.map_none, Sem.run_bind, run_makeMap, Result.andThen_ok, Sem.run_pure]
 refine wp_value (Q := Qx) hex ?_ r
 have h1 := hr.blkS hf (.map #[] 0)
 have hf3 : St.freshB ⟨σ.slots, (id, .blk (.map #[] 0)) :: σ.objs⟩ pid = true := by
  unfold St.freshB at hf2 ⊢
  simp only [List.all_cons, hne, AO.has, Bool.not_false, Bool.true_and]
  exact hf2
 have h2 := h1.pinS hf3 (cs := [.ref id 0]) (us := [.pointer (some ⟨w.heap.size, 0, none⟩)]) (by simp [RepL, RepV, Loc.set, ownB]) (by simp only [hasL, AV.has, hne, Bool.or_false])
 have h3 := h2.val (dst := some d) (fun d' hd' => by cases hd'; exact hdn) (x := .lit (.map (some w.heap.size))) (v := .map (some w.heap.size)) (by simp only [RepV]) [] []
 rw [← sem_app] at h3
 have hF := Lex.fin (n := n) (i := 1) (h w.heap.size)
 have hdr : ops.toList.drop 1 = os' := by rw [hl]; rfl
 rw [hdr] at hF
 exact hF w0 r Qx rest H _ _ _ (by rw [hdr, List.take_length]) hdd h3 hQ
theorem awp_regionMU {C : Ctx} {n : Nat} {Q : Exit → St → Prop} {σ : St} {rid : Nat} {ops : Array Oper} (k : Nat) (x y z : Operand) (tm km em : TypeId) (ty : TypeId) (p : String) (af : Array Edge) (pid id gb q i : Nat) (one : ByteArray) (v0 : Value) (res : AV)
  (hk : ops[k]? = some ⟨none, .mapUpdate tm x y z, ty, p, af, none⟩) (hkl : ops.size = k + 1) (hd : dstsB n ops.toList = true) (hs : succB k ops = true) (hg : edgesB 0 ops.toList = true) (ht : C.P.underlying tm = some (.map km em)) (hks : C.P.underlying km = some .string)
  (h : aops C ops σ (ops.toList.take k) fun es σ0 => (pairsB ops (items 0 (ops.toList.take k) es) && es.all fun e => e.fresh.all σ.freshB) = true ∧ ∃ σ1, Wk C n σ0 σ1 ∧ σ1.ev x = .lit (.map (some gb)) ∧ σ1.ev y = .lit (.string one) ∧ σ1.ev z = res ∧ lookO σ1.objs pid = some (.pin [.ref id 0] [.pointer (some ⟨gb, 0, none⟩)]) ∧ lookO σ1.objs id = some (.blk (namO i one v0)) ∧
   (∀ v, St.freshB ⟨σ1.slots, setO σ1.objs id (.blk (namO (i + 1) one v))⟩ q = true) ∧ hasL q [res] = false ∧ ∀ v, Q .normal ⟨σ1.slots, (q, .pin [res] [v]) :: setO σ1.objs id (.blk (namO (i + 1) one v))⟩) :
  awp C n (.region rid ops true) Q σ := fun w0 H L a w hr r => by
 obtain ⟨es, σ0, htr, hb1, σ1, hwk, hx, hy, hz, hp, ho, hfq, hnq, hq⟩ := h
 simp only [Bool.and_eq_true] at hb1
 refine wpIn_region_any C.mixed ?_
 have hdst := dsts_spec hd
 obtain ⟨hlen, hasc, hit, hexi⟩ := items_spec (ops.toList.take k) es 0 htr.len
 have htl : (ops.toList.take k).length = k := by rw [List.length_take]; simp [hkl]
 have hfal : ∀ j, (Array.replicate ops.size false).getD j true = false ↔ j < ops.size := by
  intro j
  by_cases hj : j < ops.size
  ·simp [Array.getD_eq_getD_getElem?, hj]
  ·simp [Array.getD_eq_getD_getElem?, hj]
 have inops : ∀ {j : Nat} {o : Oper}, (ops.toList.take k)[j]? = some o → ops[j]? = some o ∧ j < k := fun {j o} h => by
  rw [List.getElem?_take] at h
  split at h
  ·rename_i hj; exact ⟨by simpa using h, hj⟩
  ·cases h
 have hr' : Rep C n w0 H L (St.sem σ) a { w with drawn := w.drawn + 1 } := ⟨hr.glob, hr.heap, hr.size, hr.slot, fun id o ho => (hr.objs id o ho).kept (Heap.le_refl _) (fun _ _ _ h => h) rfl (fun _ _ _ h => h) (fun _ _ _ _ => rfl), hr.apart, hr.below.drew, hr.defers⟩
 refine any_soundL r (S' := σ0.sem) (N := k) hk hkl (fun j o hj e he hbb => ?_) (succB_spec hs) H (fun K Hq Lq a2 w2 hxq hrq hK => ?_) ops.size _ (items 0 (ops.toList.take k) es) σ.sem H L a _ (by rw [hlen, htl]; omega) (by simp) (fun q hq => ?_) (fun q hq => ?_) (fun j hj => ?_) (fun q hq => ?_) ((hfal k).2 (by omega)) (fun j o ho hl => ?_) hasc (pairs_spec _ hb1.1) (fun q hq => ?_) (fun q hq => ?_) (htr.tr 0) hr' (Ext.refl _ _)
 ·have := edges_spec ops.toList 0 hg j o (by simpa using hj) e he hbb
  omega
 ·obtain ⟨H2, L2, hxw, hr2⟩ := hwk w0 Hq Lq a2 w2 hrq
  have hx2 := hxq.trans hxw
  unfold wpOpIn
  simp only [hk]
  rw [if_pos (by simp [Region.wanted])]
  have xv := hr2.ev x
  rw [ev_sem, hx] at xv
  simp only [RepV] at xv
  have yv := hr2.ev y
  rw [ev_sem, hy] at yv
  simp only [RepV] at yv
  have zv := hr2.ev z
  rw [ev_sem, hz] at zv
  obtain ⟨hl, hh, hB, hHn⟩ := pinnedAt hr2 hp ho
  have hlt := (Array.getElem?_eq_some_iff.1 hh).1
  have hex : (execOp a2.eval ⟨none, .mapUpdate tm x y z, ty, p, af, none⟩).run C.P w2 = .ok .skip { w2 with heap := w2.heap.setIfInBounds gb (namO (i + 1) one (a2.eval z)) } := by
   simp only [execOp, xv, yv, Sem.run_bind, run_updNam (v' := a2.eval z) ht hks hh, Result.andThen_ok, Sem.run_pure]
  have hw := hr2.wrote (ob' := .blk (namO (i + 1) one (a2.eval z))) ho hl rfl (w' := { w2 with heap := w2.heap.setIfInBounds gb (namO (i + 1) one (a2.eval z)) }) setObj_oth ⟨rfl, rfl, rfl, by simp, fun k hk => setObj_oth k (by omega), Nat.le_refl _⟩ ⟨gb, hl, by simp [hlt], hB, hHn⟩
  have hw2 : Rep C n w0 H2 L2 (St.sem ⟨σ1.slots, setO σ1.objs id (.blk (namO (i + 1) one (a2.eval z)))⟩) a2 { w2 with heap := w2.heap.setIfInBounds gb (namO (i + 1) one (a2.eval z)) } := by
   refine hw.fewer fun j o hj => ?_
   have hj2 : lookO (setO σ1.objs id (.blk (namO (i + 1) one (a2.eval z)))) j = some o := hj
   rw [lookO_set ho] at hj2
   exact hj2
  have hw3 := hw2.pinS (hfq (a2.eval z)) (cs := [res]) (us := [a2.eval z]) (by simp only [RepL]; exact ⟨_, _, rfl, zv, rfl⟩) hnq
  refine wp_skipv hex (hK _ _ ?_) r
  exact ⟨_, H2, _, hx2, hw3, hq _⟩
 ·have := (inops (hit q hq).2.1).1
  simpa using this
 ·have := (inops (hit q hq).2.1).2
  omega
 ·have hj2 := (hfal j).1 hj
  by_cases hjk : j = k
  ·exact .inr hjk
  ·obtain ⟨q, hq, hqi⟩ := hexi j (by rw [htl]; omega)
   exact .inl ⟨q, hq, by omega⟩
 ·rw [hfal]
  have := (inops (hit q hq).2.1).2
  omega
 ·exfalso
  have hj : j < ops.size := (Array.getElem?_eq_some_iff.1 ho).1
  rw [(hfal j).2 hj] at hl
  cases hl
 ·have := (hit q hq).2.2
  have he := List.mem_of_getElem? this
  exact fun id hid => fresh_sem (List.all_eq_true.1 (List.all_eq_true.1 hb1.2 _ he) id hid)
 ·have := (hit q hq).2.1
  exact hdst q.o (List.mem_of_mem_take (List.mem_of_getElem? this))
theorem awp_label {C : Ctx} {n l : Nat} {Q : Exit → St → Prop} {σ : St} (h : Q .normal σ) : awp C n (.label l) Q σ := fun w0 H L a w hr r => wpIn_label ⟨σ, H, L, Ext.refl _ _, hr, h⟩
section
variable {F : Fence} {n : Nat} {P : Program} {Q : Exit → Act → World → Prop} {a : Act} {w : World} {b : Frame} {k : List Item} {cs : List Frame}
theorem stepR_scope {c : Code} : step P (lone (b.atR a (.code (.scope c) :: k)) cs w) = .next (lone (b.atR a (.code c :: .inScope c :: k)) cs w) := step_lone_go (by simp [stepG, stepG.exec, Frame.atR])
theorem stepR_inScope {c : Code} : step P (lone (b.atR a (.inScope c :: k)) cs w) = .next (lone (b.atR a k) cs w) := step_lone_go (by simp [stepG, stepG.exec, Frame.atR])
theorem wpIn_scope {c : Code} (h : c.wpIn F n P (Exit.noGoto Q) a w) : (Code.scope c).wpIn F n P Q a w := by
 intro b k cs hro hb hr
 have h0 : (lone (b.atR a (.code (.scope c) :: k)) cs w).fenced P F := fenced_calm hb hr rfl
 obtain ⟨e, a₁, w₁, hq, harr⟩ := h b (.inScope c :: k) cs hro hb hr
 cases e with
 | normal => exact ⟨.normal, a₁, w₁, hq, .head h0 stepR_scope (StepsIn.trans harr (.one (fenced_calm hb hr rfl) stepR_inScope))⟩
 | exit id =>
  have hx : exitTo id (.inScope c :: k) = exitTo id k := by simp [exitTo]
  exact ⟨.exit id, a₁, w₁, hq, fun k' hk => .head h0 stepR_scope (harr.1 k' (by rw [hx]; exact hk)),
    fun hr' hk => let ⟨k₁, h1, h2⟩ := harr.2 hr' (by rw [hx]; exact hk); ⟨k₁, h1, .head h0 stepR_scope h2⟩⟩
 | goto l => exact hq.elim
 | ret => exact ⟨_, a₁, w₁, hq, .of_steps (.one h0 stepR_scope) harr⟩
 | panic ch => exact ⟨_, a₁, w₁, hq, .of_steps (.one h0 stepR_scope) harr⟩
 | outgrown => exact ⟨_, a₁, w₁, hq, .of_steps (.one h0 stepR_scope) harr⟩
end
def noGT (Q : List Deferred → Exit → St → Prop) : List Deferred → Exit → St → Prop
 | _, .goto _, _ => False
 | mk, e, σ => Q mk e σ
theorem awpT_scope {C : Ctx} {n : Nat} {mk : List Deferred} {c : Code} {Q : List Deferred → Exit → St → Prop} {σ : St} (h : awpT C n mk c (noGT Q) σ) : awpT C n mk (.scope c) Q σ := fun w0 H L a w hr => by
 refine wpIn_scope (wpIn_mono (h w0 H L a w hr) fun e a w hp => ?_)
 obtain ⟨mk', σ', H', L', hx, hr', hq⟩ := hp
 cases e with
 | goto l => exact hq
 | _ => exact ⟨mk', σ', H', L', hx, hr', hq⟩
theorem awp_loop2 {C : Ctx} {n : Nat} {Q : Exit → St → Prop} {σ A B : St} {c : Code} (h0 : Wk C n σ A) (hA : awp C n c (thenK (fun σ2 => Wk C n σ2 B) Q) A) (hB : awp C n c (thenK (fun _ => False) Q) B) : awp C n (.loop c) Q σ := by
 refine awp_loopR (fun κ σ' => (κ = 1 ∧ σ' = A) ∨ (κ = 0 ∧ σ' = B)) ⟨1, A, .inl ⟨rfl, rfl⟩, h0⟩ ?_
 rintro κ σ' (⟨rfl, rfl⟩ | ⟨rfl, rfl⟩)
 ·refine awp_mono hA fun e σ2 hq => ?_
  cases e with
  | normal => exact ⟨0, B, by omega, .inr ⟨rfl, rfl⟩, hq⟩
  | _ => exact hq
 ·refine awp_mono hB fun e σ2 hq => ?_
  cases e with
  | normal => exact hq.elim
  | _ => exact hq
theorem Wk.pinLit {C : Ctx} {n : Nat} {σ : St} (q : Nat) (x : AV) (v : Value) (hv : ∀ H L, RepV H x L v) (hf : σ.freshB q = true) (hn : hasL q [x] = false) : Wk C n σ ⟨σ.slots, (q, .pin [x] [v]) :: σ.objs⟩ := fun w0 H L a w hr =>
 ⟨H, _, Ext.refl _ _, hr.pinS hf (cs := [x]) (us := [v]) (by simp only [RepL]; exact ⟨_, _, rfl, hv H L, rfl⟩) hn⟩
def namC : Nat → AV → AV
 | 0, _ => .lit (.slice none 0 0)
 | _ + 1, x => x
end Go.Ab

namespace Go.Mth
open Go Go.Ab
def FirstR (m : MapM) (z : Int) (a N : Nat) : Prop := a < N ∧ iterZ m N z = iterZ m a z ∧ ∀ i j, i < j → j < N → iterZ m i z ≠ iterZ m j z
def fM (m : MapM) (z : Int) : Nat → ByteArray := fun i => txt (iterZ m i z)
theorem fm_no {m : MapM} {z : Int} {a N k : Nat} (h : FirstR m z a N) (hk : k < N) : mfind (fM m z) (fM m z k) k = none :=
 mfind_none fun i hi e => h.2.2 i k hi hk (txt_inj e)
theorem fm_yes {m : MapM} {z : Int} {a N : Nat} (h : FirstR m z a N) : mfind (fM m z) (fM m z N) N = some a :=
 mfind_some (congrArg txt h.2.1.symm) (fun i hi e => h.2.2 i a hi h.1 ((txt_inj e).trans h.2.1)) h.1
theorem fm_isN {m : MapM} {z : Int} {a N k : Nat} (h : FirstR m z a N) (hk : k ≤ N) (hs : (mfind (fM m z) (fM m z k) k).isSome = true) : k = N := by
 refine Decidable.byContradiction fun hn => ?_
 rw [fm_no h (by omega)] at hs
 cases hs
theorem fm_lt {m : MapM} {z : Int} {a N k : Nat} (h : FirstR m z a N) (hk : k ≤ N) (hs : (mfind (fM m z) (fM m z k) k).isSome = false) : k < N := by
 refine Decidable.byContradiction fun hn => ?_
 rw [show k = N by omega, fm_yes h] at hs
 cases hs
theorem first_ex {m : MapM} {z : Int} {r p : Nat} (hp : 0 < p) (h : iterZ m (r + p) z = iterZ m r z) : ∃ a N, FirstR m z a N ∧ N ≤ r + p := by
 have key : ∀ n, (∃ a N, FirstR m z a N ∧ N ≤ n) ∨ ∀ i j, i < j → j ≤ n → iterZ m i z ≠ iterZ m j z := by
  intro n
  induction n with
  | zero => right; intro i j h1 h2; omega
  | succ n ih =>
   rcases ih with ⟨a, N, h1, h2⟩ | ih
   ·exact .inl ⟨a, N, h1, by omega⟩
   ·by_cases e : ∃ i, i < n + 1 ∧ iterZ m i z = iterZ m (n + 1) z
    ·obtain ⟨i, h1, h2⟩ := e
     exact .inl ⟨i, n + 1, ⟨h1, h2.symm, fun x y a b => ih x y a (by omega)⟩, Nat.le_refl _⟩
    ·right
     intro i j h1 h2 h3
     rcases Nat.lt_or_ge j (n + 1) with q | q
     ·exact ih i j h1 (by omega) h3
     ·exact e ⟨i, by omega, by rw [show n + 1 = j by omega]; exact h3⟩
 rcases key (r + p) with h1 | h1
 ·exact h1
 ·exact absurd h.symm (h1 r (r + p) (by omega) (Nat.le_refl _))
theorem drop_orb {m : MapM} {z : Int} {a N : Nat} (h : a ≤ N) : (orbL m z N).drop a = orbL m (iterZ m a z) (N - a) := by
 refine listI_ext (by rw [List.length_drop, orbL_len, orbL_len]) fun k hk => ?_
 rw [List.length_drop, orbL_len] at hk
 rw [orbL_get hk, iterZ_add, List.getD_eq_getElem?_getD, List.getElem?_drop, ← List.getD_eq_getElem?_getD, orbL_get (by omega), Nat.add_comm]
theorem step_one : stepZ (kinM 3 1) 1 = 2 := by decide
theorem step_two : stepZ (kinM 3 1) 2 = 1 := by decide
theorem two_per : iterZ (kinM 3 1) 2 1 = 1 := by show stepZ _ (stepZ _ 1) = 1; rw [step_one, step_two]
theorem rot_12 : rotM [1, 2] = [1, 2] := by decide
theorem rot_21 : rotM [2, 1] = [1, 2] := by decide
theorem cyc_12 {z : Int} {r a N : Nat} (h1 : iterZ (kinM 3 1) r z = 1) (h : FirstR (kinM 3 1) z a N) : rotM ((orbL (kinM 3 1) z N).drop a) = [1, 2] := by
 obtain ⟨haN, heq, hne⟩ := h
 rw [drop_orb (by omega)]
 obtain ⟨p, hp⟩ : ∃ p, N = p + a := ⟨N - a, by omega⟩
 subst hp
 rw [show p + a - a = p by omega]
 have hper : iterZ (kinM 3 1) p (iterZ (kinM 3 1) a z) = iterZ (kinM 3 1) a z := by rw [iterZ_add]; exact heq
 have hone : iterZ (kinM 3 1) ((a * 2 + r - a) % p) (iterZ (kinM 3 1) a z) = 1 := by
  rw [← iterZ_mod hper, iterZ_add, show a * 2 + r - a + a = a * 2 + r by omega, ← iterZ_add, h1]
  exact iterZ_mul two_per a
 have hi := Nat.mod_lt (a * 2 + r - a) (show 0 < p by omega)
 generalize (a * 2 + r - a) % p = i at hone hi
 have htwo : iterZ (kinM 3 1) (i + 1) (iterZ (kinM 3 1) a z) = 2 := by show stepZ _ (iterZ _ i _) = 2; rw [hone, step_one]
 have hthree : iterZ (kinM 3 1) (i + 2) (iterZ (kinM 3 1) a z) = 1 := by show stepZ _ (iterZ _ (i + 1) _) = 1; rw [htwo, step_two]
 rcases (show p = 1 ∨ p = 2 ∨ 3 ≤ p by omega) with e | e | e
 ·exfalso
  have q : iterZ (kinM 3 1) (0 + 1) (iterZ (kinM 3 1) a z) = iterZ (kinM 3 1) 0 (iterZ (kinM 3 1) a z) := by rw [e] at hper; exact hper
  rw [show i = 0 by omega] at hone htwo
  rw [hone, htwo] at q
  exact absurd q (by decide)
 ·subst e
  rcases (show i = 0 ∨ i = 1 by omega) with e | e
  ·subst e
   have : orbL (kinM 3 1) (iterZ (kinM 3 1) a z) 2 = [1, 2] := by show [iterZ _ 0 _, iterZ _ 1 _] = _; rw [hone]; exact congrArg (fun q => [1, q]) htwo
   rw [this]; exact rot_12
  ·subst e
   have q : iterZ (kinM 3 1) 0 (iterZ (kinM 3 1) a z) = 2 := hper.symm.trans htwo
   have : orbL (kinM 3 1) (iterZ (kinM 3 1) a z) 2 = [2, 1] := by show [iterZ _ 0 _, iterZ _ 1 _] = _; rw [hone, q]
   rw [this]; exact rot_21
 ·exfalso
  have hj := Nat.mod_lt (i + 2) (show 0 < p by omega)
  have hij : (i + 2) % p ≠ i := by
   intro q
   rcases Nat.lt_or_ge (i + 2) p with w | w
   ·rw [Nat.mod_eq_of_lt w] at q; omega
   ·have : (i + 2) % p = i + 2 - p := by rw [Nat.mod_eq_sub_mod w, Nat.mod_eq_of_lt (by omega)]
    omega
  rw [iterZ_mod hper] at hthree
  generalize (i + 2) % p = j at hthree hj hij
  have q : iterZ (kinM 3 1) (i + a) z = iterZ (kinM 3 1) (j + a) z := by rw [← iterZ_add, ← iterZ_add, hone, hthree]
  rcases Nat.lt_or_ge i j with w | w
  ·exact hne _ _ (by omega) (by omega) q
  ·exact hne _ _ (by omega) (by omega) q.symm
/- small numbers -/
def tN (n : Nat) : Nat := if n % 2 = 0 then n / 2 else (3 * n + 1) / 2
def rchN : Nat → Nat → Bool
 | 0, n => n == 1
 | f + 1, n => n == 1 || rchN f (tN n)
theorem rch_3000 : (List.range 3000).all (fun i => rchN 200 (i + 1)) = true := by decide +kernel
theorem step_tN (n : Nat) : stepZ (kinM 3 1) (n : Int) = ((tN n : Nat) : Int) := by
 unfold tN
 rcases Nat.mod_two_eq_zero_or_one n with e | e
 ·rw [if_pos e]
  have e2 : ((n : Int) % 2).toNat = 0 := by omega
  unfold stepZ kinM
  dsimp only
  rw [e2]
  simp
 ·rw [if_neg (by omega)]
  have e2 : ((n : Int) % 2).toNat = 1 := by omega
  unfold stepZ kinM
  dsimp only
  rw [e2]
  simp
theorem rch_is : ∀ f n, rchN f n = true → ∃ r, r ≤ f ∧ iterZ (kinM 3 1) r (n : Int) = 1
 | 0, n, h => ⟨0, Nat.le_refl _, by have q : n = 1 := (by simpa [rchN] using h); rw [q]; rfl⟩
 | f + 1, n, h => by
  rw [rchN, Bool.or_eq_true] at h
  rcases h with h | h
  ·exact ⟨0, Nat.zero_le _, by have q : n = 1 := (by simpa using h); rw [q]; rfl⟩
  ·obtain ⟨r, h1, h2⟩ := rch_is f _ h
   refine ⟨r + 1, by omega, ?_⟩
   rw [← iterZ_add (kinM 3 1) (n : Int) 1 r]
   show iterZ _ r (stepZ _ _) = 1
   rw [show iterZ (kinM 3 1) 0 (n : Int) = (n : Int) from rfl, step_tN]
   exact h2
theorem iter_bd {n : Nat} (hn : 1 ≤ n) : ∀ i, ∃ x : Nat, iterZ (kinM 3 1) i (n : Int) = (x : Int) ∧ 1 ≤ x ∧ x ≤ n * 2 ^ i
 | 0 => ⟨n, rfl, hn, by simp⟩
 | i + 1 => by
  obtain ⟨x, h1, h2, h3⟩ := iter_bd hn i
  refine ⟨tN x, ?_, ?_, ?_⟩
  ·show stepZ _ _ = _; rw [h1, step_tN]
  ·unfold tN; split <;> omega
  ·have : tN x ≤ 2 * x := by unfold tN; split <;> omega
   rw [Nat.pow_succ, ← Nat.mul_assoc]
   omega
theorem small_fate {n : Nat} (h1 : 1 ≤ n) (h2 : n ≤ 3000) : ∃ a N, FirstR (kinM 3 1) (n : Int) a N ∧ N ≤ 202 ∧ rotM ((orbL (kinM 3 1) (n : Int) N).drop a) = [1, 2] ∧ ∀ i, i ≤ N → ndig (iterZ (kinM 3 1) i (n : Int)).natAbs ≤ 2000 := by
 have h := List.all_eq_true.1 rch_3000 (n - 1) (List.mem_range.2 (by omega))
 rw [show n - 1 + 1 = n by omega] at h
 obtain ⟨r, hr, h3⟩ := rch_is 200 n h
 have hper : iterZ (kinM 3 1) (r + 2) (n : Int) = iterZ (kinM 3 1) r (n : Int) := by rw [Nat.add_comm, ← iterZ_add, h3]; exact two_per
 obtain ⟨a, N, f1, f2⟩ := first_ex (show 0 < 2 by decide) hper
 refine ⟨a, N, f1, by omega, cyc_12 h3 f1, fun i hi => ?_⟩
 obtain ⟨x, x1, x2, x3⟩ := iter_bd h1 i
 rw [x1, Int.natAbs_natCast]
 refine fit_of_pow (k := 66) (Nat.lt_of_le_of_lt (Nat.le_trans x3 (Nat.mul_le_mul h2 (Nat.pow_le_pow_right (by decide) (show i ≤ 202 by omega)))) (by decide)) (by decide) (by decide)
end Go.Mth

namespace Go.Proofs.YtaeknciienkijaaGreatDoor
open Go Go.Ab Go.Mth
end Go.Proofs.YtaeknciienkijaaGreatDoor

namespace Go.Proofs.YtaeknciienkijaaGreatDoor
open Go Go.Ab Go.Mth
end Go.Proofs.YtaeknciienkijaaGreatDoor

namespace Go.Proofs.YtaeknciienkijaaGreatDoor
open Go Go.Ab Go.Mth
theorem c_sWalk (m : MapM) (z : Int) : ECallsW cx 55 [mapV m, intW z] 87 51 [bp (z < 0), .sl 1 (ns .u32 (digs z.natAbs))] 28 [.lit (.int .i64 m.mod), .sl 1 (is .i64 m.mul), .sl 1 (is .i64 m.add)] := by
 refine ecallsW_of_awp Tryz.func55 (c := _) rfl (Nat.le_of_ble_eq_true rfl) rfl rfl ?_
 show awp cx 6 _ (postW cx Tryz.f55 _ _ _ _ _) ⟨[(0, mapV m), (1, intW z)], []⟩
 refine awp_seq fun K0 hK0 => awp_region rfl ?_
 refine o_box 2 [Iv m.mod, Lv m.mul, Lv m.add] gn rfl rfl ?_
 refine o_box 3 [bp (z < 0), .sl 1 (ns .u32 (digs z.natAbs))] gn rfl rfl ?_
 refine o_as (.lit .nilFunc) rfl (aops_end (hK0 _ (awp_seq fun K1 hK1 => awp_region rfl ?_)))
 refine o_makeFunc [.ref 3 0, .ref 2 0] gn rfl ?_
 refine o_as (.clo 87 [.ref 3 0, .ref 2 0]) rfl (aops_end (hK1 _ ?_))
 refine awp_ret ?_
 exact ⟨4, 3, 2, rfl, by decide, rfl, rfl, rfl⟩

theorem it_Walk (m : MapM) (z : Int) (hm : OkM m) (l D : Nat) (fn : FuncId) (tmps : Array Value) (ps : Array Tmp) (assign body : Code) (N : Nat) (R : Nat → List (Nat × AO) → Prop) (X : Code → List (Nat × AO) → Prop)
  (hR : ∀ k mm, R k mm → k ≤ N ∧ (digs (iterZ m k z).natAbs).length ≤ 1000000 ∧ YldAt cx 17 l [nm .i64 k, intW (iterZ m k z)] ⟨[(0, .lit (.func (.yield l) #[] #[])), (1, .ref 8001 0), (2, .ref 8002 0), (4, Nv k)], (9001, .blk (.loop (lrec fn tmps ps assign body D (.ready) none))) :: (8001, oZ 51 .u32 (iterZ m k z)) :: (8002, oM 28 m) :: mm⟩ fun b σ' =>
   (b = true ∧ ∃ m', σ' = ⟨[(0, .lit (.func (.yield l) #[] #[])), (1, .ref 8001 0), (2, .ref 8002 0), (4, Nv k)], (9001, .blk (.loop (lrec fn tmps ps assign body D .ready none))) :: m'⟩ ∧ ∃ mm', m' = (8001, .var 51 [bp (iterZ m k z < 0), .sl 1 (ns .u32 (digs (iterZ m k z).natAbs))]) :: (8002, .var 28 [.lit (.int .i64 m.mod), .sl 1 (is .i64 m.mul), .sl 1 (is .i64 m.add)]) :: mm' ∧ R (k + 1) mm') ∨ (b = false ∧ ∃ c m', σ' = ⟨[(0, .lit (.func (.yield l) #[] #[])), (1, .ref 8001 0), (2, .ref 8002 0), (4, Nv k)], (9001, .blk (.loop (lrec fn tmps ps assign body D .done (some c)))) :: m'⟩ ∧ X c m'))
  {mm0 m0 : List (Nat × AO)} (h0 : R 0 mm0) (hw : Wk cx 17 ⟨ent 0 [.lit (.func (.yield l) #[] #[]), .ref 8001 0, .ref 8002 0], m0⟩ ⟨[(0, .lit (.func (.yield l) #[] #[])), (1, .ref 8001 0), (2, .ref 8002 0)], (9001, .blk (.loop (lrec fn tmps ps assign body D (.ready) none))) :: (8001, oZ 51 .u32 z) :: (8002, oM 28 m) :: mm0⟩) (hN : N ≤ 4611686018427387904) {cI : Code} (hb : Tryz.f87.body = some cI) :
  awp cx 17 cI (fun e σ2 => e = .normal ∧ ∃ c m', X c m' ∧ Wk cx 17 σ2 ⟨[], (9001, .blk (.loop (lrec fn tmps ps assign body D .done (some c)))) :: m'⟩) ⟨ent 0 [.lit (.func (.yield l) #[] #[]), .ref 8001 0, .ref 8002 0], m0⟩ := by
 have hcI := Option.some.inj hb
 subst hcI
 refine awp_wk hw ?_
 show awp cx 17 _ _ _
 refine awp_seq fun K0 hK0 => awp_region rfl (o_as (Nv 0) rfl (aops_end (hK0 _ ?_)))
 refine awp_block ?_
 refine awp_loopR (fun κ σ => ∃ (k : Nat), ∃ (mm : List (Nat × AO)), (R k mm) ∧ (N + 1 - k) = κ ∧ σ = ⟨[(0, .lit (.func (.yield l) #[] #[])), (1, .ref 8001 0), (2, .ref 8002 0), (4, Nv k)], (9001, .blk (.loop (lrec fn tmps ps assign body D (.ready) none))) :: (8001, oZ 51 .u32 (iterZ m k z)) :: (8002, oM 28 m) :: mm⟩) ⟨_, _, ⟨0, mm0, h0, rfl, rfl⟩, ?wk0⟩ ?rd0
 case wk0 =>
  exact Wk.subT ⟨rfl, rfl, rfl, (by first | rfl | exact nm_int (by omega)), trivial⟩ (fun _ _ h => h)
 rintro κ _ ⟨k, mm, hr, rfl, rfl⟩
 obtain ⟨hkN, hlen, hY⟩ := hR k mm hr
 refine awp_seq fun K1 hK1 => awp_seq fun K2 hK2 => ?_
 refine awp_regionYL 8 _ _ _ _ _ _ l [nm .i64 k, intW (iterZ m k z)] rfl rfl ?_
 refine o_mv (.lit (.func (.yield l) #[] #[])) rfl (o_mv (Nv k) rfl ?_)
 refine o_loadA [bp ((iterZ m k z) < 0), .sl 1 (ns .u32 (digs (iterZ m k z).natAbs))] gn f20_ rfl rfl rfl rfl rfl ?_
 refine aops_end ⟨rfl, rfl, YldAt.wk (σ1 := ⟨[(0, .lit (.func (.yield l) #[] #[])), (1, .ref 8001 0), (2, .ref 8002 0), (4, Nv k)], (9001, .blk (.loop (lrec fn tmps ps assign body D (.ready) none))) :: (8001, oZ 51 .u32 (iterZ m k z)) :: (8002, oM 28 m) :: mm⟩) (Wk.subT ⟨rfl, rfl, rfl, rfl, trivial⟩ (fun _ _ h => h)) rfl (YldAt.mono hY ?_)⟩
 rintro b σ2 (⟨rfl, m', rfl, mm', rfl, hr'⟩ | ⟨rfl, c, m', rfl, hx⟩)
 ·refine hK2 _ ?_
  refine awp_condB (b := true) rfl (fun _ => ?_) (fun hh => absurd (hh.symm.trans rfl) (by decide))
  refine awp_skip (hK1 _ (awp_seq fun K3 hK3 => ?_))
  refine awp_block ?_
  refine awp_region rfl ?_
  refine o_loadA [Iv m.mod, Lv m.mul, Lv m.add] gn f64_ rfl rfl rfl rfl rfl ?_
  refine o_loadA [bp ((iterZ m k z) < 0), .sl 1 (ns .u32 (digs (iterZ m k z).natAbs))] gn f20_ rfl rfl rfl rfl rfl ?_
  refine o_ct (c_sNext m (iterZ m k z) (by first | assumption | exact okM_iff.1 (by assumption)) (by first | omega | assumption | (simp only [Int.natAbs_neg]; omega))) gn f114_ rfl ?_
  refine o_mv (.tup [intW (stepZ m (iterZ m k z)), Iv ((iterZ m k z) % m.mod)]) rfl (o_extract (intW (stepZ m (iterZ m k z))) gn rfl rfl (o_extract (Iv ((iterZ m k z) % m.mod)) gn rfl rfl ?_))
  refine o_store ((9001, .blk (.loop (lrec fn tmps ps assign body D (.ready) none))) :: (8001, oZ 51 .u32 (stepZ m (iterZ m k z))) :: (8002, oM 28 m) :: mm') gn f19_ rfl rfl rfl rfl rfl rfl ?_
  refine aops_end (hK3 _ (awp_region rfl (o_mv (Nv k) rfl ?_)))
  refine n_add k 1 gn rfl rfl (by simp only [topOf]; omega) ?_
  refine o_as (Nv (k + 1)) rfl (aops_end ?_)
  refine ⟨_, _, ?lt, ⟨k + 1, mm', hr', rfl, rfl⟩, ?wk⟩
  case lt => (have := hkN; omega)
  case wk => exact Wk.subT ⟨rfl, rfl, rfl, (by first | rfl | exact nm_int (by omega)), trivial⟩ (fun _ _ h => h)
 ·refine hK2 _ ?_
  refine awp_condB (b := false) rfl (fun hh => absurd (hh.symm.trans rfl) (by decide)) (fun _ => ?_)
  refine awp_exit ?_
  exact ⟨rfl, c, m', hx, Wk.subT trivial (fun _ _ h => h)⟩

end Go.Proofs.YtaeknciienkijaaGreatDoor

namespace Go.Proofs.YtaeknciienkijaaGreatDoor
open Go Go.Ab Go.Mth
end Go.Proofs.YtaeknciienkijaaGreatDoor

namespace Go.Proofs.YtaeknciienkijaaGreatDoor
open Go Go.Ab Go.Mth
theorem f135_ : tyZero cx.P 23 = some [Go.Value.int IntKind.i64 0] := by kernel_rfl
theorem f136_ : tyZero cx.P 108 = some [Go.Value.map none] := by kernel_rfl
theorem f137_ : tySize cx.P 108 = some 1 := by kernel_rfl
theorem f138_ : callable cx.P 55 = true := by kernel_rfl
theorem f139_ : callable cx.P 87 = true := by kernel_rfl
theorem f140_ : tySc cx.P 108 = true := by kernel_rfl
theorem f141_ : cx.P.underlying 108 = some (.map 9 3) := by kernel_rfl
theorem f142_ : tyZ1 cx.P 3 = some (.int .i64 0) := by kernel_rfl
theorem f143_ : tySize cx.P 57 = some 1 := by kernel_rfl
theorem f144_ : callable cx.P 56 = true := by kernel_rfl
theorem f145_ : tySize cx.P 23 = some 1 := by kernel_rfl
theorem f146_ : tySc cx.P 23 = true := by kernel_rfl
theorem c_fTurned (l : List Int) (hl0 : 0 < l.length) (hl : l.length ≤ 1000) : ECalls cx 56 [.sl 2 (gcells cW l)] (.sl 2 (gcells cW (rotM l))) := by
 refine ecalls_of_awp Tryz.func56 (c := _) rfl (Nat.le_of_ble_eq_true rfl) ?_
 show awp cx 30 _ (postF cx Tryz.f56 _) ⟨[(0, .sl 2 (gcells cW l))], []⟩
 refine awp_seq fun K0 hK0 => awp_region rfl (o_as Zv rfl (aops_end (hK0 _ (awp_seq fun K1 hK1 => awp_region rfl (o_as (Nv 0) rfl ?_)))))
 refine n_as (v' := (Nv (leastI l 0))) (by exact congrArg (nm _) (by first | rfl | exact (least_y (cmpZ_lt.1 (by assumption))).symm)) ?_
 refine aops_end (hK1 _ (awp_seq fun K2 hK2 => awp_seq fun K3 hK3 => awp_region rfl (o_mv (.sl 2 (gcells cW l)) rfl ?_)))
 refine g_len cW l cW_len gn f110_ rfl ?_
 refine o_mv (Nv 0) rfl (aops_end (hK3 _ ?_))
 refine awp_block ?_
 refine awp_loopR (fun κ σ => ∃ (i : Nat), (i ≤ l.length) ∧ (l.length - i) = κ ∧ σ = ⟨[(0, .sl 2 (gcells cW l)), (3, Nv (leastI l i)), (6, Nv (l.length)), (7, Nv i)], []⟩) ⟨_, _, ⟨0, Nat.zero_le _, rfl, rfl⟩, ?wk0⟩ ?rd0
 case wk0 =>
  exact Wk.sub ⟨rfl, (by first | rfl | exact nm_int (by omega)), rfl, (by first | rfl | exact nm_int (by omega)), trivial⟩ trivial
 rintro κ _ ⟨i, hi, rfl, rfl⟩
 have k3 := least_lt (l := l) hl0 i hi
 refine awp_seq fun K4 hK4 => awp_region rfl ?_
 refine n_lss i (l.length) gn rfl rfl ?_
 refine aops_end (hK4 _ (awp_seq fun K5 hK5 => ?_))
 refine awp_condQ (q := i < (l.length)) rfl (fun h1 => ?_) (fun h1 => ?_)
 ·refine awp_skip (hK5 _ (awp_seq fun K6 hK6 => ?_))
  refine awp_block ?_
  refine awp_seq fun K7 hK7 => awp_region rfl (o_mv (Nv i) rfl (o_as (Nv i) rfl (aops_end (hK7 _ (awp_seq fun K8 hK8 => awp_regionD rfl (o_mv (.sl 2 (gcells cW l)) rfl (o_mv (Nv i) rfl ?_)))))))
  refine g_index cW l i cW_len rfl gn f111_ rfl rfl (by omega) ?_
  refine g_loadA cW l i default cW_len gn f20_ rfl (by omega) ?_
  refine o_mv (.sl 2 (gcells cW l)) rfl (o_mv (Nv (leastI l i)) rfl ?_)
  refine g_index cW l (leastI l i) cW_len rfl gn f111_ rfl rfl (by omega) ?_
  refine g_loadA cW l (leastI l i) default cW_len gn f20_ rfl (by omega) ?_
  refine o_ct (c_wCmp (l.getD i default) (l.getD (leastI l i) default)) gn f115_ rfl ?_
  refine o_lss (a := (cmpZ (l.getD i default) (l.getD (leastI l i) default))) (c := ((0 : Nat) : Int)) gn rfl rfl ?_
  refine aops_end ⟨by kernel_rfl, ?_⟩
  refine hK8 _ ?_
  refine awp_condQ (q := (cmpZ (l.getD i default) (l.getD (leastI l i) default)) < ((0 : Nat) : Int)) rfl (fun h2 => ?_) (fun h2 => ?_)
  ·refine awp_region rfl (o_mv (Nv i) rfl (o_as (Nv i) rfl ?_))
   refine n_as (v' := (Nv (leastI l (i + 1)))) (by exact congrArg (nm _) (by first | rfl | exact (least_y (cmpZ_lt.1 (by assumption))).symm)) ?_
   refine aops_end (hK6 _ (awp_region rfl ?_))
   refine n_add i 1 gn rfl rfl (by simp only [topOf]; omega) ?_
   refine o_mv (Nv (i + 1)) rfl (aops_end ?_)
   refine ⟨_, _, ?lt, ⟨i + 1, (by omega), rfl, rfl⟩, ?wk⟩
   case lt => omega
   case wk => exact Wk.sub ⟨rfl, (by first | rfl | exact nm_int (by omega)), rfl, (by first | rfl | exact nm_int (by omega)), trivial⟩ trivial
  ·refine awp_wk (Wk.slot (i := 3) (y := (Nv (leastI l (i + 1)))) (AV.le_eq (by exact congrArg (nm _) (least_n (fun e => absurd (cmpZ_lt.2 e) (by assumption))).symm))) ?_
   refine awp_skip (hK6 _ (awp_region rfl ?_))
   refine n_add i 1 gn rfl rfl (by simp only [topOf]; omega) ?_
   refine o_mv (Nv (i + 1)) rfl (aops_end ?_)
   refine ⟨_, _, ?lt, ⟨i + 1, (by omega), rfl, rfl⟩, ?wk⟩
   case lt => omega
   case wk => exact Wk.sub ⟨rfl, (by first | rfl | exact nm_int (by omega)), rfl, (by first | rfl | exact nm_int (by omega)), trivial⟩ trivial
 ·refine awp_exit ?_
  refine hK2 _ (awp_seq fun K9 hK9 => awp_regionD rfl (o_mv (.sl 2 (gcells cW l)) rfl (o_mv (Nv (leastI l i)) rfl ?_)))
  refine g_slice cW l (leastI l i) (l.length) cW_len gn f111_ rfl (lo_nm rfl) rfl trivial (by omega) (by omega) ?_
  refine o_callM 701 [.sl 2 (gcells cW ((l.drop (leastI l i)).take (l.length - leastI l i)))] gn f116_ rfl (c_cloneW ((l.drop (leastI l i)).take (l.length - leastI l i)) (by simp only [List.length_take, List.length_drop]; omega) (by simp only [List.length_take, List.length_drop]; omega)) rfl ?_
  refine o_mv (.sl 2 (gcells cW l)) rfl (o_mv (Nv (leastI l i)) rfl ?_)
  refine g_slice cW l 0 (leastI l i) cW_len gn f111_ rfl rfl (hi_nm rfl) trivial (by omega) (by omega) ?_
  refine g_appendSl cW 101 ((l.drop (leastI l i)).take (l.length - leastI l i)) ((l.drop 0).take (leastI l i - 0)) [] cW_len rfl gn f111_ f15_ rfl rfl rfl rfl (by simp only [List.length_append, List.length_take, List.length_drop]; omega) (by simp only [List.length_append, List.length_take, List.length_drop]; omega) rfl rfl ?_
  refine o_as (.row 101) rfl ?_
  refine aops_end ⟨by kernel_rfl, ?_⟩
  refine hK9 _ ?_
  refine awp_wk (σ' := ⟨[(2, .row 101)], [(101, .row 51 2 (gcells cW (((l.drop (leastI l i)).take (l.length - leastI l i)) ++ ((l.drop 0).take (leastI l i - 0)))))]⟩) (Wk.sub ⟨rfl, trivial⟩ ⟨rfl, trivial⟩) ?_
  refine awp_wk (σ' := ⟨[(2, .sl 2 (gcells cW (((l.drop (leastI l i)).take (l.length - leastI l i)) ++ ((l.drop 0).take (leastI l i - 0)))))], []⟩) (Wk.freeze (id := 101) (e := 51) (sz := 2) (cs := (gcells cW (((l.drop (leastI l i)).take (l.length - leastI l i)) ++ ((l.drop 0).take (leastI l i - 0))))) rfl) ?_
  refine awp_ret ?_
  refine post_ret ⟨[.sl 2 (gcells cW (((l.drop (leastI l i)).take (l.length - leastI l i)) ++ ((l.drop 0).take (leastI l i - 0))))], ⟨AV.le_refl _, trivial⟩, rfl, ?_⟩
  have hin : i = l.length := by omega
  subst hin
  exact gs_as (rot_cut l (by omega)).symm

theorem c_fFollow (m : MapM) (z : Int) (at_ N most : Nat) (hM : OkM m) (hz : (digs z.natAbs).length ≤ 1000) (hR : FirstR m z at_ N) (hN : N ≤ most) (hmost : N ≤ 900) (hm2 : most ≤ 1000000) (hfit : ∀ i, i ≤ N → ndig (iterZ m i z).natAbs ≤ 2000) : ECalls cx 28 [mapV m, intW z, Nv most] (.tup [nm .i64 at_, .sl 2 (gcells cW (rotM ((orbL m z N).drop at_))), nm .i64 0]) := by
 refine ecalls_of_awpT Tryz.func28 (c := _) rfl (Nat.le_of_ble_eq_true rfl) ?_
 show awpT cx 53 [] _ (postT cx Tryz.f28 _) ⟨[(0, mapV m), (1, intW z), (2, Nv most)], []⟩
 have hR0 := hR
 obtain ⟨r1, r2, r3⟩ := hR0
 refine awpT_seq fun K0 hK0 => ?_
 refine awpT_lift ?_
 refine awp_region rfl ?_
 refine o_box 2 [Iv m.mod, Lv m.mul, Lv m.add] gn rfl rfl ?_
 refine o_box 3 [bp (z < 0), .sl 1 (ns .u32 (digs z.natAbs))] gn rfl rfl ?_
 refine o_box 4 [Nv most] gn rfl rfl ?_
 refine o_alloc 5 [Nv 0] gn f26_ rfl rfl rfl ?_
 refine o_alloc 6 [Zv] gn f124_ rfl rfl rfl ?_
 refine o_alloc 7 [Nv 0] gn f135_ rfl rfl rfl ?_
 refine aops_end ?_
 refine hK0 _ _ ?_
 refine awpT_scope ?_
 refine awpT_seq fun K1 hK1 => ?_
 refine awpT_lift ?_
 refine awp_regionMM 9600 9601 17 _ _ _ _ rfl rfl rfl rfl rfl fun gb => ?_
 refine o_alloc 8 [.lit (Go.Value.map none)] gn f136_ rfl rfl rfl ?_
 refine o_store [(8, .var 108 [.lit (.map (some gb))]), (9601, .pin [.ref 9600 0] [.pointer (some ⟨gb, 0, none⟩)]), (9600, .blk (.map #[] 0)), (7, .var 23 [Nv 0]), (6, .var 57 [Zv]), (5, .var 3 [Nv 0]), (4, .var 3 [Nv most]), (3, oZ 51 .u32 z), (2, oM 28 m)] gn f137_ rfl rfl rfl rfl rfl rfl ?_
 refine aops_end ?_
 refine hK1 _ _ ?_
 refine awpT_seq fun K2 hK2 => ?_
 refine awpT_lift ?_
 refine awp_region rfl ?_
 refine o_alloc 9 [Zv] gn f124_ rfl rfl rfl ?_
 refine aops_end ?_
 refine hK2 _ _ ?_
 refine awpT_seq fun K3 hK3 => ?_
 refine awpT_lift ?_
 refine awp_region rfl ?_
 refine o_alloc 10 [Nv 0] gn f26_ rfl rfl rfl ?_
 refine o_store [(10, .var 3 [Iv (-1)]), (9, .var 57 [Zv]), (8, .var 108 [.lit (.map (some gb))]), (9601, .pin [.ref 9600 0] [.pointer (some ⟨gb, 0, none⟩)]), (9600, .blk (.map #[] 0)), (7, .var 23 [Nv 0]), (6, .var 57 [Zv]), (5, .var 3 [Nv 0]), (4, .var 3 [Nv most]), (3, oZ 51 .u32 z), (2, oM 28 m)] gn f41_ rfl rfl rfl rfl rfl rfl ?_
 refine aops_end ?_
 refine hK3 _ _ ?_
 refine awpT_seq fun K4 hK4 => ?_
 refine awpT_lift ?_
 refine awp_label ?_
 refine hK4 _ _ ?_
 refine awpT_seq fun K5 hK5 => ?_
 refine awpT_seq fun K6 hK6 => ?_
 refine awpT_lift ?_
 refine awp_region rfl ?_
 refine o_loadA [Iv m.mod, Lv m.mul, Lv m.add] gn f64_ rfl rfl rfl rfl rfl ?_
 refine o_loadA [bp (z < 0), .sl 1 (ns .u32 (digs z.natAbs))] gn f20_ rfl rfl rfl rfl rfl ?_
 refine o_callW 8001 8002 [mapV m, intW z] gn f138_ rfl rfl rfl rfl (c_sWalk m z) rfl rfl ?_
 refine aops_end ?_
 refine hK6 _ _ ?_
 refine awpT_block ?_
 refine awpT_wk (Wk.nilIn (i := 9) (id := 711) (ty := 57) (e := 51) (sz := 2) rfl rfl (by decide)) ?_
 refine awpT_wk (σ' := ⟨[(5, .ref 4 0), (6, .ref 5 0), (7, .ref 6 0), (8, .ref 7 0), (9, .ref 8 0), (10, .ref 9 0), (11, .ref 10 0), (20, .clo 87 [.ref 8001 0, .ref 8002 0])], [(8001, oZ 51 .u32 z), (8002, oM 28 m), (4, .var 3 [Nv most]), (5, .var 3 [Nv 0]), (6, .var 57 [Zv]), (7, .var 23 [Nv 0]), (8, .var 108 [.lit (.map (some gb))]), (9, .var 57 [.row 711]), (10, .var 3 [Iv (-1)]), (711, .row 51 2 ([])), (9601, .pin [.ref 9600 0] [.pointer (some ⟨gb, 0, none⟩)]), (9600, .blk (.map #[] 0))]⟩) (Wk.sub ⟨rfl, rfl, rfl, rfl, rfl, rfl, rfl, rfl, trivial⟩ ⟨rfl, rfl, rfl, rfl, rfl, rfl, rfl, rfl, rfl, rfl, rfl, rfl, trivial⟩) ?_
 refine awpT_range (C := cx) rfl (gf := 87) (fnI := Tryz.f87) (caps := [.ref 8001 0, .ref 8002 0]) (so := [(5, .ref 4 0), (6, .ref 5 0), (7, .ref 6 0), (8, .ref 7 0), (9, .ref 8 0), (10, .ref 9 0), (11, .ref 10 0), (20, .clo 87 [.ref 8001 0, .ref 8002 0])]) ⟨rfl, rfl, rfl, rfl, rfl, rfl, rfl, rfl, trivial⟩ Tryz.func87 rfl f139_ (by decide) rfl rfl rfl rfl rfl (fun (fn : FuncId) (tmps : Array Value) (D l : Nat) (pe : Option Code) (m' : List (Nat × AO)) => (True ∧ pe = some (.exit 0) ∧ m' = [(4, .var 3 [Nv most]), (5, .var 3 [Nv 0]), (6, .var 57 [Zv]), (7, .var 23 [Nv 0]), (8, .var 108 [.lit (.map (some gb))]), (9, .var 57 [.row 711]), (10, .var 3 [Nv at_]), (711, .row 51 2 (gcells cW (orbL m z N)))])) ?it0 ?nx0
 case it0 =>
  intro fn tmps D l hsz
  refine awp_mono (it_Walk m z hM l D fn tmps _ _ _ N (fun (k : Nat) (mm : List (Nat × AO)) => (k ≤ N) ∧ mm = ((9002, .blk (.deferred (some []))) :: (9003, pinA [(5, .ref 4 0), (6, .ref 5 0), (7, .ref 6 0), (8, .ref 7 0), (9, .ref 8 0), (10, .ref 9 0), (11, .ref 10 0), (20, .clo 87 [.ref 8001 0, .ref 8002 0])] tmps) :: (9004, pinL l D) :: (4, .var 3 [Nv most]) :: (5, .var 3 [Nv 0]) :: (6, .var 57 [Zv]) :: (7, .var 23 [Nv 0]) :: (8, .var 108 [.lit (.map (some gb))]) :: (9, .var 57 [.row 711]) :: (10, .var 3 [Iv (-1)]) :: (711, .row 51 2 (gcells cW (orbL m z k))) :: (9601, .pin [.ref 9600 0] [.pointer (some ⟨gb, 0, none⟩)]) :: (9600, .blk (metO (fM m z) k)) :: [])) (fun c mm => ∃ m2, mm = ((9002, .blk (.deferred (some []))) :: (9003, pinA [(5, .ref 4 0), (6, .ref 5 0), (7, .ref 6 0), (8, .ref 7 0), (9, .ref 8 0), (10, .ref 9 0), (11, .ref 10 0), (20, .clo 87 [.ref 8001 0, .ref 8002 0])] tmps) :: (9004, pinL l D) :: m2) ∧ (fun (fn : FuncId) (tmps : Array Value) (D l : Nat) (pe : Option Code) (m' : List (Nat × AO)) => (True ∧ pe = some (.exit 0) ∧ m' = [(4, .var 3 [Nv most]), (5, .var 3 [Nv 0]), (6, .var 57 [Zv]), (7, .var 23 [Nv 0]), (8, .var 108 [.lit (.map (some gb))]), (9, .var 57 [.row 711]), (10, .var 3 [Nv at_]), (711, .row 51 2 (gcells cW (orbL m z N)))])) fn tmps D l (some c) m2) ?R0 ⟨Nat.zero_le _, rfl⟩ (Wk.sub ⟨rfl, rfl, rfl, trivial⟩ ⟨rfl, rfl, rfl, rfl, rfl, rfl, rfl, rfl, rfl, rfl, rfl, rfl, rfl, rfl, rfl, rfl, trivial⟩) (by omega) rfl) ?fin0
  case fin0 =>
   rintro e σ ⟨rfl, c, mm', ⟨m2, rfl, hX⟩, hwk⟩
   exact ⟨.inl rfl, .done, some c, m2, (by decide), hX, (by rcases hX with ⟨_, _, rfl⟩ <;> rfl), (by rcases hX with ⟨_, _, rfl⟩ <;> rfl), hwk⟩
  case R0 =>
   rintro k _ ⟨hk, rfl⟩
   have k1 := iter_len hM z k
   have k2 := orbL_len m z k
   have k3 := hfit k hk
   refine ⟨hk, (by omega), yldAt_of_round (so := [(5, .ref 4 0), (6, .ref 5 0), (7, .ref 6 0), (8, .ref 7 0), (9, .ref 8 0), (10, .ref 9 0), (11, .ref 10 0), (20, .clo 87 [.ref 8001 0, .ref 8002 0])]) (n := 53) (D' := D) rfl hsz (by decide) rfl rfl rfl rfl rfl rfl fun us => ?_⟩
   show awp cx 53 _ _ ⟨[(22, intW (iterZ m k z)), (21, Nv k), (5, .ref 4 0), (6, .ref 5 0), (7, .ref 6 0), (8, .ref 7 0), (9, .ref 8 0), (10, .ref 9 0), (11, .ref 10 0), (20, .clo 87 [.ref 8001 0, .ref 8002 0])], [(9005, .pin [.lit (.func (.yield l) #[] #[]), .ref 8001 0, .ref 8002 0, Nv k] us), (9001, .blk (.loop (lrec fn tmps _ _ _ D .ready none))), (8001, oZ 51 .u32 (iterZ m k z)), (8002, oM 28 m), (9002, .blk (.deferred (some []))), (9003, pinA [(5, .ref 4 0), (6, .ref 5 0), (7, .ref 6 0), (8, .ref 7 0), (9, .ref 8 0), (10, .ref 9 0), (11, .ref 10 0), (20, .clo 87 [.ref 8001 0, .ref 8002 0])] tmps), (9004, pinL l D), (4, .var 3 [Nv most]), (5, .var 3 [Nv 0]), (6, .var 57 [Zv]), (7, .var 23 [Nv 0]), (8, .var 108 [.lit (.map (some gb))]), (9, .var 57 [.row 711]), (10, .var 3 [Iv (-1)]), (711, .row 51 2 (gcells cW (orbL m z k))), (9601, .pin [.ref 9600 0] [.pointer (some ⟨gb, 0, none⟩)]), (9600, .blk (metO (fM m z) k))]⟩
   refine awp_seq fun K7 hK7 => awp_region rfl (o_as (Nv k) rfl (aops_end (hK7 _ (awp_region rfl ?_))))
   refine o_alloc 101 [Fv, Zv] gn f15_ rfl rfl rfl ?_
   refine o_store [(101, oZ 51 .u32 (iterZ m k z)), (9005, .pin [.lit (.func (.yield l) #[] #[]), .ref 8001 0, .ref 8002 0, Nv k] us), (9001, .blk (.loop (lrec fn tmps _ _ _ D .ready none))), (8001, oZ 51 .u32 (iterZ m k z)), (8002, oM 28 m), (9002, .blk (.deferred (some []))), (9003, pinA [(5, .ref 4 0), (6, .ref 5 0), (7, .ref 6 0), (8, .ref 7 0), (9, .ref 8 0), (10, .ref 9 0), (11, .ref 10 0), (20, .clo 87 [.ref 8001 0, .ref 8002 0])] tmps), (9004, pinL l D), (4, .var 3 [Nv most]), (5, .var 3 [Nv 0]), (6, .var 57 [Zv]), (7, .var 23 [Nv 0]), (8, .var 108 [.lit (.map (some gb))]), (9, .var 57 [.row 711]), (10, .var 3 [Iv (-1)]), (711, .row 51 2 (gcells cW (orbL m z k))), (9601, .pin [.ref 9600 0] [.pointer (some ⟨gb, 0, none⟩)]), (9600, .blk (metO (fM m z) k))] gn f19_ rfl rfl rfl rfl rfl rfl ?_
   refine aops_end ?_
   refine ⟨[(22, intW (iterZ m k z)), (21, Nv k), (5, .ref 4 0), (6, .ref 5 0), (7, .ref 6 0), (8, .ref 7 0), (9, .ref 8 0), (10, .ref 9 0), (11, .ref 10 0), (20, .clo 87 [.ref 8001 0, .ref 8002 0]), (12, Nv k), (13, .ref 101 0)], [(101, oZ 51 .u32 (iterZ m k z)), (9005, .pin [.lit (.func (.yield l) #[] #[]), .ref 8001 0, .ref 8002 0, Nv k] us), (8001, oZ 51 .u32 (iterZ m k z)), (8002, oM 28 m), (9002, .blk (.deferred (some []))), (9003, pinA [(5, .ref 4 0), (6, .ref 5 0), (7, .ref 6 0), (8, .ref 7 0), (9, .ref 8 0), (10, .ref 9 0), (11, .ref 10 0), (20, .clo 87 [.ref 8001 0, .ref 8002 0])] tmps), (9004, pinL l D), (4, .var 3 [Nv most]), (5, .var 3 [Nv 0]), (6, .var 57 [Zv]), (7, .var 23 [Nv 0]), (8, .var 108 [.lit (.map (some gb))]), (9, .var 57 [.row 711]), (10, .var 3 [Iv (-1)]), (711, .row 51 2 (gcells cW (orbL m z k))), (9601, .pin [.ref 9600 0] [.pointer (some ⟨gb, 0, none⟩)]), (9600, .blk (metO (fM m z) k))], Wk.sub ⟨rfl, rfl, rfl, rfl, rfl, rfl, rfl, rfl, rfl, rfl, rfl, rfl, trivial⟩ ⟨rfl, rfl, rfl, rfl, rfl, rfl, rfl, rfl, rfl, rfl, rfl, rfl, rfl, rfl, rfl, rfl, rfl, rfl, trivial⟩, rfl, ?_⟩
   refine awp_block ?_
   refine awp_seq fun K8 hK8 => ?_
   refine awp_block ?_
   refine awp_seq fun K9 hK9 => awp_region rfl (o_mv (Nv k) rfl ?_)
   refine o_loadS (Nv most) gn f11_ rfl rfl rfl ?_
   refine n_gtr k most gn rfl rfl ?_
   refine n_as (v' := Fv) (by exact bpn (by omega)) ?_
   refine o_as Fv rfl (aops_end (hK9 _ ?_))
   refine awp_condB (b := false) rfl (fun hh => absurd (hh.symm.trans rfl) (by decide)) (fun _ => ?_)
   refine awp_seq fun K10 hK10 => awp_region rfl ?_
   refine o_loadA [bp ((iterZ m k z) < 0), .sl 1 (ns .u32 (digs (iterZ m k z).natAbs))] gn f20_ rfl rfl rfl rfl rfl ?_
   refine o_ct (c_wDigits (iterZ m k z) (by first | omega | assumption | (simp only [Int.natAbs_neg]; omega))) gn f60_ rfl ?_
   refine n_gtr (ndig (iterZ m k z).natAbs) 2000 gn rfl rfl ?_
   refine n_as (v' := Fv) (by exact bpn (by omega)) ?_
   refine o_as Fv rfl (aops_end (hK10 _ ?_))
   refine awp_condB (b := false) rfl (fun hh => absurd (hh.symm.trans rfl) (by decide)) (fun _ => ?_)
   refine awp_skip (hK8 _ (awp_seq fun K11 hK11 => awp_region rfl ?_))
   refine o_loadA [bp ((iterZ m k z) < 0), .sl 1 (ns .u32 (digs (iterZ m k z).natAbs))] gn f20_ rfl rfl rfl rfl rfl ?_
   refine o_ct (c_wText (iterZ m k z) (by first | omega | assumption | (simp only [Int.natAbs_neg]; omega))) gn f61_ rfl ?_
   refine o_as (Sv (txt (iterZ m k z))) rfl (aops_end (hK11 _ (awp_seq fun K12 hK12 => awp_seq fun K13 hK13 => awp_region rfl ?_)))
   refine o_loadS (.lit (.map (some gb))) gn f140_ rfl rfl rfl ?_
   refine o_mv (Sv (txt (iterZ m k z))) rfl ?_
   refine o_lookMet 9601 9600 gb (fM m z) (txt (iterZ m k z)) k gn f141_ f54_ f142_ rfl rfl rfl rfl ?_
   refine o_mv (.tup [Nv ((mfind (fM m z) (txt (iterZ m k z)) k).getD 0), .lit (.bool ((mfind (fM m z) (txt (iterZ m k z)) k).isSome))]) rfl (o_extract (Nv ((mfind (fM m z) (txt (iterZ m k z)) k).getD 0)) gn rfl rfl (o_extract (.lit (.bool ((mfind (fM m z) (txt (iterZ m k z)) k).isSome))) gn rfl rfl (o_as (Nv ((mfind (fM m z) (txt (iterZ m k z)) k).getD 0)) rfl (o_as (.lit (.bool ((mfind (fM m z) (txt (iterZ m k z)) k).isSome))) rfl (aops_end (hK13 _ (awp_seq fun K14 hK14 => awp_region rfl (o_mv (.lit (.bool ((mfind (fM m z) (txt (iterZ m k z)) k).isSome))) rfl (aops_end (hK14 _ ?_))))))))))
   refine awp_condB (b := (mfind (fM m z) (txt (iterZ m k z)) k).isSome) rfl (fun h1 => ?_) (fun h1 => ?_)
   ·have hkN := fm_isN hR hk h1
    refine awp_seq fun K15 hK15 => awp_region rfl (o_mv (Nv ((mfind (fM m z) (txt (iterZ m k z)) k).getD 0)) rfl ?_)
    refine n_as (v' := (Nv at_)) (by have q := fm_isN hR hk h1; subst q; exact congrArg (fun o : Option Nat => nm .i64 (o.getD 0)) (fm_yes hR)) ?_
    refine o_store [(9001, .blk (.loop (lrec fn tmps _ _ _ D .busy none))), (101, oZ 51 .u32 (iterZ m k z)), (9005, .pin [.lit (.func (.yield l) #[] #[]), .ref 8001 0, .ref 8002 0, Nv k] us), (8001, oZ 51 .u32 (iterZ m k z)), (8002, oM 28 m), (9002, .blk (.deferred (some []))), (9003, pinA [(5, .ref 4 0), (6, .ref 5 0), (7, .ref 6 0), (8, .ref 7 0), (9, .ref 8 0), (10, .ref 9 0), (11, .ref 10 0), (20, .clo 87 [.ref 8001 0, .ref 8002 0])] tmps), (9004, pinL l D), (4, .var 3 [Nv most]), (5, .var 3 [Nv 0]), (6, .var 57 [Zv]), (7, .var 23 [Nv 0]), (8, .var 108 [.lit (.map (some gb))]), (9, .var 57 [.row 711]), (10, .var 3 [Nv at_]), (711, .row 51 2 (gcells cW (orbL m z k))), (9601, .pin [.ref 9600 0] [.pointer (some ⟨gb, 0, none⟩)]), (9600, .blk (metO (fM m z) k))] gn f41_ rfl rfl rfl rfl rfl rfl ?_
    refine aops_end (hK15 _ ?_)
    refine awp_exit ?_
    exact ⟨[(9002, .blk (.deferred (some []))), (9003, pinA [(5, .ref 4 0), (6, .ref 5 0), (7, .ref 6 0), (8, .ref 7 0), (9, .ref 8 0), (10, .ref 9 0), (11, .ref 10 0), (20, .clo 87 [.ref 8001 0, .ref 8002 0])] tmps), (9004, pinL l D), (4, .var 3 [Nv most]), (5, .var 3 [Nv 0]), (6, .var 57 [Zv]), (7, .var 23 [Nv 0]), (8, .var 108 [.lit (.map (some gb))]), (9, .var 57 [.row 711]), (10, .var 3 [Nv at_]), (711, .row 51 2 (gcells cW (orbL m z N)))], Wk.sub trivial ⟨rfl, rfl, rfl, rfl, rfl, rfl, rfl, rfl, rfl, rfl, rfl, (by first | rfl | (first | exact row_gs' (orbL_s m z k) | exact row_gs' (by rw [fm_isN hR hk h1]))), (by first | rfl | exact row_ns (by simp) | (first | exact row_gs' (orbL_s m z k) | exact row_gs' (by rw [fm_isN hR hk h1]))), trivial⟩, rfl, rfl, _, rfl, ⟨trivial, rfl, rfl⟩⟩
   ·refine awp_skip (hK12 _ (awp_seq fun K16 hK16 => awp_region rfl ?_))
    refine o_loadS (.lit (.map (some gb))) gn f140_ rfl rfl rfl ?_
    refine o_mv (Sv (txt (iterZ m k z))) rfl (o_mv (Nv k) rfl ?_)
    refine o_updMet 9601 9600 gb (fM m z) k [(9001, .blk (.loop (lrec fn tmps _ _ _ D .busy none))), (101, oZ 51 .u32 (iterZ m k z)), (9005, .pin [.lit (.func (.yield l) #[] #[]), .ref 8001 0, .ref 8002 0, Nv k] us), (8001, oZ 51 .u32 (iterZ m k z)), (8002, oM 28 m), (9002, .blk (.deferred (some []))), (9003, pinA [(5, .ref 4 0), (6, .ref 5 0), (7, .ref 6 0), (8, .ref 7 0), (9, .ref 8 0), (10, .ref 9 0), (11, .ref 10 0), (20, .clo 87 [.ref 8001 0, .ref 8002 0])] tmps), (9004, pinL l D), (4, .var 3 [Nv most]), (5, .var 3 [Nv 0]), (6, .var 57 [Zv]), (7, .var 23 [Nv 0]), (8, .var 108 [.lit (.map (some gb))]), (9, .var 57 [.row 711]), (10, .var 3 [Iv (-1)]), (711, .row 51 2 (gcells cW (orbL m z k))), (9601, .pin [.ref 9600 0] [.pointer (some ⟨gb, 0, none⟩)]), (9600, .blk (metO (fM m z) (k + 1)))] gn f141_ f54_ rfl rfl rfl rfl rfl (fm_no hR (fm_lt hR hk h1)) rfl ?_
    refine aops_end (hK16 _ (awp_region rfl ?_))
    refine o_loadS (.row 711) gn f129_ rfl rfl rfl ?_
    refine o_loadA [bp ((iterZ m k z) < 0), .sl 1 (ns .u32 (digs (iterZ m k z).natAbs))] gn f20_ rfl rfl rfl rfl rfl ?_
    refine o_buildSlice 102 (gcells cW ([iterZ m k z])) [(0, [bp ((iterZ m k z) < 0), .sl 1 (ns .u32 (digs (iterZ m k z).natAbs))])] gn f111_ rfl f15_ rfl rfl rfl rfl rfl rfl rfl ?_
    refine g_append cW 103 (orbL m z k) ([iterZ m k z]) [(102, .row 51 2 (gcells cW ([iterZ m k z]))), (9001, .blk (.loop (lrec fn tmps _ _ _ D .busy none))), (101, oZ 51 .u32 (iterZ m k z)), (9005, .pin [.lit (.func (.yield l) #[] #[]), .ref 8001 0, .ref 8002 0, Nv k] us), (8001, oZ 51 .u32 (iterZ m k z)), (8002, oM 28 m), (9002, .blk (.deferred (some []))), (9003, pinA [(5, .ref 4 0), (6, .ref 5 0), (7, .ref 6 0), (8, .ref 7 0), (9, .ref 8 0), (10, .ref 9 0), (11, .ref 10 0), (20, .clo 87 [.ref 8001 0, .ref 8002 0])] tmps), (9004, pinL l D), (4, .var 3 [Nv most]), (5, .var 3 [Nv 0]), (6, .var 57 [Zv]), (7, .var 23 [Nv 0]), (8, .var 108 [.lit (.map (some gb))]), (9, .var 57 [.row 711]), (10, .var 3 [Iv (-1)]), (9601, .pin [.ref 9600 0] [.pointer (some ⟨gb, 0, none⟩)]), (9600, .blk (metO (fM m z) (k + 1)))] cW_len rfl gn f111_ f15_ rfl rfl rfl rfl rfl (by simp only [List.length_append, List.length_cons, List.length_nil]; omega) (by simp only [List.length_append, List.length_cons, List.length_nil]; omega) rfl rfl ?_
    refine o_store [(103, .row 51 2 (gcells cW ((orbL m z k) ++ ([iterZ m k z])))), (102, .row 51 2 (gcells cW ([iterZ m k z]))), (9001, .blk (.loop (lrec fn tmps _ _ _ D .busy none))), (101, oZ 51 .u32 (iterZ m k z)), (9005, .pin [.lit (.func (.yield l) #[] #[]), .ref 8001 0, .ref 8002 0, Nv k] us), (8001, oZ 51 .u32 (iterZ m k z)), (8002, oM 28 m), (9002, .blk (.deferred (some []))), (9003, pinA [(5, .ref 4 0), (6, .ref 5 0), (7, .ref 6 0), (8, .ref 7 0), (9, .ref 8 0), (10, .ref 9 0), (11, .ref 10 0), (20, .clo 87 [.ref 8001 0, .ref 8002 0])] tmps), (9004, pinL l D), (4, .var 3 [Nv most]), (5, .var 3 [Nv 0]), (6, .var 57 [Zv]), (7, .var 23 [Nv 0]), (8, .var 108 [.lit (.map (some gb))]), (9, .var 57 [.row 103]), (10, .var 3 [Iv (-1)]), (9601, .pin [.ref 9600 0] [.pointer (some ⟨gb, 0, none⟩)]), (9600, .blk (metO (fM m z) (k + 1)))] gn f143_ rfl rfl rfl rfl rfl rfl ?_
    refine aops_end ?_
    exact ⟨[(8001, oZ 51 .u32 (iterZ m k z)), (8002, oM 28 m), (9002, .blk (.deferred (some []))), (9003, pinA [(5, .ref 4 0), (6, .ref 5 0), (7, .ref 6 0), (8, .ref 7 0), (9, .ref 8 0), (10, .ref 9 0), (11, .ref 10 0), (20, .clo 87 [.ref 8001 0, .ref 8002 0])] tmps), (9004, pinL l D), (4, .var 3 [Nv most]), (5, .var 3 [Nv 0]), (6, .var 57 [Zv]), (7, .var 23 [Nv 0]), (8, .var 108 [.lit (.map (some gb))]), (9, .var 57 [.row 711]), (10, .var 3 [Iv (-1)]), (711, .row 51 2 (gcells cW (orbL m z (k + 1)))), (9601, .pin [.ref 9600 0] [.pointer (some ⟨gb, 0, none⟩)]), (9600, .blk (metO (fM m z) (k + 1)))], Wk.trans (Wk.sub (σ' := ⟨[], [(9005, .pin [.lit (.func (.yield l) #[] #[]), .ref 8001 0, .ref 8002 0, Nv k] us), (9001, .blk (.loop (lrec fn tmps _ _ _ D .busy none))), (8001, oZ 51 .u32 (iterZ m k z)), (8002, oM 28 m), (9002, .blk (.deferred (some []))), (9003, pinA [(5, .ref 4 0), (6, .ref 5 0), (7, .ref 6 0), (8, .ref 7 0), (9, .ref 8 0), (10, .ref 9 0), (11, .ref 10 0), (20, .clo 87 [.ref 8001 0, .ref 8002 0])] tmps), (9004, pinL l D), (4, .var 3 [Nv most]), (5, .var 3 [Nv 0]), (6, .var 57 [Zv]), (7, .var 23 [Nv 0]), (8, .var 108 [.lit (.map (some gb))]), (9, .var 57 [.row 103]), (103, .row 51 2 (gcells cW ((orbL m z k) ++ ([iterZ m k z])))), (10, .var 3 [Iv (-1)]), (9601, .pin [.ref 9600 0] [.pointer (some ⟨gb, 0, none⟩)]), (9600, .blk (metO (fM m z) (k + 1)))]⟩) trivial ⟨rfl, rfl, rfl, rfl, rfl, rfl, rfl, rfl, rfl, rfl, rfl, rfl, rfl, rfl, rfl, rfl, rfl, trivial⟩) (Wk.trans (Wk.ren (id := 103) (id' := 711) rfl) (Wk.sub trivial ⟨(by first | rfl | (first | exact row_gs' (orbL_s m z k) | exact row_gs' (by rw [fm_isN hR hk h1]))), (by first | rfl | (first | exact row_gs' (orbL_s m z k) | exact row_gs' (by rw [fm_isN hR hk h1]))), rfl, rfl, (by first | rfl | (first | exact row_gs' (orbL_s m z k) | exact row_gs' (by rw [fm_isN hR hk h1]))), (by first | rfl | (first | exact row_gs' (orbL_s m z k) | exact row_gs' (by rw [fm_isN hR hk h1]))), (by first | rfl | (first | exact row_gs' (orbL_s m z k) | exact row_gs' (by rw [fm_isN hR hk h1]))), rfl, rfl, rfl, rfl, rfl, (by first | rfl | (first | exact row_gs' (orbL_s m z k) | exact row_gs' (by rw [fm_isN hR hk h1]))), rfl, (by first | rfl | exact row_ns (by simp) | (first | exact row_gs' (orbL_s m z k) | exact row_gs' (by rw [fm_isN hR hk h1]))), (by first | rfl | (first | exact row_gs' (orbL_s m z k) | exact row_gs' (by rw [fm_isN hR hk h1]))), (by first | rfl | (first | exact row_gs' (orbL_s m z k) | exact row_gs' (by rw [fm_isN hR hk h1]))), trivial⟩)), rfl, rfl, _, rfl, (by have := fm_lt hR hk h1; omega), rfl⟩
 case nx0 =>
  rintro fn tmps D l pe m' (⟨hkN, rfl, rfl⟩)
  ·refine hK5 _ _ ?_
   refine awpT_seq fun K17 hK17 => ?_
   refine awpT_lift ?_
   have k2 := orbL_len m z N
   refine awp_wk (σ' := ⟨[(5, .ref 4 0), (6, .ref 5 0), (7, .ref 6 0), (8, .ref 7 0), (9, .ref 8 0), (10, .ref 9 0), (11, .ref 10 0), (20, .clo 87 [.ref 8001 0, .ref 8002 0])], [(9002, .blk (.deferred (some []))), (9004, pinL l D), (4, .var 3 [Nv most]), (5, .var 3 [Nv 0]), (6, .var 57 [Zv]), (7, .var 23 [Nv 0]), (8, .var 108 [.lit (.map (some gb))]), (9, .var 57 [.sl 2 (gcells cW (orbL m z N))]), (10, .var 3 [Nv at_])]⟩) (Wk.freeze (id := 711) (e := 51) (sz := 2) (cs := (gcells cW (orbL m z N))) rfl) ?_
   refine awp_regionD rfl ?_
   refine o_loadS (Nv at_) gn f11_ rfl rfl rfl ?_
   refine o_loadS (.sl 2 (gcells cW (orbL m z N))) gn f129_ rfl rfl rfl ?_
   refine o_loadS (Nv at_) gn f11_ rfl rfl rfl ?_
   refine g_slice cW (orbL m z N) at_ ((orbL m z N).length) cW_len gn f111_ rfl (lo_nm rfl) rfl trivial (by omega) (by omega) ?_
   refine n_as (v' := (.sl 2 (gcells cW ((orbL m z N).drop at_)))) (by exact gs_as (List.take_of_length_le (by rw [List.length_drop, orbL_len]; omega))) ?_
   refine o_ct (c_fTurned ((orbL m z N).drop at_) (by rw [List.length_drop, orbL_len]; omega) (by rw [List.length_drop, orbL_len]; omega)) gn f144_ rfl ?_
   refine o_store [(9002, .blk (.deferred (some []))), (9004, pinL l D), (4, .var 3 [Nv most]), (5, .var 3 [Nv at_]), (6, .var 57 [Zv]), (7, .var 23 [Nv 0]), (8, .var 108 [.lit (.map (some gb))]), (9, .var 57 [.sl 2 (gcells cW (orbL m z N))]), (10, .var 3 [Nv at_])] gn f41_ rfl rfl rfl rfl rfl rfl ?_
   refine o_store [(9002, .blk (.deferred (some []))), (9004, pinL l D), (4, .var 3 [Nv most]), (5, .var 3 [Nv at_]), (6, .var 57 [.sl 2 (gcells cW (rotM ((orbL m z N).drop at_)))]), (7, .var 23 [Nv 0]), (8, .var 108 [.lit (.map (some gb))]), (9, .var 57 [.sl 2 (gcells cW (orbL m z N))]), (10, .var 3 [Nv at_])] gn f143_ rfl rfl rfl rfl rfl rfl ?_
   refine o_store [(9002, .blk (.deferred (some []))), (9004, pinL l D), (4, .var 3 [Nv most]), (5, .var 3 [Nv at_]), (6, .var 57 [.sl 2 (gcells cW (rotM ((orbL m z N).drop at_)))]), (7, .var 23 [Nv 0]), (8, .var 108 [.lit (.map (some gb))]), (9, .var 57 [.sl 2 (gcells cW (orbL m z N))]), (10, .var 3 [Nv at_])] gn f145_ rfl rfl rfl rfl rfl rfl ?_
   refine aops_end ⟨by kernel_rfl, ?_⟩
   refine hK17 _ _ ?_
   refine awpT_lift ?_
   refine awp_ret ?_
   refine postT_ret ⟨[Nv at_, .sl 2 (gcells cW (rotM ((orbL m z N).drop at_))), Nv 0], ⟨⟨5, .var 3 [Nv at_], rfl, rfl, rfl, Or.inr ⟨f11_, _, rfl, AV.le_refl _⟩⟩, ⟨6, .var 57 [.sl 2 (gcells cW (rotM ((orbL m z N).drop at_)))], rfl, rfl, rfl, Or.inr ⟨f129_, _, rfl, AV.le_refl _⟩⟩, ⟨7, .var 23 [Nv 0], rfl, rfl, rfl, Or.inr ⟨f146_, _, rfl, AV.le_refl _⟩⟩, trivial⟩, rfl, ?_⟩ rfl rfl
   rfl

end Go.Proofs.YtaeknciienkijaaGreatDoor

namespace Go.Proofs.YtaeknciienkijaaGreatDoor
open Go Go.Ab Go.Mth
theorem c_bitsLen (x : Nat) (hx : x < 18446744073709551616) : ECalls cx 49 [nm .u64 x] (nm .i64 (Lib.bitLen x)) := by
 intro H L vals w hG hH hrl
 obtain rfl : vals = [.int .u64 (x : Int)] := by simp only [RepL, RepV, nm] at hrl; obtain ⟨v, r, rfl, rfl, rfl⟩ := hrl; rfl
 refine (Tryz.bits_Len (x : Int) w (by omega) (by omega)).mono ?_
 rintro e w' ⟨rfl, rfl⟩
 refine ⟨H, _, rfl, ?_, Ext.refl _ _, hH, Bel.refl _ _⟩
 simp only [RepV, nm, Int.toNat_natCast]
end Go.Proofs.YtaeknciienkijaaGreatDoor

namespace Go.Proofs.YtaeknciienkijaaGreatDoor
open Go Go.Ab Go.Mth
theorem f147_ : callable cx.P 88 = true := by kernel_rfl
theorem f148_ : cx.P.underlying 72 = some (.slice 71) := by kernel_rfl
theorem f149_ : tyInt cx.P 99 = some .u64 := by kernel_rfl
theorem f150_ : callable cx.P 49 = true := by kernel_rfl
theorem f151_ : callable cx.P 57 = true := by kernel_rfl
theorem c_nIns (cs : List AV) : ECalls cx 88 [.sl 3 cs, Nv 0, Nv 1, .clo 30 []] (.tup []) := by
 refine ecalls_of_awp Tryz.func88 (c := _) rfl (Nat.le_of_ble_eq_true rfl) ?_
 show awp cx 53 _ (postF cx Tryz.f88 _) ⟨[(0, .sl 3 cs), (1, Nv 0), (2, Nv 1), (3, .clo 30 [])], []⟩
 refine awp_seq fun K0 hK0 => awp_region rfl (o_mv (Nv 0) rfl ?_)
 refine n_add 0 1 gn rfl rfl (by simp only [topOf]; omega) ?_
 refine o_as (Nv (0 + 1)) rfl (aops_end (hK0 _ ?_))
 refine awp_block ?_
 refine awp_loopR (fun κ σ => 0 = κ ∧ σ = ⟨[(2, Nv 1), (8, Nv 1)], []⟩) ⟨_, _, ⟨rfl, rfl⟩, ?wk0⟩ ?rd0
 case wk0 =>
  exact Wk.sub ⟨rfl, (by first | rfl | exact nm_int (by omega)), trivial⟩ trivial
 rintro κ _ ⟨rfl, rfl⟩
 refine awp_seq fun K1 hK1 => awp_seq fun K2 hK2 => awp_region rfl (o_mv (Nv 1) rfl (o_mv (Nv 1) rfl ?_))
 refine n_lss 1 1 gn rfl rfl ?_
 refine n_as (v' := Fv) (by exact bpn (by decide)) ?_
 refine aops_end (hK2 _ ?_)
 refine awp_condB (b := false) rfl (fun hh => absurd (hh.symm.trans rfl) (by decide)) (fun _ => ?_)
 refine awp_exit ?_
 refine post_nrm ⟨[], trivial, rfl, ?_⟩
 rfl

theorem c_nPdq (cs : List AV) (lim : Nat) : ECalls cx 57 [.sl 3 cs, Nv 0, Nv 1, Nv lim, .clo 30 []] (.tup []) := by
 refine ecalls_of_awp Tryz.func57 (c := _) rfl (Nat.le_of_ble_eq_true rfl) ?_
 show awp cx 148 _ (postF cx Tryz.f57 _) ⟨[(0, .sl 3 cs), (1, Nv 0), (2, Nv 1), (3, Nv lim), (4, .clo 30 [])], []⟩
 refine awp_seq fun K0 hK0 => awp_region rfl (o_as Tv rfl (aops_end (hK0 _ (awp_seq fun K1 hK1 => awp_region rfl (o_as Tv rfl (aops_end (hK1 _ ?_)))))))
 refine awp_block ?_
 refine awp_loopR (fun κ σ => 0 = κ ∧ σ = ⟨[(0, .sl 3 cs), (1, Nv 0), (2, Nv 1), (3, Nv lim), (4, .clo 30 [])], []⟩) ⟨_, _, ⟨rfl, rfl⟩, ?wk0⟩ ?rd0
 case wk0 =>
  exact Wk.sub ⟨rfl, rfl, rfl, rfl, rfl, trivial⟩ trivial
 rintro κ _ ⟨rfl, rfl⟩
 refine awp_block ?_
 refine awp_seq fun K2 hK2 => awp_region rfl (o_mv (Nv 1) rfl (o_mv (Nv 0) rfl ?_))
 refine n_sub 1 0 gn rfl rfl (by omega) (by simp only [topOf]; omega) ?_
 refine n_as (v' := (Nv 1)) (by rfl) ?_
 refine o_as (Nv 1) rfl (aops_end (hK2 _ (awp_seq fun K3 hK3 => awp_seq fun K4 hK4 => awp_region rfl (o_mv (Nv 1) rfl ?_))))
 refine n_leq 1 12 gn rfl rfl ?_
 refine n_as (v' := Tv) (by exact bpy (by decide)) ?_
 refine aops_end (hK4 _ ?_)
 refine awp_condB (b := true) rfl (fun _ => ?_) (fun hh => absurd (hh.symm.trans rfl) (by decide))
 refine awp_seq fun K5 hK5 => awp_region rfl (o_mv (.sl 3 cs) rfl (o_mv (Nv 0) rfl (o_mv (Nv 1) rfl (o_mv (.clo 30 []) rfl ?_))))
 refine o_ct (c_nIns cs) gn f147_ rfl ?_
 refine aops_end (hK5 _ ?_)
 refine awp_ret ?_
 refine post_ret ⟨[], trivial, rfl, ?_⟩
 rfl

theorem c_nSort (cs : List AV) (hl : cs.length = 3) : ECalls cx 29 [.sl 3 cs, .clo 30 []] (.tup []) := by
 refine ecalls_of_awp Tryz.func29 (c := _) rfl (Nat.le_of_ble_eq_true rfl) ?_
 show awp cx 14 _ (postF cx Tryz.f29 _) ⟨[(0, .sl 3 cs), (1, .clo 30 [])], []⟩
 refine awp_seq fun K0 hK0 => awp_region rfl (o_mv (.sl 3 cs) rfl ?_)
 refine o_lenSl 1 gn f148_ rfl (by omega) ?_
 refine o_as (Nv 1) rfl (aops_end (hK0 _ (awp_region rfl (o_mv (.sl 3 cs) rfl (o_mv (Nv 1) rfl (o_mv (Nv 1) rfl ?_))))))
 refine n_conv 1 gn rfl f39_ f149_ (by simp only [topOf]; omega) ?_
 refine o_ct (c_bitsLen 1 (by decide)) gn f150_ rfl ?_
 refine o_mv (.clo 30 []) rfl ?_
 refine o_ct (c_nPdq cs (Lib.bitLen 1)) gn f151_ rfl ?_
 refine aops_end ?_
 refine post_nrm ⟨[], trivial, rfl, ?_⟩
 rfl

end Go.Proofs.YtaeknciienkijaaGreatDoor

namespace Go.Proofs.YtaeknciienkijaaGreatDoor
open Go Go.Ab Go.Mth
theorem okM_c31 : OkM (kinM 3 1) := kin_ok (by decide)
theorem c_fol3 (n : Nat) (h1 : 1 ≤ n) (h2 : n ≤ 3000) : ∃ a : Nat, ECalls cx 28 [mapV (kinM 3 1), intW (n : Int), nm .i64 1000] (.tup [nm .i64 a, .sl 2 (gcells cW [1, 2]), nm .i64 0]) := by
 obtain ⟨a, N, f1, f2, f3, f4⟩ := small_fate h1 h2
 refine ⟨a, ?_⟩
 have h := c_fFollow (kinM 3 1) (n : Int) a N 1000 okM_c31 (by have := small_len (z := (n : Int)) (by omega); omega) f1 (by omega) (by omega) (by decide) f4
 rw [f3] at h
 exact h
theorem nam_zero (H : Ab.Heap) (L : Ab.Loc) : RepV H (.agg [bp ((1 : Int) < 0), namC 0 (.sl 1 (ns .u32 (digs ((1 : Int)).natAbs))), nm .i64 0]) L (.agg #[.bool false, .slice none 0 0, .int .i64 0]) := by
 show RepV H (.agg [.lit (.bool false), .lit (.slice none 0 0), .lit (.int .i64 0)]) L _
 simp only [RepV, RepL]
 refine ⟨[.bool false, .slice none 0 0, .int .i64 0], rfl, ⟨_, _, rfl, rfl, _, _, rfl, rfl, _, _, rfl, rfl, rfl⟩, ?_⟩
 intro u hu
 simp only [List.mem_cons, List.not_mem_nil, or_false] at hu
 rcases hu with rfl | rfl | rfl <;> rfl
theorem ok_one : OkS (⟨#[49]⟩ : ByteArray) ∧ numS (⟨#[49]⟩ : ByteArray) = 1 := by
 rw [← tx1]
 exact ⟨okS_txt (show ndig 1 ≤ 2000 from fit_of_pow (k := 1) (by decide) (by decide) (by decide)), numS_txt 1⟩
end Go.Proofs.YtaeknciienkijaaGreatDoor

namespace Go.Proofs.YtaeknciienkijaaGreatDoor
open Go Go.Ab Go.Mth
theorem f152_ : callable cx.P 24 = true := by kernel_rfl
theorem f153_ : callable cx.P 25 = true := by kernel_rfl
theorem f154_ : callable cx.P 28 = true := by kernel_rfl
theorem f155_ : cx.P.underlying 67 = some (.map 9 71) := by kernel_rfl
theorem f156_ : tyZ1 cx.P 71 = some (.agg #[.bool false, .slice none 0 0, .int .i64 0]) := by kernel_rfl
theorem f157_ : tyField cx.P 71 1 = some (2, 3) := by kernel_rfl
theorem f158_ : tyPlaces cx.P 71 = some (fun i => (#[(0, 2), (2, 1)] : Array (Nat × Nat))[i]?) := by kernel_rfl
theorem f159_ : tyZero cx.P 71 = some [Go.Value.bool false, Go.Value.slice none 0 0, Go.Value.int IntKind.i64 0] := by kernel_rfl
theorem f160_ : tySize cx.P 71 = some 3 := by kernel_rfl
theorem f161_ : tyAgg cx.P 71 = some 3 := by kernel_rfl
theorem f162_ : tyElem cx.P 72 = some (71, 3, 40) := by kernel_rfl
theorem f163_ : callable cx.P 29 = true := by kernel_rfl
theorem f164_ : tyField cx.P 71 0 = some (0, 51) := by kernel_rfl
theorem f165_ : tyPlaces cx.P 34 = some (fun i => (#[(0, 1), (1, 1)] : Array (Nat × Nat))[i]?) := by kernel_rfl
theorem f166_ : tyZero cx.P 34 = some [(Go.Value.string {data := #[]}), Go.Value.int IntKind.i64 0] := by kernel_rfl
theorem f167_ : tyElem cx.P 30 = some (34, 2, 24) := by kernel_rfl
theorem c_fSurvey  : ECalls cx 6 [mapV (kinM 3 1), (Sv (⟨#[49]⟩ : ByteArray)), Nv 3000, Nv 1000] (.tup [.sl 2 [.lit (.string (⟨#[49]⟩ : ByteArray)), nm .i64 3000], nm .i64 0]) := by
 refine ecalls_of_awp Tryz.func6 (c := _) rfl (Nat.le_of_ble_eq_true rfl) ?_
 show awp cx 128 _ (postF cx Tryz.f6 _) ⟨[(0, mapV (kinM 3 1)), (1, (Sv (⟨#[49]⟩ : ByteArray))), (2, Nv 3000), (3, Nv 1000)], []⟩
 have hM := okM_c31
 have hMk := okM_iff.2 hM
 have hO := ok_one.1
 have hOk := okS_yes hO
 have h1l := small_len (z := (1 : Int)) (by decide)
 have h3l := small_len (z := (3000 : Int)) (by decide)
 have h31l := small_len (z := (3001 : Int)) (by decide)
 have h301 : ndig (Int.natAbs 3001) ≤ 2000 := fit_of_pow (k := 4) (by decide) (by decide) (by decide)
 refine awp_seq fun K0 hK0 => awp_region rfl ?_
 refine o_box 2 [Iv ((kinM 3 1).mod), Lv ((kinM 3 1).mul), Lv ((kinM 3 1).add)] gn rfl rfl ?_
 refine o_as Zv rfl (o_as (Nv 0) rfl (aops_end (hK0 _ (awp_seq fun K1 hK1 => ?_))))
 refine awp_block ?_
 refine awp_seq fun K2 hK2 => awp_region rfl ?_
 refine o_loadA [Iv ((kinM 3 1).mod), Lv ((kinM 3 1).mul), Lv ((kinM 3 1).add)] gn f64_ rfl rfl rfl rfl rfl ?_
 refine o_ct (c_sValid (kinM 3 1)) gn f102_ rfl ?_
 refine n_as (v' := Tv) (by exact congrArg (fun b => AV.lit (.bool b)) hMk) ?_
 refine o_not (b := true) gn rfl ?_
 refine o_mv Fv rfl (o_move (Sv (⟨#[49]⟩ : ByteArray)) (Gd.yes rfl rfl rfl) rfl ?_)
 refine o_ct (c_nValid (⟨#[49]⟩ : ByteArray) (by decide)) (Gd.yes rfl rfl rfl) f152_ rfl ?_
 refine n_as (v' := Tv) (by exact congrArg (fun b => AV.lit (.bool b)) hOk) ?_
 refine o_not (b := true) (Gd.yes rfl rfl rfl) rfl ?_
 refine o_pickF Fv gn rfl rfl rfl ?_
 refine o_as Fv rfl (aops_end (hK2 _ ?_))
 refine awp_condB (b := false) rfl (fun hh => absurd (hh.symm.trans rfl) (by decide)) (fun _ => ?_)
 refine awp_seq fun K3 hK3 => awp_region rfl (o_mv (Nv 3000) rfl ?_)
 refine n_lss 3000 0 gn rfl rfl ?_
 refine n_as (v' := Fv) (by exact bpn (by decide)) ?_
 refine o_mv Fv rfl (o_move (Nv 3000) (Gd.yes rfl rfl rfl) rfl ?_)
 refine n_gtr 3000 20000 (Gd.yes rfl rfl rfl) rfl rfl ?_
 refine n_as (v' := Fv) (by exact bpn (by decide)) ?_
 refine o_pickF Fv gn rfl rfl rfl ?_
 refine o_mv Fv rfl (o_move (Nv 1000) (Gd.yes rfl rfl rfl) rfl ?_)
 refine n_lss 1000 0 (Gd.yes rfl rfl rfl) rfl rfl ?_
 refine n_as (v' := Fv) (by exact bpn (by decide)) ?_
 refine o_pickF Fv gn rfl rfl rfl ?_
 refine o_mv Fv rfl (o_move (Nv 1000) (Gd.yes rfl rfl rfl) rfl ?_)
 refine n_gtr 1000 20000 (Gd.yes rfl rfl rfl) rfl rfl ?_
 refine n_as (v' := Fv) (by exact bpn (by decide)) ?_
 refine o_pickF Fv gn rfl rfl rfl ?_
 refine o_as Fv rfl (aops_end (hK3 _ ?_))
 refine awp_condB (b := false) rfl (fun hh => absurd (hh.symm.trans rfl) (by decide)) (fun _ => ?_)
 refine awp_skip (hK1 _ (awp_seq fun K4 hK4 => awp_region rfl (o_mv (Sv (⟨#[49]⟩ : ByteArray)) rfl ?_)))
 refine o_ct (c_wParse (⟨#[49]⟩ : ByteArray) hO) gn f153_ rfl ?_
 refine n_as (v' := (intW (1 : Int))) (by exact congrArg intW ok_one.2) ?_
 refine o_alloc 3 [Fv, Zv] gn f15_ rfl rfl rfl ?_
 refine o_store [(3, (oZ 51 .u32 (1 : Int))), (2, oM 28 (kinM 3 1))] gn f19_ rfl rfl rfl rfl rfl rfl ?_
 refine aops_end (hK4 _ (awp_seq fun K5 hK5 => awp_seq fun K6 hK6 => awp_regionD rfl ?_))
 refine o_loadA [(bp ((1 : Int) < 0)), (.sl 1 (ns .u32 (digs (1 : Int).natAbs)))] gn f20_ rfl rfl rfl rfl rfl ?_
 refine o_mv (Nv 3000) rfl ?_
 refine o_ct (c_wOf (3000 : Int) (by first | decide | omega) (by first | decide | omega)) gn f46_ rfl ?_
 refine o_ct (c_wAdd (1 : Int) (3000 : Int) (by first | omega | assumption | (simp only [Int.natAbs_neg]; omega)) (by first | omega | assumption | (simp only [Int.natAbs_neg]; omega))) gn f38_ rfl ?_
 refine n_as (v' := (intW (3001 : Int))) (by rfl) ?_
 refine o_ct (c_wDigits (3001 : Int) (by first | omega | assumption | (simp only [Int.natAbs_neg]; omega))) gn f60_ rfl ?_
 refine n_gtr (ndig (3001 : Int).natAbs) 2000 gn rfl rfl ?_
 refine n_as (v' := Fv) (by exact bpn (by omega)) ?_
 refine aops_end ⟨by kernel_rfl, ?_⟩
 refine hK6 _ ?_
 refine awp_condB (b := false) rfl (fun hh => absurd (hh.symm.trans rfl) (by decide)) (fun _ => ?_)
 refine awp_skip (hK5 _ (awp_seq fun K7 hK7 => ?_))
 refine awp_regionMM 9600 9601 56 _ _ _ _ rfl rfl rfl rfl rfl fun gb => ?_
 refine o_as (.lit (.map (some gb))) rfl (aops_end (hK7 _ (awp_seq fun K8 hK8 => awp_region rfl (o_as (Nv 0) rfl (aops_end (hK8 _ (awp_seq fun K9 hK9 => awp_seq fun K10 hK10 => ?_)))))))
 refine awp_wk (Wk.pinLit 9602 (.agg [(bp ((1 : Int) < 0)), (namC 0 (.sl 1 (ns .u32 (digs (1 : Int).natAbs)))), Nv 0]) (.agg #[.bool false, .slice none 0 0, .int .i64 0]) nam_zero rfl rfl) ?_
 refine awp_region rfl (o_mv (Nv 3000) rfl (o_mv (Nv 0) rfl (aops_end (hK10 _ ?_))))
 refine awp_block ?_
 refine awp_loopR (fun κ σ => ∃ (i : Nat), ∃ (v : Value), (i ≤ 3000) ∧ (i = 0 → v = (.agg #[.bool false, .slice none 0 0, .int .i64 0])) ∧ (3000 - i) = κ ∧ σ = ⟨[(3, Nv 1000), (4, .ref 2 0), (10, .ref 3 0), (11, .lit (.map (some gb))), (12, Nv 0), (57, Nv 3000), (58, Nv i)], [(2, oM 28 (kinM 3 1)), (3, (oZ 51 .u32 (1 : Int))), (9601, .pin [.ref 9600 0] [.pointer (some ⟨gb, 0, none⟩)]), (9600, (.blk (namO i (⟨#[49]⟩ : ByteArray) v))), (9602, (.pin [(.agg [(bp ((1 : Int) < 0)), (namC i (.sl 1 (ns .u32 (digs (1 : Int).natAbs)))), Nv i])] [v]))]⟩) ⟨_, _, ⟨0, .agg #[.bool false, .slice none 0 0, .int .i64 0], Nat.zero_le _, (fun _ => rfl), rfl, rfl⟩, ?wk0⟩ ?rd0
 case wk0 =>
  exact Wk.sub ⟨rfl, rfl, rfl, rfl, rfl, rfl, (by first | rfl | exact nm_int (by omega)), trivial⟩ ⟨rfl, rfl, rfl, rfl, rfl, trivial⟩
 rintro κ _ ⟨i, v, hi, hz, rfl, rfl⟩
 have hil := small_len (z := ((i : Nat) : Int)) (by omega)
 refine awp_seq fun K11 hK11 => awp_region rfl ?_
 refine n_lss i 3000 gn rfl rfl ?_
 refine aops_end (hK11 _ (awp_seq fun K12 hK12 => ?_))
 refine awp_condQ (q := i < 3000) rfl (fun h1 => ?_) (fun h1 => ?_)
 ·refine awp_skip (hK12 _ (awp_seq fun K13 hK13 => ?_))
  refine awp_block ?_
  refine awp_seq fun K14 hK14 => awp_region rfl (o_mv (Nv i) rfl (o_as (Nv i) rfl (aops_end (hK14 _ (awp_seq fun K15 hK15 => ?_)))))
  obtain ⟨fa, hfa⟩ := c_fol3 (i + 1) (by omega) (by omega)
  refine awp_regionD rfl ?_
  refine o_loadA [Iv ((kinM 3 1).mod), Lv ((kinM 3 1).mul), Lv ((kinM 3 1).add)] gn f64_ rfl rfl rfl rfl rfl ?_
  refine o_loadA [(bp ((1 : Int) < 0)), (.sl 1 (ns .u32 (digs (1 : Int).natAbs)))] gn f20_ rfl rfl rfl rfl rfl ?_
  refine o_mv (Nv i) rfl ?_
  refine o_ct (c_wOf ((i : Nat) : Int) (by first | decide | omega) (by first | decide | omega)) gn f46_ rfl ?_
  refine o_ct (c_wAdd (1 : Int) ((i : Nat) : Int) (by first | omega | assumption | (simp only [Int.natAbs_neg]; omega)) (by first | omega | assumption | (simp only [Int.natAbs_neg]; omega))) gn f38_ rfl ?_
  refine n_as (v' := (intW ((i + 1 : Nat) : Int))) (by exact congrArg intW (by omega)) ?_
  refine o_mv (Nv 1000) rfl ?_
  refine o_call [mapV (kinM 3 1), (intW ((i + 1 : Nat) : Int)), Nv 1000] (.tup [Nv fa, .sl 2 (gcells cW ([1, 2])), Nv 0]) gn f154_ rfl hfa ?_
  refine o_mv (.tup [Nv fa, .sl 2 (gcells cW ([1, 2])), Nv 0]) rfl (o_extract (Nv fa) gn rfl rfl (o_extract (.sl 2 (gcells cW ([1, 2]))) gn rfl rfl (o_extract (Nv 0) gn rfl rfl (o_as (Nv fa) rfl (o_as (.sl 2 (gcells cW ([1, 2]))) rfl (o_as (Nv 0) rfl ?_))))))
  refine aops_end ⟨by kernel_rfl, ?_⟩
  refine hK15 _ (awp_seq fun K16 hK16 => awp_seq fun K17 hK17 => awp_region rfl (o_mv (Nv 0) rfl ?_))
  refine n_neq 0 0 gn rfl rfl ?_
  refine n_as (v' := Fv) (by exact bpn (by decide)) ?_
  refine aops_end (hK17 _ ?_)
  refine awp_condB (b := false) rfl (fun hh => absurd (hh.symm.trans rfl) (by decide)) (fun _ => ?_)
  refine awp_skip (hK16 _ (awp_seq fun K18 hK18 => awp_region rfl (o_mv (.sl 2 (gcells cW ([1, 2]))) rfl ?_)))
  refine g_index cW ([1, 2]) 0 cW_len rfl gn f111_ rfl rfl (by decide) ?_
  refine g_loadA cW ([1, 2]) 0 default cW_len gn f20_ rfl (by decide) ?_
  refine n_as (v' := (intW (1 : Int))) (by rfl) ?_
  refine o_ct (c_wText (1 : Int) (by first | omega | assumption | (simp only [Int.natAbs_neg]; omega))) gn f61_ rfl ?_
  refine n_as (v' := (Sv (⟨#[49]⟩ : ByteArray))) (by exact congrArg (fun b => AV.lit (.string b)) tx1) ?_
  refine o_as (Sv (⟨#[49]⟩ : ByteArray)) rfl (aops_end (hK18 _ ?_))
  refine awp_regionMU 11 _ _ _ _ _ _ _ _ _ 9601 9600 gb 9602 i (⟨#[49]⟩ : ByteArray) v (.agg [(bp ((1 : Int) < 0)), (.sl 1 (ns .u32 (digs (1 : Int).natAbs))), Nv (i + 1)]) rfl rfl rfl (by kernel_rfl) (by kernel_rfl) f155_ f54_ ?_
  refine o_mv (.lit (.map (some gb))) rfl (o_mv (Sv (⟨#[49]⟩ : ByteArray)) rfl (o_mv (.sl 2 (gcells cW ([1, 2]))) rfl ?_))
  refine g_index cW ([1, 2]) 0 cW_len rfl gn f111_ rfl rfl (by decide) ?_
  refine g_loadA cW ([1, 2]) 0 default cW_len gn f20_ rfl (by decide) ?_
  refine n_as (v' := (intW (1 : Int))) (by rfl) ?_
  refine o_mv (.lit (.map (some gb))) rfl (o_mv (Sv (⟨#[49]⟩ : ByteArray)) rfl ?_)
  refine o_lookNam 9601 9600 gb 9602 i (⟨#[49]⟩ : ByteArray) v (.agg #[.bool false, .slice none 0 0, .int .i64 0]) (.agg [(bp ((1 : Int) < 0)), (namC i (.sl 1 (ns .u32 (digs (1 : Int).natAbs)))), Nv i]) gn f155_ f54_ f156_ hz rfl rfl rfl rfl rfl ?_
  refine o_fieldS (Nv i) gn f157_ f11_ rfl rfl ?_
  refine n_add i 1 gn rfl rfl (by simp only [topOf]; omega) ?_
  refine o_build [(bp ((1 : Int) < 0)), (.sl 1 (ns .u32 (digs (1 : Int).natAbs))), Nv (i + 1)] [(0, [(bp ((1 : Int) < 0)), (.sl 1 (ns .u32 (digs (1 : Int).natAbs)))]), (1, [Nv (i + 1)])] gn f158_ f159_ rfl rfl rfl ?_
  refine aops_end ⟨by kernel_rfl, _, Wk.sub (σ' := ⟨[(3, Nv 1000), (4, .ref 2 0), (10, .ref 3 0), (11, .lit (.map (some gb))), (12, Nv 0), (57, Nv 3000), (58, Nv i), (59, bp (i < 3000)), (60, Nv i), (13, Nv i), (62, mapV (kinM 3 1)), (63, (intW (1 : Int))), (64, Nv i), (65, (intW ((i : Nat) : Int))), (66, (intW ((i + 1 : Nat) : Int))), (67, Nv 1000), (68, .tup [Nv fa, .sl 2 (gcells cW ([1, 2])), Nv 0]), (61, .tup [Nv fa, .sl 2 (gcells cW ([1, 2])), Nv 0]), (69, Nv fa), (70, .sl 2 (gcells cW ([1, 2]))), (71, Nv 0), (14, Nv fa), (15, .sl 2 (gcells cW ([1, 2]))), (16, Nv 0), (72, Nv 0), (73, Fv), (76, .sl 2 (gcells cW ([1, 2]))), (77, .ip ((gcells cW ([1, 2])).drop (0 * 2 + 0))), (78, (intW (1 : Int))), (79, (Sv (⟨#[49]⟩ : ByteArray))), (17, (Sv (⟨#[49]⟩ : ByteArray))), (80, .lit (.map (some gb))), (81, (Sv (⟨#[49]⟩ : ByteArray))), (90, (.agg [(bp ((1 : Int) < 0)), (.sl 1 (ns .u32 (digs (1 : Int).natAbs))), Nv (i + 1)]))], [(2, oM 28 (kinM 3 1)), (3, (oZ 51 .u32 (1 : Int))), (9601, .pin [.ref 9600 0] [.pointer (some ⟨gb, 0, none⟩)]), (9600, (.blk (namO i (⟨#[49]⟩ : ByteArray) v)))]⟩) ⟨rfl, rfl, rfl, rfl, rfl, rfl, rfl, rfl, rfl, rfl, rfl, rfl, rfl, rfl, rfl, rfl, rfl, rfl, rfl, rfl, rfl, rfl, rfl, rfl, rfl, rfl, rfl, rfl, rfl, rfl, rfl, rfl, rfl, rfl, trivial⟩ ⟨rfl, rfl, rfl, rfl, trivial⟩, rfl, rfl, rfl, rfl, rfl, fun v2 => rfl, rfl, fun v2 => ?_⟩
  refine hK13 _ (awp_region rfl ?_)
  refine n_add i 1 gn rfl rfl (by simp only [topOf]; omega) ?_
  refine o_mv (Nv (i + 1)) rfl (aops_end ?_)
  refine ⟨_, _, ?lt, ⟨i + 1, v2, (by omega), (fun h => absurd h (Nat.succ_ne_zero i)), rfl, rfl⟩, ?wk⟩
  case lt => omega
  case wk => exact Wk.sub ⟨rfl, rfl, rfl, rfl, rfl, rfl, (by first | rfl | exact nm_int (by omega)), trivial⟩ ⟨rfl, rfl, rfl, rfl, rfl, trivial⟩
 ·refine awp_exit ?_
  refine hK9 _ (awp_seq fun K19 hK19 => ?_)
  have hi3 : i = 3000 := by omega
  subst hi3
  refine awp_region rfl (o_as Zv rfl (aops_end (hK19 _ (awp_seq fun K20 hK20 => awp_seq fun K21 hK21 => awp_region rfl (o_mv (.lit (.map (some gb))) rfl ?_)))))
  refine o_mapRange 9601 9600 gb 101 #[⟨.string (⟨#[49]⟩ : ByteArray), v, 0⟩] 1 gn f155_ rfl rfl rfl rfl ?_
  refine aops_end (hK21 _ ?_)
  refine awp_block ?_
  refine awp_loop2 (A := ⟨[(11, .lit (.map (some gb))), (12, Nv 0), (18, Zv), (93, .ref 101 0)], [(101, .blk (.mapIter (some gb) 1 #[] 1)), (9601, .pin [.ref 9600 0] [.pointer (some ⟨gb, 0, none⟩)]), (9600, (.blk (namO 3000 (⟨#[49]⟩ : ByteArray) v))), (9602, (.pin [(.agg [(bp ((1 : Int) < 0)), (namC 3000 (.sl 1 (ns .u32 (digs (1 : Int).natAbs)))), Nv 3000])] [v]))]⟩) (B := ⟨[(11, .lit (.map (some gb))), (12, Nv 0), (18, .row 104), (93, .ref 101 0)], [(104, (.row 71 3 [(bp ((1 : Int) < 0)), (.sl 1 (ns .u32 (digs (1 : Int).natAbs))), Nv 3000])), (101, .blk (.mapIter (some gb) 1 #[0] 1)), (9601, .pin [.ref 9600 0] [.pointer (some ⟨gb, 0, none⟩)]), (9600, (.blk (namO 3000 (⟨#[49]⟩ : ByteArray) v))), (9602, (.pin [(.agg [(bp ((1 : Int) < 0)), (namC 3000 (.sl 1 (ns .u32 (digs (1 : Int).natAbs)))), Nv 3000])] [v]))]⟩) ?wk ?lA ?lB
  case wk => exact Wk.sub ⟨rfl, rfl, rfl, rfl, trivial⟩ ⟨rfl, rfl, rfl, rfl, trivial⟩
  case lA =>
   refine awp_seq fun K22 hK22 => awp_region rfl ?_
   refine o_mapNext 9601 9600 gb 101 #[⟨.string (⟨#[49]⟩ : ByteArray), v, 0⟩] 1 1 #[] 1 ⟨.string (⟨#[49]⟩ : ByteArray), v, 0⟩ [(101, .blk (.mapIter (some gb) 1 #[0] 1)), (9601, .pin [.ref 9600 0] [.pointer (some ⟨gb, 0, none⟩)]), (9600, (.blk (namO 3000 (⟨#[49]⟩ : ByteArray) v))), (9602, (.pin [(.agg [(bp ((1 : Int) < 0)), (namC 3000 (.sl 1 (ns .u32 (digs (1 : Int).natAbs)))), Nv 3000])] [v]))] gn rfl rfl rfl rfl (fun _ _ _ a b => run_nextOne a b) rfl ?_
   refine o_extract Tv gn rfl rfl (aops_end (hK22 _ (awp_seq fun K23 hK23 => ?_)))
   refine awp_condB (b := true) rfl (fun _ => ?_) (fun hh => absurd (hh.symm.trans rfl) (by decide))
   refine awp_skip (hK23 _ ?_)
   refine awp_block ?_
   refine awp_seq fun K24 hK24 => awp_region rfl ?_
   refine o_mapEnt 9601 9600 gb 101 9602 #[⟨.string (⟨#[49]⟩ : ByteArray), v, 0⟩] 1 1 #[0] 0 ⟨.string (⟨#[49]⟩ : ByteArray), v, 0⟩ (.agg [(bp ((1 : Int) < 0)), (.sl 1 (ns .u32 (digs (1 : Int).natAbs))), Nv 3000]) gn rfl rfl rfl rfl (by simp) (by simp) rfl ?_
   refine o_extract (.agg [(bp ((1 : Int) < 0)), (.sl 1 (ns .u32 (digs (1 : Int).natAbs))), Nv 3000]) gn rfl rfl ?_
   refine o_alloc 102 [Fv, Zv, Nv 0] gn f159_ rfl rfl rfl ?_
   refine o_store [(102, (.var 71 [(bp ((1 : Int) < 0)), (.sl 1 (ns .u32 (digs (1 : Int).natAbs))), Nv 3000])), (101, .blk (.mapIter (some gb) 1 #[0] 1)), (9601, .pin [.ref 9600 0] [.pointer (some ⟨gb, 0, none⟩)]), (9600, (.blk (namO 3000 (⟨#[49]⟩ : ByteArray) v))), (9602, (.pin [(.agg [(bp ((1 : Int) < 0)), (namC 3000 (.sl 1 (ns .u32 (digs (1 : Int).natAbs)))), Nv 3000])] [v]))] gn f160_ rfl rfl rfl rfl rfl rfl ?_
   refine aops_end (hK24 _ (awp_region rfl (o_mv Zv rfl ?_)))
   refine o_loadA [(bp ((1 : Int) < 0)), (.sl 1 (ns .u32 (digs (1 : Int).natAbs))), Nv 3000] gn f161_ rfl rfl rfl rfl rfl ?_
   refine o_buildSlice 103 [(bp ((1 : Int) < 0)), (.sl 1 (ns .u32 (digs (1 : Int).natAbs))), Nv 3000] [(0, [(bp ((1 : Int) < 0)), (.sl 1 (ns .u32 (digs (1 : Int).natAbs))), Nv 3000])] gn f162_ rfl f159_ rfl rfl rfl rfl rfl rfl rfl ?_
   refine o_appendNil 104 [(bp ((1 : Int) < 0)), (.sl 1 (ns .u32 (digs (1 : Int).natAbs))), Nv 3000] [103] gn f162_ rfl f159_ rfl rfl (.inr ⟨103, _, rfl, rfl, rfl⟩) (by exact Nat.le_of_ble_eq_true rfl) (by exact Nat.le_of_ble_eq_true rfl) rfl ?_
   refine o_as (.row 104) rfl (aops_end ?_)
   exact Wk.sub ⟨rfl, rfl, rfl, rfl, trivial⟩ ⟨rfl, rfl, rfl, rfl, rfl, trivial⟩
  case lB =>
   refine awp_seq fun K25 hK25 => awp_region rfl ?_
   refine o_mapOver 9601 9600 gb 101 #[⟨.string (⟨#[49]⟩ : ByteArray), v, 0⟩] 1 1 #[0] 1 gn rfl rfl rfl rfl (fun _ _ _ a b => run_nextEnd a b) ?_
   refine o_extract Fv gn rfl rfl (aops_end (hK25 _ (awp_seq fun K26 hK26 => ?_)))
   refine awp_condB (b := false) rfl (fun hh => absurd (hh.symm.trans rfl) (by decide)) (fun _ => ?_)
   refine awp_exit ?_
   refine hK20 _ (awp_seq fun K27 hK27 => ?_)
   refine awp_wk (σ' := ⟨[(12, Nv 0), (18, .row 104)], [(104, (.row 71 3 [(bp ((1 : Int) < 0)), (.sl 1 (ns .u32 (digs (1 : Int).natAbs))), Nv 3000]))]⟩) (Wk.sub ⟨rfl, rfl, trivial⟩ ⟨rfl, trivial⟩) ?_
   refine awp_wk (σ' := ⟨[(12, Nv 0), (18, (.sl 3 [(bp ((1 : Int) < 0)), (.sl 1 (ns .u32 (digs (1 : Int).natAbs))), Nv 3000]))], []⟩) (Wk.freeze (id := 104) (e := 71) (sz := 3) (cs := [(bp ((1 : Int) < 0)), (.sl 1 (ns .u32 (digs (1 : Int).natAbs))), Nv 3000]) rfl) ?_
   refine awp_region rfl (o_mv (.sl 3 [(bp ((1 : Int) < 0)), (.sl 1 (ns .u32 (digs (1 : Int).natAbs))), Nv 3000]) rfl ?_)
   refine o_ct (c_nSort [(bp ((1 : Int) < 0)), (.sl 1 (ns .u32 (digs (1 : Int).natAbs))), Nv 3000] rfl) gn f163_ rfl ?_
   refine aops_end (hK27 _ (awp_seq fun K28 hK28 => awp_region rfl (o_as Zv rfl (aops_end (hK28 _ (awp_seq fun K29 hK29 => awp_seq fun K30 hK30 => awp_region rfl (o_mv (.sl 3 [(bp ((1 : Int) < 0)), (.sl 1 (ns .u32 (digs (1 : Int).natAbs))), Nv 3000]) rfl ?_)))))))
   refine o_lenSl 1 gn f148_ rfl (by rfl) ?_
   refine o_mv (Nv 0) rfl (aops_end (hK30 _ ?_))
   refine awp_block ?_
   refine awp_loop2 (A := ⟨[(12, Nv 0), (21, Zv), (104, (.sl 3 [(bp ((1 : Int) < 0)), (.sl 1 (ns .u32 (digs (1 : Int).natAbs))), Nv 3000])), (105, Nv 1), (106, Nv 0)], []⟩) (B := ⟨[(12, Nv 0), (21, .row 107), (104, (.sl 3 [(bp ((1 : Int) < 0)), (.sl 1 (ns .u32 (digs (1 : Int).natAbs))), Nv 3000])), (105, Nv 1), (106, Nv 1)], [(107, (.row 34 2 [(Sv (⟨#[49]⟩ : ByteArray)), Nv 3000]))]⟩) ?wk ?lA ?lB
   case wk => exact Wk.sub ⟨rfl, rfl, rfl, rfl, rfl, trivial⟩ trivial
   case lA =>
    refine awp_seq fun K31 hK31 => awp_region rfl ?_
    refine n_lss 0 1 gn rfl rfl ?_
    refine n_as (v' := Tv) (by first | exact bpy (by decide) | exact bpn (by decide)) ?_
    refine aops_end (hK31 _ (awp_seq fun K32 hK32 => ?_))
    refine awp_condB (b := true) rfl (fun _ => ?_) (fun hh => absurd (hh.symm.trans rfl) (by decide))
    refine awp_skip (hK32 _ (awp_seq fun K33 hK33 => ?_))
    refine awp_block ?_
    refine awp_seq fun K34 hK34 => awp_region rfl ?_
    refine o_indexN (cs := [(bp ((1 : Int) < 0)), (.sl 1 (ns .u32 (digs (1 : Int).natAbs))), Nv 3000]) (i := ((0 : Nat) : Int)) gn f162_ rfl rfl (by omega) (by decide) ?_
    refine o_loadIA [(bp ((1 : Int) < 0)), (.sl 1 (ns .u32 (digs (1 : Int).natAbs))), Nv 3000] gn f161_ rfl (Nat.le_of_ble_eq_true rfl) rfl ?_
    refine o_alloc 105 [Fv, Zv, Nv 0] gn f159_ rfl rfl rfl ?_
    refine o_store [(105, (.var 71 [(bp ((1 : Int) < 0)), (.sl 1 (ns .u32 (digs (1 : Int).natAbs))), Nv 3000]))] gn f160_ rfl rfl rfl rfl rfl rfl ?_
    refine aops_end (hK34 _ (awp_regionD rfl (o_mv Zv rfl ?_)))
    refine o_fieldRef 0 gn f164_ rfl rfl ?_
    refine o_loadA [(bp ((1 : Int) < 0)), (.sl 1 (ns .u32 (digs (1 : Int).natAbs)))] gn f20_ rfl rfl rfl rfl rfl ?_
    refine o_ct (c_wText (1 : Int) (by first | omega | assumption | (simp only [Int.natAbs_neg]; omega))) gn f61_ rfl ?_
    refine n_as (v' := (Sv (⟨#[49]⟩ : ByteArray))) (by exact congrArg (fun b => AV.lit (.string b)) tx1) ?_
    refine o_fieldRef 2 gn f157_ rfl rfl ?_
    refine o_loadS (Nv 3000) gn f11_ rfl rfl rfl ?_
    refine o_build [(Sv (⟨#[49]⟩ : ByteArray)), Nv 3000] [(0, [(Sv (⟨#[49]⟩ : ByteArray))]), (1, [Nv 3000])] gn f165_ f166_ rfl rfl rfl ?_
    refine o_buildSlice 106 [(Sv (⟨#[49]⟩ : ByteArray)), Nv 3000] [(0, [(Sv (⟨#[49]⟩ : ByteArray)), Nv 3000])] gn f167_ rfl f166_ rfl rfl rfl rfl rfl rfl rfl ?_
    refine o_appendNil 107 [(Sv (⟨#[49]⟩ : ByteArray)), Nv 3000] [106] gn f167_ rfl f166_ rfl rfl (.inr ⟨106, _, rfl, rfl, rfl⟩) (by exact Nat.le_of_ble_eq_true rfl) (by exact Nat.le_of_ble_eq_true rfl) rfl ?_
    refine o_as (.row 107) rfl ?_
    refine aops_end ⟨by kernel_rfl, ?_⟩
    refine hK33 _ (awp_region rfl ?_)
    refine n_add 0 1 gn rfl rfl (by simp only [topOf]; omega) ?_
    refine n_as (v' := (Nv 1)) (by rfl) ?_
    refine o_mv (Nv 1) rfl (aops_end ?_)
    exact Wk.sub ⟨rfl, rfl, rfl, rfl, rfl, trivial⟩ ⟨rfl, trivial⟩
   case lB =>
    refine awp_seq fun K35 hK35 => awp_region rfl ?_
    refine n_lss 1 1 gn rfl rfl ?_
    refine n_as (v' := Fv) (by first | exact bpy (by decide) | exact bpn (by decide)) ?_
    refine aops_end (hK35 _ (awp_seq fun K36 hK36 => ?_))
    refine awp_condB (b := false) rfl (fun hh => absurd (hh.symm.trans rfl) (by decide)) (fun _ => ?_)
    refine awp_exit ?_
    refine hK29 _ (awp_seq fun K37 hK37 => awp_seq fun K38 hK38 => awp_region rfl (o_mv (Nv 0) rfl ?_))
    refine n_gtr 0 0 gn rfl rfl ?_
    refine n_as (v' := Fv) (by exact bpn (by decide)) ?_
    refine aops_end (hK38 _ ?_)
    refine awp_condB (b := false) rfl (fun hh => absurd (hh.symm.trans rfl) (by decide)) (fun _ => ?_)
    refine awp_skip (hK37 _ (awp_seq fun K39 hK39 => awp_region rfl (o_mv (.row 107) rfl (o_as (.row 107) rfl (o_as (Nv 0) rfl (aops_end (hK39 _ ?_)))))))
    refine awp_wk (σ' := ⟨[(8, .row 107), (9, Nv 0)], [(107, (.row 34 2 [(Sv (⟨#[49]⟩ : ByteArray)), Nv 3000]))]⟩) (Wk.sub ⟨rfl, rfl, trivial⟩ ⟨rfl, trivial⟩) ?_
    refine awp_wk (σ' := ⟨[(8, (.sl 2 [(Sv (⟨#[49]⟩ : ByteArray)), Nv 3000])), (9, Nv 0)], []⟩) (Wk.freeze (id := 107) (e := 34) (sz := 2) (cs := [(Sv (⟨#[49]⟩ : ByteArray)), Nv 3000]) rfl) ?_
    refine awp_ret ?_
    refine post_ret ⟨[(.sl 2 [(Sv (⟨#[49]⟩ : ByteArray)), Nv 3000]), Nv 0], ⟨AV.le_refl _, AV.le_refl _, trivial⟩, rfl, ?_⟩
    rfl

end Go.Proofs.YtaeknciienkijaaGreatDoor

namespace Go.Mth
open Go.Ab
theorem iter_back {m : MapM} {x : Int} {p : Nat} (h : iterZ m p x = x) (d : Nat) : iterZ m p (iterZ m d x) = iterZ m d x := by rw [iterZ_add, Nat.add_comm, iterZ_per h]
theorem orb_mem {m : MapM} {x y : Int} {n : Nat} : y ∈ orbL m x n ↔ ∃ i, i < n ∧ y = iterZ m i x := by
 unfold orbL
 rw [List.mem_map]
 constructor
 ·rintro ⟨i, h, rfl⟩; exact ⟨i, List.mem_range.1 h, rfl⟩
 ·rintro ⟨i, h, rfl⟩; exact ⟨i, List.mem_range.2 h, rfl⟩
theorem loo_mem {m : MapM} {n : Nat} {l : List Int} (h : Loo m n l) {z : Int} (hz : z ∈ l) : ∃ i, i < n ∧ z = iterZ m i (hdL l) := by
 rw [h.orb] at hz
 exact orb_mem.1 hz
theorem loo_per {m : MapM} {n : Nat} {l : List Int} (h : Loo m n l) {z : Int} (hz : z ∈ l) : iterZ m n z = z := by
 obtain ⟨i, _, rfl⟩ := loo_mem h hz
 exact iter_back h.back i
theorem loo_alone {m : MapM} {n : Nat} {l : List Int} (h : Loo m n l) {z : Int} (hz : z ∈ l) : ∀ i, 0 < i → i < n → iterZ m i z ≠ z := by
 obtain ⟨i, hi, rfl⟩ := loo_mem h hz
 exact iter_alone h.back h.alone hi
def ordL (a b : List Int) : Prop := a.length < b.length ∨ a.length = b.length ∧ hdL a < hdL b
instance (a b : List Int) : Decidable (ordL a b) := inferInstanceAs (Decidable (a.length < b.length ∨ a.length = b.length ∧ hdL a < hdL b))
end Go.Mth

namespace Go.Mth
open Go Go.Ab
def uN (n : Nat) : Nat := if n % 2 = 0 then n / 2 else (3 * n - 1) / 2
def itN (f : Nat → Nat) : Nat → Nat → Nat
 | 0, x => x
 | i + 1, x => f (itN f i x)
theorem tN_e {n : Nat} (e : n % 2 = 0) : 2 * tN n = n := by unfold tN; rw [if_pos e]; omega
theorem tN_o {n : Nat} (e : n % 2 = 1) : 2 * tN n = 3 * n + 1 := by unfold tN; rw [if_neg (by omega)]; omega
theorem uN_e {n : Nat} (e : n % 2 = 0) : 2 * uN n = n := by unfold uN; rw [if_pos e]; omega
theorem uN_o {n : Nat} (e : n % 2 = 1) : 2 * uN n + 1 = 3 * n := by unfold uN; rw [if_neg (by omega)]; omega
theorem it_pos (n : Nat) : ∀ i, iterZ colM i (n : Int) = ((itN tN i n : Nat) : Int)
 | 0 => rfl
 | i + 1 => by show stepZ (kinM 3 1) (iterZ colM i _) = _; rw [it_pos n i, step_tN]; rfl
theorem step_uN (n : Nat) : stepZ (kinM 3 1) (-(n : Int)) = -((uN n : Nat) : Int) := by
 unfold uN
 rcases Nat.mod_two_eq_zero_or_one n with e | e
 ·rw [if_pos e]
  have e2 : ((-(n : Int)) % 2).toNat = 0 := by omega
  unfold stepZ kinM
  dsimp only
  rw [e2]
  simp
  omega
 ·rw [if_neg (by omega)]
  have e2 : ((-(n : Int)) % 2).toNat = 1 := by omega
  unfold stepZ kinM
  dsimp only
  rw [e2]
  simp
  omega
theorem it_neg (n : Nat) : ∀ i, iterZ colM i (-(n : Int)) = -((itN uN i n : Nat) : Int)
 | 0 => rfl
 | i + 1 => by show stepZ (kinM 3 1) (iterZ colM i _) = _; rw [it_neg n i, step_uN]; rfl
theorem two_three (i : Nat) : 2 ^ i ≤ 3 ^ i := Nat.pow_le_pow_left (by decide) i
theorem run_pos (x : Nat) : ∀ i, ∃ s c, s ≤ i ∧ 2 ^ i * itN tN i x = 3 ^ s * x + c ∧ c + 2 ^ i ≤ 3 ^ i
 | 0 => ⟨0, 0, Nat.le_refl _, by simp [itN], by simp⟩
 | i + 1 => by
  obtain ⟨s, c, h1, h2, h3⟩ := run_pos x i
  have h4 := two_three i
  have e1 : 2 ^ (i + 1) * itN tN (i + 1) x = 2 ^ i * (2 * tN (itN tN i x)) := by rw [Nat.pow_succ, Nat.mul_assoc]; rfl
  rcases Nat.mod_two_eq_zero_or_one (itN tN i x) with e | e
  ·have e2 : 2 * tN (itN tN i x) = itN tN i x := tN_e e
   exact ⟨s, c, by omega, by rw [e1, e2]; exact h2, by rw [Nat.pow_succ, Nat.pow_succ]; omega⟩
  ·have e2 : 2 * tN (itN tN i x) = 3 * itN tN i x + 1 := tN_o e
   refine ⟨s + 1, 3 * c + 2 ^ i, by omega, ?_, by rw [Nat.pow_succ, Nat.pow_succ]; omega⟩
   rw [e1, e2, Nat.mul_add, Nat.mul_left_comm, h2, Nat.pow_succ, Nat.mul_add, Nat.mul_comm (3 ^ s) 3, Nat.mul_assoc]
   omega
theorem run_neg (x : Nat) (hx : 0 < x) : ∀ i, 0 < itN uN i x ∧ ∃ s c, s ≤ i ∧ 2 ^ i * itN uN i x + c = 3 ^ s * x ∧ c + 2 ^ i ≤ 3 ^ i
 | 0 => ⟨hx, 0, 0, Nat.le_refl _, by simp [itN], by simp⟩
 | i + 1 => by
  obtain ⟨h0, s, c, h1, h2, h3⟩ := run_neg x hx i
  have h4 := two_three i
  have e1 : 2 ^ (i + 1) * itN uN (i + 1) x = 2 ^ i * (2 * uN (itN uN i x)) := by rw [Nat.pow_succ, Nat.mul_assoc]; rfl
  rcases Nat.mod_two_eq_zero_or_one (itN uN i x) with e | e
  ·have e2 : 2 * uN (itN uN i x) = itN uN i x := uN_e e
   exact ⟨by show 0 < uN _; omega, s, c, by omega, by rw [e1, e2]; exact h2, by rw [Nat.pow_succ, Nat.pow_succ]; omega⟩
  ·have e2 : 2 * uN (itN uN i x) + 1 = 3 * itN uN i x := uN_o e
   refine ⟨by show 0 < uN _; omega, s + 1, 3 * c + 2 ^ i, by omega, ?_, by rw [Nat.pow_succ, Nat.pow_succ]; omega⟩
   have e3 : 2 ^ i * (2 * uN (itN uN i x)) + 2 ^ i = 3 * (2 ^ i * itN uN i x) := by rw [← Nat.mul_succ, show (2 * uN (itN uN i x)).succ = 3 * itN uN i x from e2, Nat.mul_left_comm]
   have e4 : 3 ^ (s + 1) * x = 3 * (3 ^ s * x) := by rw [Nat.pow_succ, Nat.mul_comm (3 ^ s) 3, Nat.mul_assoc]
   rw [e1, e4, ← h2]
   omega
def chkC (f : Nat → Nat) (n B : Nat) : Bool := (List.range B).all fun x => !(itN f n x == x) || (itN f 1 x == x || itN f 2 x == x || itN f 3 x == x)
theorem chk_p : (chkC tN 12 1000 && chkC tN 13 1000 && chkC tN 14 1000) = true := by decide +kernel
theorem chk_n : (chkC uN 12 1500 && chkC uN 13 1500 && chkC uN 14 1500) = true := by decide +kernel
theorem chk_of {f : Nat → Nat} {n B : Nat} (h : chkC f n B = true) {x : Nat} (hx : x < B) (e : itN f n x = x) : ∃ i, 0 < i ∧ i < 4 ∧ itN f i x = x := by
 have h1 := List.all_eq_true.1 h x (List.mem_range.2 hx)
 simp only [e, beq_self_eq_true, Bool.not_true, Bool.false_or, Bool.or_eq_true, beq_iff_eq] at h1
 rcases h1 with (h1 | h1) | h1
 ·exact ⟨1, by decide, by decide, h1⟩
 ·exact ⟨2, by decide, by decide, h1⟩
 ·exact ⟨3, by decide, by decide, h1⟩
theorem pow3_split (s k : Nat) : 3 ^ s ≤ 3 ^ k ∨ 3 ^ (k + 1) ≤ 3 ^ s := by
 rcases Nat.lt_or_ge k s with e | e
 ·exact .inr (Nat.pow_le_pow_right (by decide) e)
 ·exact .inl (Nat.pow_le_pow_right (by decide) e)
theorem bd_pos {x n : Nat} (hn : n = 12 ∨ n = 13 ∨ n = 14) (e : itN tN n x = x) : x < 1000 := by
 obtain ⟨s, c, h1, h2, h3⟩ := run_pos x n
 rw [e] at h2
 rcases hn with rfl | rfl | rfl
 ·rcases pow3_split s 7 with q | q
  ·have := Nat.mul_le_mul_right x q; omega
  ·have := Nat.mul_le_mul_right x q; omega
 ·rcases pow3_split s 8 with q | q
  ·have := Nat.mul_le_mul_right x q; omega
  ·have := Nat.mul_le_mul_right x q; omega
 ·rcases pow3_split s 8 with q | q
  ·have := Nat.mul_le_mul_right x q; omega
  ·have := Nat.mul_le_mul_right x q; omega
theorem bd_neg {x n : Nat} (hx : 0 < x) (hn : n = 12 ∨ n = 13 ∨ n = 14) (e : itN uN n x = x) : x < 1500 := by
 obtain ⟨-, s, c, h1, h2, h3⟩ := run_neg x hx n
 rw [e] at h2
 rcases hn with rfl | rfl | rfl
 ·rcases pow3_split s 7 with q | q
  ·have := Nat.mul_le_mul_right x q; omega
  ·have := Nat.mul_le_mul_right x q; omega
 ·rcases pow3_split s 8 with q | q
  ·have := Nat.mul_le_mul_right x q; omega
  ·have := Nat.mul_le_mul_right x q; omega
 ·rcases pow3_split s 8 with q | q
  ·have := Nat.mul_le_mul_right x q; omega
  ·have := Nat.mul_le_mul_right x q; omega
theorem no_cyc {z : Int} {n : Nat} (hn : n = 12 ∨ n = 13 ∨ n = 14) (e : iterZ colM n z = z) : ∃ i, 0 < i ∧ i < n ∧ iterZ colM i z = z := by
 have hp := chk_p
 have hq := chk_n
 simp only [Bool.and_eq_true] at hp hq
 rcases Int.le_total 0 z with hz | hz
 ·obtain ⟨x, rfl⟩ : ∃ x : Nat, z = (x : Int) := ⟨z.toNat, by omega⟩
  rw [it_pos] at e
  have e' : itN tN n x = x := by omega
  have hb := bd_pos hn e'
  have hc : chkC tN n 1000 = true := by rcases hn with rfl | rfl | rfl; exact hp.1.1; exact hp.1.2; exact hp.2
  obtain ⟨i, i1, i2, i3⟩ := chk_of hc hb e'
  exact ⟨i, i1, by omega, by rw [it_pos, i3]⟩
 ·rcases Int.lt_or_eq_of_le hz with hz | hz
  ·obtain ⟨x, rfl⟩ : ∃ x : Nat, z = -(x : Int) := ⟨(-z).toNat, by omega⟩
   rw [it_neg] at e
   have e' : itN uN n x = x := by omega
   have hb := bd_neg (by omega) hn e'
   have hc : chkC uN n 1500 = true := by rcases hn with rfl | rfl | rfl; exact hq.1.1; exact hq.1.2; exact hq.2
   obtain ⟨i, i1, i2, i3⟩ := chk_of hc hb e'
   exact ⟨i, i1, by omega, by rw [it_neg, i3]⟩
  ·subst hz
   exact ⟨1, by decide, by omega, by decide⟩
theorem col_no {n : Nat} (hn : n = 12 ∨ n = 13 ∨ n = 14) : lpN colM n = [] := by
 have hM : OkM colM := okM_iff.1 okM_ex
 refine List.eq_nil_iff_forall_not_mem.2 fun l hl => ?_
 have h := lpN_loo hM exW_free (by omega) (by omega) hl
 have hz : l.getD 0 default ∈ l := by
  have := loo_len h
  rw [List.getD_eq_getElem?_getD, List.getElem?_eq_getElem (by omega)]
  exact List.getElem_mem _
 obtain ⟨i, i1, i2, i3⟩ := no_cyc hn (loo_per h hz)
 exact loo_alone h hz i i1 i2 i3
theorem colU14 : cyU colM 14 = colL := by
 show ((cyU colM 11 ++ lpN colM 12) ++ lpN colM 13) ++ lpN colM 14 = _
 rw [col_no (.inl rfl), col_no (.inr (.inl rfl)), col_no (.inr (.inr rfl)), List.append_nil, List.append_nil, List.append_nil]
 exact colU
theorem col_chk14 : chkE (kinM 3 1) ((14 : Nat) : Int) = 0 := chk_0 okM_ex ⟨exW_free, by decide, by decide⟩
theorem col_lp14 : lpL (kinM 3 1) ((14 : Nat) : Int) = colL := (lpL_ok col_chk14).trans colU14
end Go.Mth

namespace Go.Mth
open Go.Ab
def lstF (m : MapM) (x : Int) (i : Nat) : Nat := leastI (orbL m x i) i
def perP (m : MapM) (x : Int) (p : Nat) : Prop := 0 < p ∧ iterZ m p x = x ∧ ∀ i, 0 < i → i < p → iterZ m i x ≠ x
open Classical in
noncomputable def refLp (m : MapM) (x : Int) (k : Int) : List Int := if h : ∃ p : Nat, (p : Int) ≤ k ∧ perP m x p then cyc m x (Classical.choose h) else []
end Go.Mth

namespace Go.Mth
open Go.Ab
def lnP (m : MapM) (n s : Nat) : List LinZ := (List.range s).map fun t => lineZ m (wordT m.mod.toNat n t)
def outP (m : MapM) (k : Int) (o : List (List Int)) (n t : Nat) : Prop := o.Pairwise ordL ∧ (∀ l ∈ o, l ∈ cyU m k.toNat) ∧ ∀ n' t', 0 < n' → (n' < n ∨ n' = n ∧ t' < t) → t' < m.mod.toNat ^ n' → (fixZ m (wordT m.mod.toNat n' t')).den = 1 → refLp m (fixZ m (wordT m.mod.toNat n' t')).num k ∈ o
end Go.Mth

namespace Go.Mth
open Go Go.Ab
def trnP (m : MapM) (w : List Int) (f : FrZ) : Prop := (∀ i, i < w.length → restF m (trnZ m w f i) = w.getD i 0) ∧ trnZ m w f w.length = f
noncomputable instance (m : MapM) (w : List Int) (f : FrZ) : Decidable (trnP m w f) := Classical.propDecidable _
def rdZ (x : Frc) : FrZ := ⟨numS x.num, numS x.den⟩
def rdO (x : Frc) : Prop := (okS x.num = true ∧ okS x.den = true) ∧ RedF (rdZ x)
noncomputable instance (x : Frc) : Decidable (rdO x) := Classical.propDecidable _
noncomputable def rdF (x : Frc) : FrZ := if okS x.num = true ∧ okS x.den = true then rdZ x else ⟨0, 0⟩
end Go.Mth

namespace Go.Mth
open Go Go.Ab
end Go.Mth

set_option maxRecDepth 100000
namespace Go.Mth
open Go Go.Ab
noncomputable def dpB (m : MapM) (b : Int) : Nat := by classical exact if h : ∃ i : Nat, m.mod ^ i ≤ b ∧ b < m.mod ^ (i + 1) then Classical.choose h else 0
def rtn (m : MapM) (z : Int) : Nat → Nat → Nat
 | 0, _ => 0
 | f + 1, j => if 700 < ndig (iterZ m (j + 1) z).natAbs then 0 else if iterZ m (j + 1) z = z then j + 1 else rtn m z f (j + 1)
theorem rtn_0 {m : MapM} {z : Int} {K j : Nat} (h : rtn m z K 0 = rtn m z (K - j) j) (hj : ¬ j < K) : rtn m z K 0 = 0 := by rw [h, show K - j = 0 by omega]; rfl
theorem rtn_big {m : MapM} {z : Int} {K j : Nat} (h : rtn m z K 0 = rtn m z (K - j) j) (hj : j < K) (h1 : 700 < ndig (iterZ m (j + 1) z).natAbs) : rtn m z K 0 = 0 := by rw [h, show K - j = (K - (j + 1)) + 1 by omega, rtn, if_pos h1]
theorem rtn_y {m : MapM} {z : Int} {K j : Nat} (h : rtn m z K 0 = rtn m z (K - j) j) (hj : j < K) (h1 : ¬ 700 < ndig (iterZ m (j + 1) z).natAbs) (h2 : iterZ m (j + 1) z = z) : rtn m z K 0 = j + 1 := by rw [h, show K - j = (K - (j + 1)) + 1 by omega, rtn, if_neg h1, if_pos h2]
theorem rtn_n {m : MapM} {z : Int} {K j : Nat} (h : rtn m z K 0 = rtn m z (K - j) j) (hj : j < K) (h1 : ¬ 700 < ndig (iterZ m (j + 1) z).natAbs) (h2 : iterZ m (j + 1) z ≠ z) : rtn m z K 0 = rtn m z (K - (j + 1)) (j + 1) := by rw [h, show K - j = (K - (j + 1)) + 1 by omega, rtn, if_neg h1, if_neg h2]
/- in how many loops -/
def hasC (z : Int) (L : List (List Int)) : Nat := L.countP fun l => decide (z ∈ l)
theorem not_mem_of {X : List Int} {z : Int} (h : ∀ q, q < X.length → X.getD q default ≠ z) : z ∉ X := fun e => by
 obtain ⟨q, hq, e2⟩ := List.mem_iff_getElem.1 e
 refine h q hq ?_
 rw [List.getD_eq_getElem?_getD, List.getElem?_eq_getElem hq]
 exact e2
/- the steps of the fractions of a word, once round -/
theorem col_lp3 : lpL (kinM 3 1) 3 = [[-1], [0], [1, 2], [-10, -5, -7]] ∧ chkE (kinM 3 1) 3 = 0 := by
 have h : chkE (kinM 3 1) 3 = 0 := chk_0 okM_ex ⟨exW_free, by decide, by decide⟩
 refine ⟨(lpL_ok h).trans ?_, h⟩
 show ((([] ++ lpN colM 1) ++ lpN colM 2) ++ lpN colM 3) = _
 rw [col_1, col_2, col_3]
 rfl
end Go.Mth

namespace Go.Mth
open Go Go.Ab
theorem ndig_lt {n k : Nat} (h : n < 10 ^ k) (h1 : 1 ≤ k) : ndig n ≤ k := by
 unfold ndig
 split
 ·exact h1
 ·exact decs_len_lt h
theorem rtn_is {m : MapM} {z : Int} {p : Nat} (hp : iterZ m p z = z) (hn : ∀ i, i < p → 0 < i → iterZ m i z ≠ z) (hb : ∀ i, i < p + 1 → ndig (iterZ m i z).natAbs ≤ 700) : ∀ f j, j < p → p ≤ j + f → rtn m z f j = p
 | 0, j, h1, h2 => by omega
 | f + 1, j, h1, h2 => by
  have := hb (j + 1) (by omega)
  rw [rtn, if_neg (by omega)]
  by_cases e : j + 1 = p
  ·rw [e, if_pos hp]
  ·rw [if_neg (hn (j + 1) (by omega) (by omega))]
   exact rtn_is hp hn hb f (j + 1) (by omega) (by omega)
def wz5 : List Int := [-1, 0, 1, -5, -17]
theorem five_a : ∀ i, i < 5 → iterZ (kinM 3 1) (colL.getD i default).length (wz5.getD i default) = wz5.getD i default := by decide +kernel
theorem five_b : ∀ i, i < 5 → ∀ j, j < (colL.getD i default).length → 0 < j → iterZ (kinM 3 1) j (wz5.getD i default) ≠ wz5.getD i default := by decide +kernel
theorem five_c : ∀ i, i < 5 → ∀ j, j < (colL.getD i default).length + 1 → (iterZ (kinM 3 1) j (wz5.getD i default)).natAbs < 1000000 := by decide +kernel
theorem five_d : ∀ i, i < 5 → 0 < (colL.getD i default).length ∧ (colL.getD i default).length ≤ 14 := by decide +kernel
theorem five_e : ∀ i, i < 5 → wz5.getD i default ∈ colL.getD i default := by decide +kernel
theorem five_f : ∀ i, i < 5 → (wz5.getD i default).natAbs < 1000 := by decide +kernel
theorem five_rtn {i : Nat} (hi : i < 5) : rtn (kinM 3 1) (wz5.getD i default) 14 0 = (colL.getD i default).length := by
 obtain ⟨d1, d2⟩ := five_d i hi
 exact rtn_is (five_a i hi) (fun j h1 h2 => five_b i hi j h1 h2) (fun j hj => Nat.le_trans (ndig_lt (k := 6) (five_c i hi j hj) (by decide)) (by decide)) 14 0 d1 (by omega)
theorem tx17m : txt (-17) = ⟨#[45, 49, 55]⟩ := by simp [txt, txtL, decs, strN]; rfl
theorem five_w : wz5.map txt = [⟨#[45, 49]⟩, ⟨#[48]⟩, ⟨#[49]⟩, ⟨#[45, 53]⟩, ⟨#[45, 49, 55]⟩] := by
 show [txt (-1), txt 0, txt 1, txt (-5), txt (-17)] = _
 rw [txm1, tx0, tx1, txm5, tx17m]
theorem five_fit {i : Nat} (hi : i < 5) : Fit (wz5.getD i default) := fit_of_pow (k := 3) (five_f i hi) (by decide) (by decide)
end Go.Mth
namespace Go.Proofs.YtaeknciienkijaaGreatDoor
open Go Go.Ab Go.Mth
theorem fieldsCount : Tryz.prog.fieldsOf 34 = #[{ name := "Name", type := 9, offset := 0, embedded := false, tag := "", pkgPath := "", byteOffset := 0 }, { name := "Many", type := 3, offset := 1, embedded := false, tag := "", pkgPath := "", byteOffset := 16 }] := by kernel_rfl
theorem eq_api_Count (a1 : ByteArray) (a2 : Int) (b1 : ByteArray) (b2 : Int) : AggEq cx.P 34 [.string a1, .int .i64 a2] [.string b1, .int .i64 b2] (decide (a1 = b1 ∧ a2 = b2)) := by
 refine ⟨by kernel_rfl, fun w => ?_⟩
 have hS : Tryz.prog.underlying 34 = some (.struct (Tryz.prog.fieldsOf 34)) := by kernel_rfl
 show (Op.equalIn 10000 34 _ _).run Tryz.prog w = _
 rw [show (10000 : Nat) = 9998 + 1 + 1 from rfl, run_equalIn_agg w (9998 + 1) _ _ _ hS (by kernel_rfl), fieldsCount]
 have uS : Tryz.prog.underlying 9 = some .string := by kernel_rfl
 have uI : Tryz.prog.underlying 3 = some (.int .i64) := by kernel_rfl
 simp only [Op.eqFields, part_str uS, part_int uI, Sem.run_bind, Sem.run_ite, run_equalIn_string _ _ _ _ _ uS, run_equalIn_int _ _ _ _ _ _ _ uI]
 by_cases h1 : a1 = b1 <;> by_cases h2 : a2 = b2 <;> simp [ba_eq, run_equalIn_string _ _ _ _ _ uS, run_equalIn_int _ _ _ _ _ _ _ uI, h1, h2]
end Go.Proofs.YtaeknciienkijaaGreatDoor

namespace Go.Proofs.YtaeknciienkijaaGreatDoor
open Go Go.Ab Go.Mth
theorem f168_ : callable cx.P 32 = true := by kernel_rfl
theorem f169_ : cx.P.underlying 35 = some (.slice 9) := by kernel_rfl
theorem f170_ : tySc cx.P 9 = true := by kernel_rfl
theorem f171_ : callable cx.P 33 = true := by kernel_rfl
theorem f172_ : callable cx.P 34 = true := by kernel_rfl
theorem f173_ : callable cx.P 35 = true := by kernel_rfl
theorem f174_ : callable cx.P 5 = true := by kernel_rfl
theorem f175_ : callable cx.P 36 = true := by kernel_rfl
theorem f176_ : callable cx.P 4 = true := by kernel_rfl
theorem f177_ : cx.P.underlying 22 = some (.slice 41) := by kernel_rfl
theorem f178_ : callable cx.P 6 = true := by kernel_rfl
theorem f179_ : cx.P.underlying 30 = some (.slice 34) := by kernel_rfl
theorem f180_ : tyAgg cx.P 34 = some 2 := by kernel_rfl
theorem f181_ : callable cx.P 7 = true := by kernel_rfl
theorem f182_ : tyField cx.P 41 0 = some (0, 35) := by kernel_rfl
theorem f183_ : tySc cx.P 35 = true := by kernel_rfl
theorem f184_ : callable cx.P 8 = true := by kernel_rfl
theorem f185_ : callable cx.P 10 = true := by kernel_rfl
theorem f186_ : callable cx.P 9 = true := by kernel_rfl
theorem f187_ : callable cx.P 11 = true := by kernel_rfl
theorem c_tHas (X : List Int) (z : Int) (hl : X.length ≤ 17592186044416) (hz : (digs z.natAbs).length ≤ 1000) : ECalls cx 8 [.sl 1 (sbs (List.map txt X)), intR z] (bp (z ∈ X)) := by
 refine ecalls_of_awp Tryz.func8 (c := _) rfl (Nat.le_of_ble_eq_true rfl) ?_
 show awp cx 21 _ (postF cx Tryz.f8 _) ⟨[(0, .sl 1 (sbs (List.map txt X))), (1, intR z)], []⟩
 have hml : (List.map txt X).length = X.length := List.length_map (f := txt)
 refine awp_seq fun K0 hK0 => awp_region rfl ?_
 refine o_box 2 [bp (z < 0), .sl 1 (ns .i64 (digs z.natAbs))] gn rfl rfl ?_
 refine o_as Fv rfl (aops_end (hK0 _ (awp_seq fun K1 hK1 => awp_region rfl ?_)))
 refine o_loadA [bp (z < 0), .sl 1 (ns .i64 (digs z.natAbs))] gn f14_ rfl rfl rfl rfl rfl ?_
 refine o_ct (c_rText z (by first | omega | assumption | (simp only [Int.natAbs_neg]; omega))) gn f168_ rfl ?_
 refine o_as (Sv (txt z)) rfl (aops_end (hK1 _ (awp_seq fun K2 hK2 => awp_seq fun K3 hK3 => awp_region rfl (o_as (Nv 0) rfl (aops_end (hK3 _ ?_))))))
 refine awp_block ?_
 refine awp_loopR (fun κ σ => ∃ (i : Nat), (i ≤ X.length) ∧ (∀ q, q < i → X.getD q default ≠ z) ∧ (X.length - i) = κ ∧ σ = ⟨[(0, .sl 1 (sbs (List.map txt X))), (5, Sv (txt z)), (6, Nv i)], []⟩) ⟨_, _, ⟨0, Nat.zero_le _, (fun q hq => by omega), rfl, rfl⟩, ?wk0⟩ ?rd0
 case wk0 =>
  exact Wk.sub ⟨rfl, (by first | rfl | simp), (by first | rfl | exact nm_int (by omega)), trivial⟩ trivial
 rintro κ _ ⟨i, hi, hv, rfl, rfl⟩
 refine awp_seq fun K4 hK4 => awp_seq fun K5 hK5 => awp_region rfl (o_mv (Nv i) rfl (o_mv (.sl 1 (sbs (List.map txt X))) rfl ?_))
 refine s_len (List.map txt X) gn f169_ rfl ?_
 refine n_as (v' := (Nv X.length)) (by exact congrArg (nm _) hml) ?_
 refine n_lss i X.length gn rfl rfl ?_
 refine aops_end (hK5 _ ?_)
 refine awp_condQ (q := i < X.length) rfl (fun h1 => ?_) (fun h1 => ?_)
 ·refine awp_skip (hK4 _ (awp_seq fun K6 hK6 => ?_))
  refine awp_block ?_
  refine awp_seq fun K7 hK7 => awp_region rfl (o_mv (.sl 1 (sbs (List.map txt X))) rfl (o_mv (Nv i) rfl ?_))
  refine s_index (List.map txt X) i gn f130_ rfl rfl (by omega) ?_
  refine s_loadI (List.map txt X) i gn f170_ rfl (by omega) ?_
  refine n_as (v' := (Sv (txt (X.getD i default)))) (by exact str_as (map_getD (by omega))) ?_
  refine o_mv (Sv (txt z)) rfl ?_
  refine o_eqlS (a := (txt (X.getD i default))) (c := (txt z)) gn rfl rfl ?_
  refine aops_end (hK7 _ ?_)
  refine awp_condQ (q := (txt (X.getD i default)).toList = (txt z).toList) rfl (fun h2 => ?_) (fun h2 => ?_)
  ·refine awp_seq fun K8 hK8 => awp_region rfl (o_as Tv rfl (aops_end (hK8 _ ?_)))
   refine awp_ret ?_
   refine post_ret ⟨[Tv], ⟨AV.le_refl _, trivial⟩, rfl, ?_⟩
   exact bpy (by have e := txt_inj (str_eq.1 h2); rw [← e]; exact getD_mem (l := X) (i := i) (d := 0) (by omega))
  ·refine awp_skip (hK6 _ (awp_region rfl (o_mv (Nv i) rfl ?_)))
   refine n_add i 1 gn rfl rfl (by simp only [topOf]; omega) ?_
   refine o_as (Nv (i + 1)) rfl (aops_end ?_)
   refine ⟨_, _, ?lt, ⟨i + 1, (by omega), (fun q hq => by by_cases e : q = i; subst e; exact (fun e => absurd (str_eq.2 (congrArg txt e)) (by assumption)); exact hv q (by omega)), rfl, rfl⟩, ?wk⟩
   case lt => omega
   case wk => exact Wk.sub ⟨rfl, rfl, (by first | rfl | exact nm_int (by omega)), trivial⟩ trivial
 ·refine awp_exit ?_
  refine hK2 _ (awp_seq fun K9 hK9 => awp_region rfl (o_as Fv rfl (aops_end (hK9 _ ?_))))
  refine awp_ret ?_
  refine post_ret ⟨[Fv], ⟨AV.le_refl _, trivial⟩, rfl, ?_⟩
  exact bpn (not_mem_of fun q hq => hv q (by omega))

theorem c_tReturns (m : MapM) (z : Int) (K : Nat) (hM : OkM m) (hK : K ≤ 100) (hz : (digs z.natAbs).length ≤ 1000) : ECalls cx 9 [mapV m, intR z, Nv K] (Nv (rtn m z K 0)) := by
 refine ecalls_of_awp Tryz.func9 (c := _) rfl (Nat.le_of_ble_eq_true rfl) ?_
 show awp cx 26 _ (postF cx Tryz.f9 _) ⟨[(0, mapV m), (1, intR z), (2, Nv K)], []⟩
 refine awp_seq fun K0 hK0 => awp_region rfl ?_
 refine o_box 2 [Iv m.mod, Lv m.mul, Lv m.add] gn rfl rfl ?_
 refine o_box 3 [bp (z < 0), .sl 1 (ns .i64 (digs z.natAbs))] gn rfl rfl ?_
 refine o_as (Nv 0) rfl (aops_end (hK0 _ (awp_seq fun K1 hK1 => awp_region rfl ?_)))
 refine o_loadA [bp (z < 0), .sl 1 (ns .i64 (digs z.natAbs))] gn f14_ rfl rfl rfl rfl rfl ?_
 refine o_alloc 4 [Fv, Zv] gn f9_ rfl rfl rfl ?_
 refine o_store [(4, oZ 37 .i64 z), (3, oZ 37 .i64 z), (2, oM 28 m)] gn f13_ rfl rfl rfl rfl rfl rfl ?_
 refine aops_end (hK1 _ (awp_seq fun K2 hK2 => awp_seq fun K3 hK3 => awp_region rfl (o_as (Nv 1) rfl (aops_end (hK3 _ ?_)))))
 refine awp_block ?_
 refine awp_loopR (fun κ σ => ∃ (j : Nat), (j ≤ K) ∧ (rtn m z K 0 = rtn m z (K - j) j) ∧ (K - j) = κ ∧ σ = ⟨[(2, Nv K), (3, .ref 2 0), (4, .ref 3 0), (7, .ref 4 0), (8, Nv (j + 1))], [(2, oM 28 m), (3, oZ 37 .i64 z), (4, oZ 37 .i64 (iterZ m j z))]⟩) ⟨_, _, ⟨0, Nat.zero_le _, rfl, rfl, rfl⟩, ?wk0⟩ ?rd0
 case wk0 =>
  exact Wk.sub ⟨rfl, rfl, rfl, rfl, (by first | rfl | exact nm_int (by omega)), trivial⟩ ⟨rfl, rfl, rfl, trivial⟩
 rintro κ _ ⟨j, hj, hr, rfl, rfl⟩
 have k2 := iter_len hM z j
 have k4 := iter_len hM z (j + 1)
 refine awp_seq fun K4 hK4 => awp_seq fun K5 hK5 => awp_region rfl (o_mv (Nv (j + 1)) rfl (o_mv (Nv K) rfl ?_))
 refine n_leq (j + 1) K gn rfl rfl ?_
 refine aops_end (hK5 _ ?_)
 refine awp_condQ (q := (j + 1) ≤ K) rfl (fun h1 => ?_) (fun h1 => ?_)
 ·refine awp_skip (hK4 _ (awp_seq fun K6 hK6 => ?_))
  refine awp_block ?_
  refine awp_seq fun K7 hK7 => awp_region rfl ?_
  refine o_loadA [Iv m.mod, Lv m.mul, Lv m.add] gn f64_ rfl rfl rfl rfl rfl ?_
  refine o_loadA [bp ((iterZ m j z) < 0), .sl 1 (ns .i64 (digs (iterZ m j z).natAbs))] gn f14_ rfl rfl rfl rfl rfl ?_
  refine o_ct (c_gStep m (iterZ m j z) (by first | assumption | exact okM_iff.1 (by assumption)) (by first | omega | assumption | (simp only [Int.natAbs_neg]; omega))) gn f171_ rfl ?_
  refine n_as (v' := (intR (iterZ m (j + 1) z))) (by exact rfl) ?_
  refine o_store [(2, oM 28 m), (3, oZ 37 .i64 z), (4, oZ 37 .i64 (iterZ m (j + 1) z))] gn f13_ rfl rfl rfl rfl rfl rfl ?_
  refine aops_end (hK7 _ (awp_seq fun K8 hK8 => awp_seq fun K9 hK9 => awp_region rfl ?_))
  refine o_loadA [bp ((iterZ m (j + 1) z) < 0), .sl 1 (ns .i64 (digs (iterZ m (j + 1) z).natAbs))] gn f14_ rfl rfl rfl rfl rfl ?_
  refine o_ct (c_rDigits (iterZ m (j + 1) z) (by first | omega | assumption | (simp only [Int.natAbs_neg]; omega))) gn f172_ rfl ?_
  refine n_gtr (ndig (iterZ m (j + 1) z).natAbs) 700 gn rfl rfl ?_
  refine aops_end (hK9 _ ?_)
  refine awp_condQ (q := 700 < (ndig (iterZ m (j + 1) z).natAbs)) rfl (fun h2 => ?_) (fun h2 => ?_)
  ·refine awp_seq fun K10 hK10 => awp_region rfl (o_as (Nv 0) rfl (aops_end (hK10 _ ?_)))
   refine awp_ret ?_
   refine post_ret ⟨[Nv 0], ⟨AV.le_refl _, trivial⟩, rfl, ?_⟩
   first | exact congrArg (nm _) (rtn_big hr (by omega) (by assumption)) | exact congrArg (nm _) (rtn_y hr (by omega) (by assumption) (cmpZ_eq0.1 (by assumption))) | exact congrArg (nm _) (rtn_0 hr (by omega))
  ·refine awp_skip (hK8 _ (awp_seq fun K11 hK11 => awp_region rfl ?_))
   refine o_loadA [bp ((iterZ m (j + 1) z) < 0), .sl 1 (ns .i64 (digs (iterZ m (j + 1) z).natAbs))] gn f14_ rfl rfl rfl rfl rfl ?_
   refine o_loadA [bp (z < 0), .sl 1 (ns .i64 (digs z.natAbs))] gn f14_ rfl rfl rfl rfl rfl ?_
   refine o_ct (c_rCmp (iterZ m (j + 1) z) z) gn f173_ rfl ?_
   refine o_eql (a := (cmpZ (iterZ m (j + 1) z) z)) (c := ((0 : Nat) : Int)) gn rfl rfl ?_
   refine aops_end (hK11 _ ?_)
   refine awp_condQ (q := (cmpZ (iterZ m (j + 1) z) z) = ((0 : Nat) : Int)) rfl (fun h3 => ?_) (fun h3 => ?_)
   ·refine awp_seq fun K12 hK12 => awp_region rfl (o_mv (Nv (j + 1)) rfl (o_as (Nv (j + 1)) rfl (aops_end (hK12 _ ?_))))
    refine awp_ret ?_
    refine post_ret ⟨[Nv (j + 1)], ⟨AV.le_refl _, trivial⟩, rfl, ?_⟩
    first | exact congrArg (nm _) (rtn_big hr (by omega) (by assumption)) | exact congrArg (nm _) (rtn_y hr (by omega) (by assumption) (cmpZ_eq0.1 (by assumption))) | exact congrArg (nm _) (rtn_0 hr (by omega))
   ·refine awp_skip (hK6 _ (awp_region rfl (o_mv (Nv (j + 1)) rfl ?_)))
    refine n_add (j + 1) 1 gn rfl rfl (by simp only [topOf]; omega) ?_
    refine o_as (Nv ((j + 1) + 1)) rfl (aops_end ?_)
    refine ⟨_, _, ?lt, ⟨j + 1, (by omega), (rtn_n hr (by omega) (by assumption) (fun e => absurd (cmpZ_eq0.2 e) (by assumption))), rfl, rfl⟩, ?wk⟩
    case lt => omega
    case wk => exact Wk.sub ⟨rfl, rfl, rfl, rfl, (by first | rfl | exact nm_int (by omega)), trivial⟩ ⟨rfl, rfl, rfl, trivial⟩
 ·refine awp_exit ?_
  refine hK2 _ (awp_seq fun K13 hK13 => awp_region rfl (o_as (Nv 0) rfl (aops_end (hK13 _ ?_))))
  refine awp_ret ?_
  refine post_ret ⟨[Nv 0], ⟨AV.le_refl _, trivial⟩, rfl, ?_⟩
  first | exact congrArg (nm _) (rtn_big hr (by omega) (by assumption)) | exact congrArg (nm _) (rtn_y hr (by omega) (by assumption) (cmpZ_eq0.1 (by assumption))) | exact congrArg (nm _) (rtn_0 hr (by omega))

theorem c_tTurns  : ECalls cx 11 [] (.lit (.bool true)) := by
 refine ecalls_of_awp Tryz.func11 (c := _) rfl (Nat.le_of_ble_eq_true rfl) ?_
 show awp cx 32 _ (postF cx Tryz.f11 _) ⟨[], []⟩
 refine awp_seq fun K0 hK0 => awp_region rfl (o_as Fv rfl (aops_end (hK0 _ (awp_seq fun K1 hK1 => awp_region rfl ?_))))
 refine o_ct c_sCollatz gn f174_ rfl ?_
 refine o_buildSlice 2 (ns .i64 ([1, 0, 0])) [(0, [Nv 1]), (1, [Nv 0]), (2, [Nv 0])] gn f10_ rfl f26_ rfl rfl rfl rfl rfl rfl rfl ?_
 refine o_callG [(2, 1, ns .i64 ([1, 0, 0]))] [mapV (kinM 3 1), .sl 1 (ns .i64 ([1, 0, 0]))] _ (.tup [(.agg [(Sv ({data := #[49]} : ByteArray)), (Sv ({data := #[53]} : ByteArray))]), Nv 0]) [] gn f175_ rfl ⟨⟨_, rfl⟩, trivial⟩ rfl rfl (LeL.cons (AV.le_refl _) (LeL.cons (AV.le_refl _) LeL.nil)) (by have h := c_yFixed (kinM 3 1) [1, 0, 0] (by decide); rw [ex6_f2.1, ex6_f2.2] at h; exact h) rfl ?_
 refine o_mv (.tup [(.agg [(Sv ({data := #[49]} : ByteArray)), (Sv ({data := #[53]} : ByteArray))]), Nv 0]) rfl (o_extract (.agg [(Sv ({data := #[49]} : ByteArray)), (Sv ({data := #[53]} : ByteArray))]) gn rfl rfl (o_extract (Nv 0) gn rfl rfl ?_))
 refine o_alloc 3 [Sv Ev, Sv Ev] gn f93_ rfl rfl rfl ?_
 refine o_store [(3, (.var 81 [(Sv ({data := #[49]} : ByteArray)), (Sv ({data := #[53]} : ByteArray))]))] gn f98_ rfl rfl rfl rfl rfl rfl ?_
 refine o_as (Nv 0) rfl (aops_end (hK1 _ (awp_seq fun K2 hK2 => awp_region rfl ?_)))
 refine o_ct c_sCollatz gn f174_ rfl ?_
 refine o_call [mapV (kinM 3 1), Nv 3] (.tup [.sl 1 (gcells cP ([[-1], [0], [1, 2], [-10, -5, -7]])), Nv 0]) gn f176_ rfl (by have h := c_Loops (kinM 3 1) 3 (by decide); rw [col_lp3.1, col_lp3.2] at h; exact h) ?_
 refine o_mv (.tup [.sl 1 (gcells cP ([[-1], [0], [1, 2], [-10, -5, -7]])), Nv 0]) rfl (o_extract (.sl 1 (gcells cP ([[-1], [0], [1, 2], [-10, -5, -7]]))) gn rfl rfl (o_extract (Nv 0) gn rfl rfl (o_as (.sl 1 (gcells cP ([[-1], [0], [1, 2], [-10, -5, -7]]))) rfl (o_as (Nv 0) rfl (aops_end (hK2 _ (awp_seq fun K3 hK3 => awp_region rfl (o_mv (Nv 0) rfl ?_))))))))
 refine n_eql 0 0 gn rfl rfl ?_
 refine o_mv (bp (0 = 0)) rfl ?_
 refine n_as (v' := Tv) (by exact bpy (by first | rfl | decide)) ?_
 refine o_loadA [(Sv ({data := #[49]} : ByteArray)), (Sv ({data := #[53]} : ByteArray))] (Gd.yes rfl rfl rfl) f99_ rfl rfl rfl rfl rfl ?_
 refine o_build [(Sv ({data := #[49]} : ByteArray)), (Sv ({data := #[53]} : ByteArray))] [(0, [(Sv ({data := #[49]} : ByteArray))]), (1, [(Sv ({data := #[53]} : ByteArray))])] (Gd.yes rfl rfl rfl) f97_ f93_ rfl rfl rfl ?_
 refine o_eqlA [.string ({data := #[49]} : ByteArray), .string ({data := #[53]} : ByteArray)] [.string ({data := #[49]} : ByteArray), .string ({data := #[53]} : ByteArray)] (({data := #[49]} : ByteArray) = ({data := #[49]} : ByteArray) ∧ ({data := #[53]} : ByteArray) = ({data := #[53]} : ByteArray)) (Gd.yes rfl rfl rfl) rfl rfl (eq_api_Frac _ _ _ _) ?_
 refine o_pickT (bp (({data := #[49]} : ByteArray) = ({data := #[49]} : ByteArray) ∧ ({data := #[53]} : ByteArray) = ({data := #[53]} : ByteArray))) gn rfl rfl rfl ?_
 refine o_mv (bp (({data := #[49]} : ByteArray) = ({data := #[49]} : ByteArray) ∧ ({data := #[53]} : ByteArray) = ({data := #[53]} : ByteArray))) rfl ?_
 refine n_as (v' := Tv) (by exact bpy (by first | rfl | decide)) ?_
 refine o_move (Nv 0) (Gd.yes rfl rfl rfl) rfl ?_
 refine n_eql 0 0 (Gd.yes rfl rfl rfl) rfl rfl ?_
 refine o_pickT (bp (0 = 0)) gn rfl rfl rfl ?_
 refine o_mv (bp (0 = 0)) rfl ?_
 refine n_as (v' := Tv) (by exact bpy (by first | rfl | decide)) ?_
 refine o_move (.sl 1 (gcells cP ([[-1], [0], [1, 2], [-10, -5, -7]]))) (Gd.yes rfl rfl rfl) rfl ?_
 refine g_len cP ([[-1], [0], [1, 2], [-10, -5, -7]]) cP_len (Gd.yes rfl rfl rfl) f177_ rfl ?_
 refine n_eql (([[-1], [0], [1, 2], [-10, -5, -7]]).length) 4 (Gd.yes rfl rfl rfl) rfl rfl ?_
 refine o_pickT (bp ((([[-1], [0], [1, 2], [-10, -5, -7]]).length) = 4)) gn rfl rfl rfl ?_
 refine o_as (bp ((([[-1], [0], [1, 2], [-10, -5, -7]]).length) = 4)) rfl (aops_end (hK3 _ ?_))
 refine awp_ret ?_
 refine post_ret ⟨[bp ((([[-1], [0], [1, 2], [-10, -5, -7]]).length) = 4)], ⟨AV.le_refl _, trivial⟩, rfl, ?_⟩
 first | rfl | exact (bpy (by first | rfl | decide)).symm

theorem c_TopFive  : ECalls cx 3 [] (.lit (.bool true)) := by
 refine ecalls_of_awp Tryz.func3 (c := _) rfl (Nat.le_of_ble_eq_true rfl) ?_
 show awp cx 72 _ (postF cx Tryz.f3 _) ⟨[], []⟩
 have hM := okM_c31
 have hcl : colL.length = 5 := rfl
 have hwl : (wz5.map txt).length = 5 := rfl
 have hw5 : wz5.length = 5 := rfl
 refine awp_seq fun K0 hK0 => awp_region rfl (o_as Fv rfl (aops_end (hK0 _ (awp_seq fun K1 hK1 => awp_region rfl ?_))))
 refine o_ct c_sCollatz gn f174_ rfl ?_
 refine o_call [mapV (kinM 3 1), Nv 14] (.tup [.sl 1 (gcells cP colL), Nv 0]) gn f176_ rfl (by have h := c_Loops (kinM 3 1) ((14 : Nat) : Int) (by decide); rw [col_lp14, col_chk14] at h; exact h) ?_
 refine o_mv (.tup [.sl 1 (gcells cP colL), Nv 0]) rfl (o_extract (.sl 1 (gcells cP colL)) gn rfl rfl (o_extract (Nv 0) gn rfl rfl (o_as (.sl 1 (gcells cP colL)) rfl (o_as (Nv 0) rfl (aops_end (hK1 _ (awp_seq fun K2 hK2 => awp_region rfl ?_)))))))
 refine o_ct c_sCollatz gn f174_ rfl ?_
 refine o_ct c_fSurvey gn f178_ rfl ?_
 refine o_mv (.tup [(.sl 2 [(Sv (⟨#[49]⟩ : ByteArray)), Nv 3000]), Nv 0]) rfl (o_extract (.sl 2 [(Sv (⟨#[49]⟩ : ByteArray)), Nv 3000]) gn rfl rfl (o_extract (Nv 0) gn rfl rfl (o_as (.sl 2 [(Sv (⟨#[49]⟩ : ByteArray)), Nv 3000]) rfl (o_as (Nv 0) rfl (aops_end (hK2 _ (awp_seq fun K3 hK3 => awp_seq fun K4 hK4 => awp_region rfl (o_mv (Nv 0) rfl ?_))))))))
 refine n_neq 0 0 gn rfl rfl ?_
 refine n_as (v' := Fv) (by exact bp_no (by decide)) ?_
 refine o_mv Fv rfl (o_move (Nv 0) (Gd.yes rfl rfl rfl) rfl ?_)
 refine n_neq 0 0 (Gd.yes rfl rfl rfl) rfl rfl ?_
 refine n_as (v' := Fv) (by exact bp_no (by decide)) ?_
 refine o_pickF Fv gn rfl rfl rfl ?_
 refine o_mv Fv rfl (o_move (.sl 1 (gcells cP colL)) (Gd.yes rfl rfl rfl) rfl ?_)
 refine g_len cP colL cP_len (Gd.yes rfl rfl rfl) f177_ rfl ?_
 refine n_neq (colL.length) 5 (Gd.yes rfl rfl rfl) rfl rfl ?_
 refine n_as (v' := Fv) (by exact bp_no (by decide)) ?_
 refine o_pickF Fv gn rfl rfl rfl ?_
 refine o_mv Fv rfl (o_move (.sl 2 [(Sv (⟨#[49]⟩ : ByteArray)), Nv 3000]) (Gd.yes rfl rfl rfl) rfl ?_)
 refine o_lenSl 1 (Gd.yes rfl rfl rfl) f179_ rfl (by rfl) ?_
 refine n_neq 1 1 (Gd.yes rfl rfl rfl) rfl rfl ?_
 refine n_as (v' := Fv) (by exact bp_no (by decide)) ?_
 refine o_pickF Fv gn rfl rfl rfl ?_
 refine o_mv Fv rfl (o_move (.sl 2 [(Sv (⟨#[49]⟩ : ByteArray)), Nv 3000]) (Gd.yes rfl rfl rfl) rfl ?_)
 refine o_indexN (cs := [(Sv (⟨#[49]⟩ : ByteArray)), Nv 3000]) (i := ((0 : Nat) : Int)) (Gd.yes rfl rfl rfl) f167_ rfl rfl (by omega) (by decide) ?_
 refine o_loadIA [(Sv (⟨#[49]⟩ : ByteArray)), Nv 3000] (Gd.yes rfl rfl rfl) f180_ rfl (Nat.le_of_ble_eq_true rfl) rfl ?_
 refine o_build [(Sv ({data := #[49]} : ByteArray)), Nv 3000] [(0, [(Sv ({data := #[49]} : ByteArray))]), (1, [Nv 3000])] (Gd.yes rfl rfl rfl) f165_ f166_ rfl rfl rfl ?_
 refine o_neqA [.string (⟨#[49]⟩ : ByteArray), .int .i64 ((3000 : Nat) : Int)] [.string ({data := #[49]} : ByteArray), .int .i64 ((3000 : Nat) : Int)] ((⟨#[49]⟩ : ByteArray) = ({data := #[49]} : ByteArray) ∧ ((3000 : Nat) : Int) = ((3000 : Nat) : Int)) (Gd.yes rfl rfl rfl) rfl rfl (eq_api_Count _ _ _ _) ?_
 refine n_as (v' := Fv) (by exact bp_no (fun e => e ⟨rfl, rfl⟩)) ?_
 refine o_pickF Fv gn rfl rfl rfl ?_
 refine aops_end (hK4 _ ?_)
 refine awp_condB (b := false) rfl (fun hh => absurd (hh.symm.trans rfl) (by decide)) (fun _ => ?_)
 refine awp_skip (hK3 _ (awp_seq fun K5 hK5 => awp_region rfl ?_))
 refine o_buildSlice 2 (sbs ([({data := #[45, 49]} : ByteArray), ({data := #[48]} : ByteArray), ({data := #[49]} : ByteArray), ({data := #[45, 53]} : ByteArray), ({data := #[45, 49, 55]} : ByteArray)])) [(0, [(Sv ({data := #[45, 49]} : ByteArray))]), (1, [(Sv ({data := #[48]} : ByteArray))]), (2, [(Sv ({data := #[49]} : ByteArray))]), (3, [(Sv ({data := #[45, 53]} : ByteArray))]), (4, [(Sv ({data := #[45, 49, 55]} : ByteArray))])] gn f130_ rfl f131_ rfl rfl rfl rfl rfl rfl rfl ?_
 refine o_as (.row 2) rfl (aops_end (hK5 _ (awp_seq fun K6 hK6 => awp_seq fun K7 hK7 => ?_)))
 refine awp_wk (σ' := ⟨[(1, .sl 1 (gcells cP colL)), (5, .row 2)], [(2, (.row 9 1 (sbs ([({data := #[45, 49]} : ByteArray), ({data := #[48]} : ByteArray), ({data := #[49]} : ByteArray), ({data := #[45, 53]} : ByteArray), ({data := #[45, 49, 55]} : ByteArray)]))))]⟩) (Wk.sub ⟨rfl, rfl, trivial⟩ ⟨rfl, trivial⟩) ?_
 refine awp_wk (σ' := ⟨[(1, .sl 1 (gcells cP colL)), (5, (.sl 1 (sbs ([({data := #[45, 49]} : ByteArray), ({data := #[48]} : ByteArray), ({data := #[49]} : ByteArray), ({data := #[45, 53]} : ByteArray), ({data := #[45, 49, 55]} : ByteArray)]))))], []⟩) (Wk.freeze (id := 2) (e := 9) (sz := 1) (cs := (sbs ([({data := #[45, 49]} : ByteArray), ({data := #[48]} : ByteArray), ({data := #[49]} : ByteArray), ({data := #[45, 53]} : ByteArray), ({data := #[45, 49, 55]} : ByteArray)]))) rfl) ?_
 refine awp_wk (Wk.slot (i := 5) (y := (.sl 1 (sbs (wz5.map txt)))) (AV.le_eq (by exact congrArg (fun l => AV.sl 1 (sbs l)) five_w.symm))) ?_
 refine awp_region rfl (o_as (Nv 0) rfl (aops_end (hK7 _ ?_)))
 refine awp_block ?_
 refine awp_loopR (fun κ σ => ∃ (i : Nat), (i ≤ 5) ∧ (5 - i) = κ ∧ σ = ⟨[(1, .sl 1 (gcells cP colL)), (5, .sl 1 (sbs (wz5.map txt))), (6, Nv i)], []⟩) ⟨_, _, ⟨0, Nat.zero_le _, rfl, rfl⟩, ?wk0⟩ ?rd0
 case wk0 =>
  exact Wk.sub ⟨rfl, rfl, (by first | rfl | exact nm_int (by omega)), trivial⟩ trivial
 rintro κ _ ⟨i, hi, rfl, rfl⟩
 refine awp_seq fun K8 hK8 => awp_seq fun K9 hK9 => awp_region rfl (o_mv (Nv i) rfl ?_)
 refine n_lss i 5 gn rfl rfl ?_
 refine aops_end (hK9 _ ?_)
 refine awp_condQ (q := i < 5) rfl (fun h1 => ?_) (fun h1 => ?_)
 ·refine awp_skip (hK8 _ (awp_seq fun K10 hK10 => ?_))
  refine awp_block ?_
  refine awp_seq fun K11 hK11 => ?_
  have hfit := five_fit h1
  have hlf := fit_len hfit
  have hS : OkS (txt (wz5.getD i default)) := okS_txt hfit
  have hX := (five_d i h1)
  have hin := five_e i h1
  have hrt := five_rtn h1
  have hml : (List.map txt (colL.getD i default)).length = (colL.getD i default).length := List.length_map (f := txt)
  refine awp_region rfl (o_mv (.sl 1 (sbs (wz5.map txt))) rfl (o_mv (Nv i) rfl ?_))
  refine s_index (wz5.map txt) i gn f130_ rfl rfl (by omega) ?_
  refine s_loadI (wz5.map txt) i gn f170_ rfl (by omega) ?_
  refine n_as (v' := (Sv (txt (wz5.getD i default)))) (by exact str_as (map_getD (by omega))) ?_
  refine o_ct (c_rParse (txt (wz5.getD i default)) (by first | assumption | exact okS_iff.1 (by assumption))) gn f181_ rfl ?_
  refine n_as (v' := (intR (wz5.getD i default))) (by exact congrArg intR (numS_txt _)) ?_
  refine o_alloc 101 [Fv, Zv] gn f9_ rfl rfl rfl ?_
  refine o_store [(101, oZ 37 .i64 (wz5.getD i default))] gn f13_ rfl rfl rfl rfl rfl rfl ?_
  refine aops_end (hK11 _ (awp_seq fun K12 hK12 => awp_regionD rfl (o_mv (.sl 1 (gcells cP colL)) rfl (o_mv (Nv i) rfl ?_))))
  refine g_index cP colL i cP_len rfl gn f134_ rfl rfl (by omega) ?_
  refine g_field cP colL i cP_len gn f182_ rfl (by omega) rfl ?_
  refine g_loadS cP colL i default (.sl 1 (sbs ((colL.getD i default).map txt))) cP_len gn f183_ rfl (by omega) rfl ?_
  refine o_loadA [bp ((wz5.getD i default) < 0), .sl 1 (ns .i64 (digs (wz5.getD i default).natAbs))] gn f14_ rfl rfl rfl rfl rfl ?_
  refine o_ct (c_tHas (colL.getD i default) (wz5.getD i default) (by omega) (by omega)) gn f184_ rfl ?_
  refine n_as (v' := Tv) (by exact bp_yes hin) ?_
  refine o_not (b := true) gn rfl ?_
  refine o_mv Fv rfl ?_
  refine o_ct c_gCollatz (Gd.yes rfl rfl rfl) f185_ rfl ?_
  refine o_loadA [bp ((wz5.getD i default) < 0), .sl 1 (ns .i64 (digs (wz5.getD i default).natAbs))] (Gd.yes rfl rfl rfl) f14_ rfl rfl rfl rfl rfl ?_
  refine o_ct (c_tReturns (kinM 3 1) (wz5.getD i default) 14 hM (by omega) (by omega)) (Gd.yes rfl rfl rfl) f186_ rfl ?_
  refine o_move (.sl 1 (gcells cP colL)) (Gd.yes rfl rfl rfl) rfl (o_move (Nv i) (Gd.yes rfl rfl rfl) rfl ?_)
  refine g_index cP colL i cP_len rfl (Gd.yes rfl rfl rfl) f134_ rfl rfl (by omega) ?_
  refine g_field cP colL i cP_len (Gd.yes rfl rfl rfl) f182_ rfl (by omega) rfl ?_
  refine g_loadS cP colL i default (.sl 1 (sbs ((colL.getD i default).map txt))) cP_len (Gd.yes rfl rfl rfl) f183_ rfl (by omega) rfl ?_
  refine s_len ((colL.getD i default).map txt) (Gd.yes rfl rfl rfl) f169_ rfl ?_
  refine n_neq (rtn (kinM 3 1) (wz5.getD i default) 14 0) (((colL.getD i default).map txt).length) (Gd.yes rfl rfl rfl) rfl rfl ?_
  refine n_as (v' := Fv) (by exact bp_no (by omega)) ?_
  refine o_pickF Fv gn rfl rfl rfl ?_
  refine aops_end ⟨by kernel_rfl, ?_⟩
  refine hK12 _ ?_
  refine awp_condB (b := false) rfl (fun hh => absurd (hh.symm.trans rfl) (by decide)) (fun _ => ?_)
  refine awp_skip (hK10 _ (awp_region rfl (o_mv (Nv i) rfl ?_)))
  refine n_add i 1 gn rfl rfl (by simp only [topOf]; omega) ?_
  refine o_as (Nv (i + 1)) rfl (aops_end ?_)
  refine ⟨_, _, ?lt, ⟨i + 1, (by omega), rfl, rfl⟩, ?wk⟩
  case lt => omega
  case wk => exact Wk.sub ⟨rfl, rfl, (by first | rfl | exact nm_int (by omega)), trivial⟩ trivial
 ·refine awp_exit ?_
  refine hK6 _ (awp_seq fun K13 hK13 => awp_region rfl ?_)
  refine o_ct c_tTurns gn f187_ rfl ?_
  refine o_as Tv rfl (aops_end (hK13 _ ?_))
  refine awp_ret ?_
  refine post_ret ⟨[Tv], ⟨AV.le_refl _, trivial⟩, rfl, ?_⟩
  first | rfl | simp [bp]

end Go.Proofs.YtaeknciienkijaaGreatDoor

namespace Go.Proofs.YtaeknciienkijaaGreatDoor.topFive
open Go Go.Ab Go.Mth Go.ChangeShapes Go.WideShapes Go.ChangeAt Go.RowKit
noncomputable def laid5 : List (String × DataW Unit) := [("math/bits.deBruijn32tab", Rows.laid_math_bits_deBruijn32tab), ("math/bits.deBruijn64tab", Rows.laid_math_bits_deBruijn64tab), ("internal/strconv.uint64pow10", Rows.laid_internal_strconv_uint64pow10), ("strconv.ErrRange", Rows.laid_strconv_ErrRange), ("strconv.ErrSyntax", Rows.laid_strconv_ErrSyntax)]
theorem laid5_met {W : World} (h : laidMetH Tryz.prog laid5 W) : laidMet Tryz.prog laid5 W := (MakeChecks.laidMetH_plain _ _ _ (by kernel_rfl)).mp h
theorem laid5_tab {W : World} (h : laidMet Tryz.prog laid5 W) : laidMet Tryz.prog (("internal/strconv.uint64pow10", Lib.tabData .u64 Lib.pow10Tab) :: [("strconv.ErrRange", Rows.laid_strconv_ErrRange), ("strconv.ErrSyntax", Rows.laid_strconv_ErrSyntax)]) W := h.tail.tail
set_option maxRecDepth 100000 in
theorem tabG_of {W : World} (h : laidMetH Tryz.prog laid5 W) : TabG (memOf W) :=
 var_mem gTab (Lib.tabIs_of_head gTab gTabType uTab uElTab cElTab cTab (laid5_tab (laid5_met h)))
theorem reads (os : Os) {H : Type} (enc : TypeId × Value → H) : ∃ places, DataW.whole enc Tryz.prog ((World.laidAll Tryz.prog os laid5).forCall (fun _ _ => 0) ⟨#[], #[], []⟩).memory Tryz.f3.params.toList Rows.topFiveSpec.vars false (#[] : Array Value).toList 8 = some ([], [], places) := ⟨[], by kernel_rfl⟩
theorem met (os : Os) : laidMetH Tryz.prog laid5 ((World.laidAll Tryz.prog os laid5).forCall (fun _ _ => 0) ⟨#[], #[], []⟩).memory := (MakeChecks.laidMetH_plain _ _ _ (by kernel_rfl)).mpr (laidMet_laidAll _ (by kernel_rfl) (by kernel_rfl))
theorem specs {H : Type} (ds : List (DataW H)) (h : ds.length = 0) : (Rows.topFiveSpec.fn H ds).results = [.lit (.bool true)] ∧ (Rows.topFiveSpec.fn H ds).args = ds ∧ (Rows.topFiveSpec.fn H ds).vars = [] := by
 rcases ds with _ | ⟨e, t⟩ <;> simp at h <;> exact ⟨rfl, rfl, rfl⟩
set_option maxRecDepth 100000 in
theorem opened {H : Type} (enc : TypeId × Value → H) (W : World) (base : Nat) (args : Array Value) (ds : List (DataW H)) (ps : List MemPlace) (hval : ∀ (j : Nat) t v, (#[] : Array TypeId)[j]? = some t → args[j]? = some v → Value.okWide Tryz.prog W .any base t v)
  (hA : DataW.TrodAll enc Tryz.prog W 0 (fun _ => true) true [] args.toList ds ps) (hsz : (DataW.weightsEach Tryz.prog [] ds).all (· ≤ reachBytes) = true) : ∃ xs, RepL (memOf W) xs noLoc args.toList ∧ ECalls cx 3 xs (.lit (.bool true)) := by
 obtain ⟨ha, rfl, rfl⟩ := trodAll_nil hA
 obtain rfl : args = #[] := by cases args; simp_all
 exact ⟨[], by simp only [RepL], c_TopFive ⟩
set_option maxRecDepth 100000 in
theorem lifted (os : Os) (started : os.Started) (H : Type) (enc : TypeId × Value → H) (F : Stop.Interp) :
  ReturnsInHanded {} Tryz.checked os 3 .any ((OpenSpec.ofChange Rows.topFiveSpec).preRow enc Tryz.prog Tryz.f3 Rows.topFiveRow.domain false Rows.topFiveRow.laid) (((OpenSpec.ofChange Rows.topFiveSpec).at F).post enc Tryz.prog Tryz.f3 false true false false) := by
 obtain ⟨places, hx⟩ := reads os enc
 refine lifted_of (C := Tryz.checked) started cx rfl ownT (by kernel_rfl) Tryz.func3 (witness_laid #[] (by kernel_rfl) (by kernel_rfl) (by kernel_rfl) (OpenSpec.preRow_of_cond 8 hx (by kernel_rfl) (fun k hk => by cases hk) (by kernel_rfl) (met os))) laidOutT (by kernel_rfl) (tb := 4) (by kernel_rfl) u4T rfl (fun ds h => specs ds (h.trans (by kernel_rfl))) (fun W h => tabG_of h) ?_
 intro W base args ds ps hval hA hsz
 exact opened enc W base args ds ps hval hA hsz
theorem said : Rows.TopFiveSaid :=
 OpenClaim.holds_of_cond 3 Tryz.f3 rfl rfl rfl rfl rfl rfl rfl ⟨rfl, rfl, rfl, rfl, rfl⟩ rfl rfl rfl rfl rfl (by kernel_rfl) Tryz.func3 (by kernel_rfl)
  (of_decide_eq_true (by kernel_rfl)) (by unfold Func.isWrapper; first | (rw [if_pos (by decide +kernel)]; kernel_rfl) | (rw [if_neg (by decide +kernel)]; exact ⟨rfl, rfl⟩))
  (fun os started H enc _ F => by rw [OpenClaim.pre_eq_preRow]; exact lifted os started H enc F)
theorem plain (f : FuncId) (fn : Func) (hf : Tryz.pinned.checked.prog.funcNamed "katabasis/katabasistop.TopFive" = some f) (hfn : Tryz.pinned.checked.prog.funcs[f]? = some fn) :
  true = Tryz.pinned.checked.prog.looks [] ∧ ∀ (j : Nat) t, fn.params[j]? = some t → Tryz.pinned.checked.prog.wantsStandIn t = false := by
 obtain rfl : f = 3 := Option.some.inj ((show Tryz.prog.funcNamed "katabasis/katabasistop.TopFive" = some 3 by kernel_rfl).symm.trans hf) |>.symm
 obtain rfl : fn = Tryz.f3 := (Option.some.inj (Tryz.func3.symm.trans hfn)).symm
 refine ⟨by kernel_rfl, fun j t ht => ?_⟩
 rw [Tryz.params3] at ht
 exact absurd ht (by simp)
end Go.Proofs.YtaeknciienkijaaGreatDoor.topFive
namespace Go.Proofs.YtaeknciienkijaaGreatDoor
open Go
theorem topFive_holds : Rows.TopFiveCardSaid :=
 Claim7.holds_tied_plain_at .later [] _ _ _ _ topFive.said (fun _ h => by cases h) (by kernel_rfl) (fun _ h => by cases h) topFive_row_tie rfl ⟨rfl, rfl⟩ (by kernel_rfl) rfl topFive.plain (by kernel_rfl)
#print axioms topFive_holds
end Go.Proofs.YtaeknciienkijaaGreatDoor

