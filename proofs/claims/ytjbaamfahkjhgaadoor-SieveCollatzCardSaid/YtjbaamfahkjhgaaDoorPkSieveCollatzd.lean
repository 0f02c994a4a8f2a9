/- What the proof of a row of this seat leans on (part 4 of 5): a library of abstract values, walks of functions, and plain laws. -/
import Derived.Test.YtjbaamfahkjhgaaDoorPkSieveCollatzc
set_option linter.unusedVariables false
set_option linter.unusedSimpArgs false
namespace Go.Ab
open Go.RowKit
def reachB : Nat → Array Oper → Nat → Nat → Bool
 | 0, _, _, _ => false
 | f + 1, ops, i, j => match ops[j]? with
  | some o => o.after.any fun e => Region.binds .any e && (Nat.beq e.on i || reachB f ops i e.on)
  | none => false
theorem reach_listed {ops : Array Oper} {listed : Array Bool} (hdown : ∀ (j : Nat) (o : Oper), ops[j]? = some o → listed.getD j true = true → ∀ e ∈ o.after, Region.binds .any e = true → listed.getD e.on true = true) (hedge2 : ∀ (j : Nat) (o : Oper), ops[j]? = some o → ∀ e ∈ o.after, Region.binds .any e = true → ∃ o2, ops[e.on]? = some o2) :
  ∀ (f i j : Nat), reachB f ops i j = true → ∀ o, ops[j]? = some o → (∀ e ∈ o.after, Region.binds .any e = true → listed.getD e.on true = true) → listed.getD i true = true
 | 0, i, j, h, _, _, _ => by simp [reachB] at h
 | f + 1, i, j, h, o, ho, hall => by
  unfold reachB at h
  rw [ho] at h
  simp only [Array.any_eq_true'] at h
  obtain ⟨e, he, hb⟩ := h
  simp only [Bool.and_eq_true, Bool.or_eq_true] at hb
  have h1 := hall e he hb.1
  rcases hb.2 with h2 | h2
  ·rw [← Nat.eq_of_beq_eq_true h2]; exact h1
  ·obtain ⟨o2, ho2⟩ := hedge2 j o ho e he hb.1
   exact reach_listed hdown hedge2 f i e.on h2 o2 ho2 (hdown e.on o2 ho2 h1)
def pairsT (ops : Array Oper) : List It → Bool
 | [] => true
 | p :: r => r.all (fun q => lateB p q && (reachB 6 ops p.i q.i || indepB ops p q)) && pairsT ops r
def drawT (ops : Array Oper) (es : List Eff) : Bool := edgesB 0 ops.toList && pairsT ops (items 0 ops.toList es)
theorem pairsT_spec {ops : Array Oper} : ∀ (R : List It), pairsT ops R = true → R.Pairwise (fun p q => lateB p q = true ∧ (reachB 6 ops p.i q.i = true ∨ indepB ops p q = true))
 | [], _ => .nil
 | p :: r, h => by
  simp only [pairsT, Bool.and_eq_true, List.all_eq_true, Bool.or_eq_true] at h
  exact .cons (fun q hq => h.1 q hq) (pairsT_spec r h.2)
section
variable {C : Ctx} {n : Nat} {w0 : World} {ops : Array Oper} {Q : Exit → Act → World → Prop}

theorem any_soundT (r : Option Nat) {S' : SS} (hedge : ∀ j o, ops[j]? = some o → ∀ e ∈ o.after, Region.binds .any e = true → e.on < j) : ∀ (fuel : Nat) (listed : Array Bool) (R : List It) (S : SS) (H : Heap) (L : Loc) (a : Act) (w : World),
  R.length ≤ fuel → listed.size = ops.size → (∀ p ∈ R, ops[p.i]? = some p.o) → (∀ j, listed.getD j true = false → ∃ p ∈ R, p.i = j) → (∀ p ∈ R, listed.getD p.i true = false) →
  R.Pairwise (fun p q => p.i < q.i) → R.Pairwise (fun p q => lateB p q = true ∧ (reachB 6 ops p.i q.i = true ∨ indepB ops p q = true)) →
  (∀ j o, ops[j]? = some o → listed.getD j true = true → ∀ e ∈ o.after, Region.binds .any e = true → listed.getD e.on true = true) →
  (∀ p ∈ R, ∀ id ∈ p.e.fresh, S.Fresh id) → (∀ p ∈ R, ∀ d, p.o.dst = some d → d < n) → Tr C ops S R S' → Rep C n w0 H L S a w →
  (∀ a' w' H' L', Ext w0.heap.size H H' → Rep C n w0 H' L' S' a' w' → Q .normal a' w') → wpAnyIn (fen r) 0 C.P .any ops Q fuel listed a w := by
 intro fuel
 have empty : ∀ (listed : Array Bool) (R : List It), listed.size = ops.size → (∀ p ∈ R, ops[p.i]? = some p.o) → (∀ j, listed.getD j true = false → ∃ p ∈ R, p.i = j) → (∀ p ∈ R, listed.getD p.i true = false) → R.Pairwise (fun p q => p.i < q.i) →
   Region.ready .any ops listed = [] → R = [] := by
  intro listed R hsz hops hun hR hasc hre
  cases R with
  | nil => rfl
  | cons p R =>
   exfalso
   have hp := hops p (by simp)
   have : p.i ∈ Region.ready .any ops listed := by
    rw [mem_ready]
    refine ⟨hR p (by simp), p.o, hp, fun e he hb => ?_⟩
    have hlt := hedge p.i p.o hp e he hb
    have hsize : e.on < listed.size := by rw [hsz]; have := (Array.getElem?_eq_some_iff.1 hp).1; omega
    cases hl : listed[e.on] with
    | true => simp [Array.getD_eq_getD_getElem?, hsize, hl]
    | false =>
     exfalso
     obtain ⟨q, hq, hqe⟩ := hun e.on (by simp [Array.getD_eq_getD_getElem?, hsize, hl])
     rcases List.mem_cons.1 hq with rfl | hq
     ·omega
     ·have := List.rel_of_pairwise_cons hasc hq
      omega
   rw [hre] at this
   cases this
 have stop : ∀ (R : List It) (S : SS) (H : Heap) (L : Loc) (a : Act) (w : World), R = [] → Tr C ops S R S' → Rep C n w0 H L S a w → (∀ a' w' H' L', Ext w0.heap.size H H' → Rep C n w0 H' L' S' a' w' → Q .normal a' w') → Q .normal a w := by
  intro R S H L a w hR ht hr hQ
  subst hR
  cases ht
  exact hQ a w H L (Ext.refl _ _) hr
 induction fuel with
 | zero =>
  intro listed R S H L a w hlen hsz hops hun hR hasc hpw hdown hfr hd ht hr hQ
  have hR0 : R = [] := List.eq_nil_of_length_eq_zero (by omega)
  refine ⟨?_, stop R S H L a w hR0 ht hr hQ⟩
  cases hre : Region.ready .any ops listed with
  | nil => rfl
  | cons j r =>
   have : j ∈ Region.ready .any ops listed := by rw [hre]; simp
   rw [mem_ready] at this
   obtain ⟨q, hq, _⟩ := hun j this.1
   rw [hR0] at hq
   cases hq
 | succ fuel ih =>
  intro listed R S H L a w hlen hsz hops hun hR hasc hpw hdown hfr hd ht hr hQ
  refine ⟨fun hre => stop R S H L a w (empty listed R hsz hops hun hR hasc hre) ht hr hQ, fun j hj => ?_⟩
  obtain ⟨hjun, oj, hoj, hall⟩ := mem_ready.1 hj
  obtain ⟨p, hpR, rfl⟩ := hun j hjun
  have hpo := hops p hpR
  rw [hoj] at hpo
  cases hpo
  have hall2 : ∀ e ∈ p.o.after, Region.binds .any e = true → listed.getD e.on true = true := fun e he hb => by
   have h1 := hall e he hb
   have hs : e.on < listed.size := by have h2 := hedge p.i p.o hoj e he hb; rw [hsz]; have h3 := (Array.getElem?_eq_some_iff.1 hoj).1; omega
   simp [Array.getD_eq_getD_getElem?, hs] at h1 ⊢
   exact h1
  have hedge2 : ∀ (j : Nat) (o : Oper), ops[j]? = some o → ∀ e ∈ o.after, Region.binds .any e = true → ∃ o2, ops[e.on]? = some o2 := fun j o hj e he hb => by
   have h2 := hedge j o hj e he hb
   have h3 := (Array.getElem?_eq_some_iff.1 hj).1
   exact ⟨_, Array.getElem?_eq_getElem (by omega)⟩
  obtain ⟨R1, R2, rfl⟩ := List.append_of_mem hpR
  have hind : ∀ q ∈ R1, indepB ops q p = true := by
   intro q hq
   have := (List.pairwise_append.1 hpw).2.2 q hq p (by simp)
   rcases this.2 with h | h
   ·exfalso
    have hl := reach_listed hdown hedge2 6 q.i p.i h p.o hoj hall2
    rw [hR q (by simp [hq])] at hl
    cases hl
   ·exact h
  obtain ⟨hstep, ht'⟩ := Tr.front R1 S ht hind
  have hsub : (R1 ++ R2).Sublist (R1 ++ p :: R2) := List.Sublist.append (List.Sublist.refl _) (List.sublist_cons_self p R2)
  refine hstep.sound hoj hr (hd p hpR) (hfr p hpR) (fun a' w' H' L' hx hr' => ?_) r
  refine ih (listed.setIfInBounds p.i true) (R1 ++ R2) _ H' L' a' w' (by simp at hlen ⊢; omega) (by simpa using hsz) (fun q hq => hops q (hsub.subset hq)) (fun k hk => ?_) (fun q hq => ?_) (hasc.sublist hsub) (hpw.sublist hsub) (fun k o ho hk e he hb => ?_) (fun q hq id hid => ?_) (fun q hq => hd q (hsub.subset hq)) ht' hr'
   (fun a2 w2 H2 L2 hx2 hr2 => hQ a2 w2 H2 L2 (hx.trans hx2) hr2)
  ·have hkp : p.i ≠ k := by
    intro e
    subst e
    have hlt : p.i < listed.size := by rw [hsz]; exact (Array.getElem?_eq_some_iff.1 hoj).1
    simp [Array.getD_eq_getD_getElem?, hlt] at hk
   rw [getD_set_ne true hkp] at hk
   obtain ⟨q, hq, rfl⟩ := hun k hk
   refine ⟨q, ?_, rfl⟩
   rcases List.mem_append.1 hq with hq | hq
   ·exact List.mem_append_left _ hq
   ·rcases List.mem_cons.1 hq with rfl | hq
    ·exact absurd rfl hkp
    ·exact List.mem_append_right _ hq
  ·have hne : p.i ≠ q.i := by
    rcases List.mem_append.1 hq with hq | hq
    ·have := (List.pairwise_append.1 hasc).2.2 q hq p (by simp)
     omega
    ·have := List.rel_of_pairwise_cons (List.pairwise_append.1 hasc).2.1 hq
     omega
   rw [getD_set_ne true hne]
   exact hR q (hsub.subset hq)
  ·have hps : p.i < listed.size := by rw [hsz]; exact (Array.getElem?_eq_some_iff.1 hoj).1
   have keep : ∀ i, listed.getD i true = true → (listed.setIfInBounds p.i true).getD i true = true := fun i hi => by
    by_cases hip : p.i = i
    ·subst hip; simp [Array.getD_eq_getD_getElem?, hps]
    ·rw [getD_set_ne true hip]; exact hi
   by_cases hkp : p.i = k
   ·subst hkp
    rw [hoj] at ho
    cases ho
    exact keep _ (hall2 e he hb)
   ·rw [getD_set_ne true hkp] at hk
    exact keep _ (hdown k o ho hk e he hb)
  ·have hfq := hfr q (hsub.subset hq) id hid
   rcases List.mem_append.1 hq with hq | hq
   ·have := hind q hq
    simp only [indepB, Bool.and_eq_true, List.all_eq_true, Bool.not_eq_true'] at this
    exact app_fresh hfq (this.2 id hid).1 (this.2 id hid).2
   ·have := (List.rel_of_pairwise_cons (List.pairwise_append.1 hpw).2.1 hq).1
    simp only [lateB, Bool.and_eq_true, List.all_eq_true, Bool.not_eq_true'] at this
    exact app_fresh hfq (this id hid).1 (this id hid).2

theorem region_anyT {S S' : SS} {H : Heap} {L : Loc} {a : Act} {w : World} {id : Nat} {es : List Eff} (hm : C.P.follows .mixedOrders = true) (ht : Trace C ops S ops.toList es S') (hb : drawT ops es = true) (hf : ∀ e ∈ es, ∀ id ∈ e.fresh, S.Fresh id)
  (hr : Rep C n w0 H L S a w) (hd : ∀ o ∈ ops.toList, ∀ d, o.dst = some d → d < n) (hQ : ∀ a' w' H' L', Ext w0.heap.size H H' → Rep C n w0 H' L' S' a' w' → Q .normal a' w') : (Code.region id ops true).wpA C.P Q a w := fun r => by
 refine wpIn_region_any hm ?_
 simp only [drawT, Bool.and_eq_true] at hb
 obtain ⟨hlen, hasc, hit, hex⟩ := items_spec ops.toList es 0 ht.len
 have hr' : Rep C n w0 H L S a { w with drawn := w.drawn + 1 } := ⟨hr.glob, hr.heap, hr.size, hr.slot, fun id o ho => (hr.objs id o ho).kept (Heap.le_refl _) (fun _ _ _ h => h) rfl (fun _ _ _ h => h) (fun _ _ _ _ => rfl), hr.apart, hr.below.drew, hr.defers⟩
 have hfal : ∀ j, (Array.replicate ops.size false).getD j true = false ↔ j < ops.size := by
  intro j
  by_cases hj : j < ops.size
  ·simp [Array.getD_eq_getD_getElem?, hj]
  ·simp [Array.getD_eq_getD_getElem?, hj]
 refine any_soundT r (S' := S') (fun j o hj e he hbb => ?_) ops.size _ (items 0 ops.toList es) S H L a _ (by rw [hlen]; simp) (by simp) (fun p hp => ?_) (fun j hj => ?_) (fun p hp => ?_) hasc (pairsT_spec _ hb.2) (fun j o ho hl => ?_) (fun p hp => ?_) (fun p hp => ?_) (ht.tr 0) hr' hQ
 ·have := edges_spec ops.toList 0 hb.1 j o (by simpa using hj) e he hbb
  omega
 ·have := (hit p hp).2.1
  simpa using this
 ·obtain ⟨p, hp, hpi⟩ := hex j (by simpa using (hfal j).1 hj)
  exact ⟨p, hp, by omega⟩
 ·rw [hfal]
  have := (hit p hp).2.1
  have := (List.getElem?_eq_some_iff.1 this).1
  simpa using this
 ·exfalso
  have hj : j < ops.size := (Array.getElem?_eq_some_iff.1 ho).1
  rw [(hfal j).2 hj] at hl
  cases hl
 ·have := (hit p hp).2.2
  exact hf p.e (List.mem_of_getElem? this)
 ·have := (hit p hp).2.1
  exact hd p.o (List.mem_of_getElem? this)
end
theorem awp_regionT {C : Ctx} {n : Nat} {Q : Exit → St → Prop} {σ : St} {id : Nat} {ops : Array Oper} (hd : dstsB n ops.toList = true) (h : aops C ops σ ops.toList fun es σ' => (drawT ops es && es.all fun e => e.fresh.all σ.freshB) = true ∧ Q .normal σ') : awp C n (.region id ops true) Q σ := fun w0 H L a w hr => by
 obtain ⟨es, σ', ht, hb, hq⟩ := h
 simp only [Bool.and_eq_true] at hb
 exact region_anyT C.mixed ht hb.1 (fun e he id hid => fresh_sem (List.all_eq_true.1 (List.all_eq_true.1 hb.2 e he) id hid)) hr (dsts_spec hd) fun a' w' H' L' hx hr' => ⟨σ', H', L', hx, hr', hq⟩
section
variable {C : Ctx} {ops : Array Oper} {s : List (Nat × AV)} {m : List (Nat × AO)} {K : List Eff → St → Prop} {os : List Oper} {d : Nat} {t : TypeId} {p : String} {af : Array Edge} {g : Option (Nat × Bool)}
theorem n_shr1 {xt yt : TypeId} {x y : Operand} (a : Nat) (hg : Gd ops s g) (hx : ev s x = nm .u64 a) (hy : ev s y = nm .u64 1) (kk : aops C ops ⟨(d, nm .u64 (a / 2)) :: s, m⟩ os fun es σ' => K ({ val := nm .u64 (a / 2) } :: es) σ') :
  aops C ops ⟨s, m⟩ (⟨some d, .binOp .shr xt x y yt, t, p, af, g⟩ :: os) K :=
 o_pure2 (a := .int .u64 (a : Int)) (b := .int .u64 1) (v := .int .u64 ((a / 2 : Nat) : Int)) rfl hg hx hy (fun ρ h1 h2 w => by
  have e : Int.fdiv (a : Int) 2 = ((a / 2 : Nat) : Int) := by rw [Int.fdiv_eq_ediv_of_nonneg _ (by decide)]; rfl
  simp [execOp, h1, h2, eqGuard_int, binOp, Op.shift, IntKind.bits, e]) kk
end
end Go.Ab

namespace Go.Proofs.YtjbaamfahkjhgaaDoor
open Go Go.Ab Go.Mth
theorem f76_ : tyElem cx.P 28 = some (37, 6, 80) := by kernel_rfl
theorem f77_ : callable cx.P 42 = true := by kernel_rfl
theorem f78_ : callable cx.P 45 = true := by kernel_rfl
theorem f79_ : tySize cx.P 3 = some 1 := by kernel_rfl
theorem c_insf (kf : Nat) (key : Fal → Int) (hkey : ∀ x y : Fal, ECalls cx 42 [falV x, falV y, .ip [.clo kf []]] (.lit (.int .i64 (cmpZ (key x) (key y))))) (D : List Fal) (L : List Int) (a b : Nat) (hab : a ≤ b) (hb : b ≤ D.length) (hD : D.length ≤ 1000000) :
  RCalls cx 60 [.row 20, Nv a, Nv b, .clo 42 [.ip [.clo kf []]]] [2, 3, 20] [v2v, r0v D, v3v, r1v L] (.tup []) [v2v, r0v (blk key D a b), v3v, r1v L] := by
 refine rcalls_of_x (X := [(2, false), (3, false), (20, true)]) (scalls_of_awpB 9009 Tryd.func60 (c := _) rfl (Nat.le_of_ble_eq_true rfl) rfl rfl rfl (fun us => ?_)) rfl
 refine awp_late ?_
 show awp cx 53 _ (lateQ cx 53 (postS cx Tryd.f60 (.tup []) [v2v, r0v (blk key D a b), v3v, r1v L] 9009 [.ref 2 0, .ref 3 0, .row 20] us)) ⟨[(0, .row 20), (1, Nv a), (2, Nv b), (3, .clo 42 [.ip [.clo kf []]])], [p0v us, v2v, r0v D, v3v, r1v L]⟩
 refine awp_seq fun K0 hK0 => awp_region rfl (o_mv (Nv a) rfl ?_)
 refine n_add a 1 gn rfl rfl (by simp only [topOf]; omega) ?_
 refine o_as (Nv (a + 1)) rfl (aops_end (hK0 _ ?_))
 refine awp_block ?_
 refine awp_loopR (fun κ σ => ∃ (i : Nat), (a + 1 ≤ i) ∧ (i ≤ b ∨ i = a + 1) ∧ (b + 1 - i) = κ ∧ σ = ⟨[(0, .row 20), (1, Nv a), (2, Nv b), (3, .clo 42 [.ip [.clo kf []]]), (8, Nv i)], [p0v us, v2v, r0v (blk key D a i), v3v, r1v L]⟩) ⟨_, _, ⟨a + 1, (by omega), (by omega), rfl, rfl⟩, ?wk0⟩ ?rd0
 case wk0 =>
  exact Wk.sub ⟨rfl, rfl, rfl, rfl, (by first | rfl | exact nm_int (by omega)), trivial⟩ ⟨rfl, rfl, (by first | rfl | exact row_ns (by simp) | (first | exact row_gs' ((blk_start (by omega) (by omega)).symm) | exact row_gs' (ct_start hiD) | exact row_gs' (ct_swap hP' hPj hal) | exact row_gs' (ct_fin (by omega) hiD hPQ hQ hPall) | exact row_gs' (by rcases hi1 with h | h; rw [show b = i by omega]; rw [blk_start (i := b) (by omega) hab, blk_start (by omega) (by omega)]) | exact row_gs' (by by_cases hbi : b = i; rw [hbi]; rw [blk_start (i := b) (by omega) hab, blk_start (i := i) (by omega) (by omega)]))), rfl, rfl, trivial⟩
 rintro κ _ ⟨i, hi0, hi1, rfl, rfl⟩
 refine awp_seq fun K1 hK1 => awp_seq fun K2 hK2 => awp_region rfl (o_mv (Nv i) rfl (o_mv (Nv b) rfl ?_))
 refine n_lss i b gn rfl rfl ?_
 refine aops_end (hK2 _ ?_)
 refine awp_condQ (q := i < b) rfl (fun h1 => ?_) (fun h1 => ?_)
 ·have hiD : i < D.length := by omega
  refine awp_skip (hK1 _ (awp_seq fun K3 hK3 => ?_))
  refine awp_block ?_
  refine awp_seq fun K4 hK4 => awp_region rfl (o_mv (Nv i) rfl (o_as (Nv i) rfl (aops_end (hK4 _ ?_))))
  refine awp_block ?_
  refine awp_loopR (fun κ σ => ∃ (j : Nat), ∃ (P : List Fal), ∃ (Q : List Fal), (a + P.length = j) ∧ (P ++ Q = srt key ((D.drop a).take (i - a))) ∧ (∀ q ∈ Q, key (D.getD i default) < key q) ∧ j = κ ∧ σ = ⟨[(0, .row 20), (1, Nv a), (2, Nv b), (3, .clo 42 [.ip [.clo kf []]]), (8, Nv i), (9, Nv j)], [p0v us, v2v, r0v (((D.take a) ++ P) ++ (D.getD i default) :: (Q ++ (D.drop (i + 1)))), v3v, r1v L]⟩) ⟨_, _, ⟨i, srt key ((D.drop a).take (i - a)), [], (by rw [srt_len, List.length_take, List.length_drop]; omega), List.append_nil _, (fun q hq => by simp at hq), rfl, rfl⟩, ?wk1⟩ ?rd1
  case wk1 =>
   exact Wk.sub ⟨rfl, rfl, rfl, rfl, rfl, (by first | rfl | exact nm_int (by omega)), trivial⟩ ⟨rfl, rfl, (by first | rfl | exact row_ns (by simp) | (first | exact row_gs' ((blk_start (by omega) (by omega)).symm) | exact row_gs' (ct_start hiD) | exact row_gs' (ct_swap hP' hPj hal) | exact row_gs' (ct_fin (by omega) hiD hPQ hQ hPall) | exact row_gs' (by rcases hi1 with h | h; rw [show b = i by omega]; rw [blk_start (i := b) (by omega) hab, blk_start (by omega) (by omega)]) | exact row_gs' (by by_cases hbi : b = i; rw [hbi]; rw [blk_start (i := b) (by omega) hab, blk_start (i := i) (by omega) (by omega)]))), rfl, rfl, trivial⟩
  rintro κ _ ⟨j, P, Q, hPj, hPQ, hQ, rfl, rfl⟩
  have hXl : (((D.take a) ++ P) ++ (D.getD i default) :: (Q ++ (D.drop (i + 1)))).length = D.length := ct_len (by omega) (by omega) hPQ
  have hal : a ≤ D.length := by omega
  have hPl : P.length + Q.length = i - a := by have h := congrArg List.length hPQ; rw [srt_len, List.length_take, List.length_drop, List.length_append] at h; omega
  refine awp_seq fun K5 hK5 => awp_seq fun K6 hK6 => awp_regionD rfl (o_mv (Nv j) rfl (o_mv (Nv a) rfl ?_))
  refine n_gtr j a gn rfl rfl ?_
  refine o_mv (bp (a < j)) rfl ?_
  refine o_splitP (q := a < j) 21 rfl (fun h2 => ?_) (fun h2 => ?_)
  ·obtain ⟨P', y, hP'⟩ := ct_last (P := P) (by omega)
   refine o_move (.clo 42 [.ip [.clo kf []]]) (Gd.yes rfl rfl (decide_eq_true h2)) rfl (o_move (.row 20) (Gd.yes rfl rfl (decide_eq_true h2)) rfl (o_move (Nv j) (Gd.yes rfl rfl (decide_eq_true h2)) rfl ?_))
   refine g_indexRow cL (((D.take a) ++ P) ++ (D.getD i default) :: (Q ++ (D.drop (i + 1)))) j cL_len rfl (Gd.yes rfl rfl (decide_eq_true h2)) f76_ rfl rfl rfl (by omega) ?_
   refine g_loadRowA cL (((D.take a) ++ P) ++ (D.getD i default) :: (Q ++ (D.drop (i + 1)))) j default cL_len (Gd.yes rfl rfl (decide_eq_true h2)) f75_ rfl rfl (by omega) ?_
   refine n_as (v' := (.agg (cL (D.getD i default)))) (by exact congrArg (fun q => AV.agg (cL q)) (ct_j hPj hal)) ?_
   refine o_move (.row 20) (Gd.yes rfl rfl (decide_eq_true h2)) rfl (o_move (Nv j) (Gd.yes rfl rfl (decide_eq_true h2)) rfl ?_)
   refine n_sub j 1 (Gd.yes rfl rfl (decide_eq_true h2)) rfl rfl (by omega) (by simp only [topOf]; omega) ?_
   refine g_indexRow cL (((D.take a) ++ P) ++ (D.getD i default) :: (Q ++ (D.drop (i + 1)))) (j - 1) cL_len rfl (Gd.yes rfl rfl (decide_eq_true h2)) f76_ rfl rfl rfl (by omega) ?_
   refine g_loadRowA cL (((D.take a) ++ P) ++ (D.getD i default) :: (Q ++ (D.drop (i + 1)))) (j - 1) default cL_len (Gd.yes rfl rfl (decide_eq_true h2)) f75_ rfl rfl (by omega) ?_
   refine n_as (v' := (.agg (cL y))) (by exact congrArg (fun q => AV.agg (cL q)) (ct_p hP' hPj hal)) ?_
   refine o_callG [] [.agg (cL (D.getD i default)), .agg (cL y), .ip [.clo kf []]] _ (Iv (cmpZ (key (D.getD i default)) (key y))) [p0v us, v2v, r0v (((D.take a) ++ P) ++ (D.getD i default) :: (Q ++ (D.drop (i + 1)))), v3v, r1v L] (Gd.yes rfl rfl (decide_eq_true h2)) f77_ rfl trivial rfl rfl (LeL.cons (AV.le_refl _) (LeL.cons (AV.le_refl _) (LeL.cons (AV.le_refl _) LeL.nil))) (hkey (D.getD i default) y) rfl ?_
   refine o_lss (a := (cmpZ (key (D.getD i default)) (key y))) (c := ((0 : Nat) : Int)) (Gd.yes rfl rfl (decide_eq_true h2)) rfl rfl ?_
   refine o_pickT (bp ((cmpZ (key (D.getD i default)) (key y)) < ((0 : Nat) : Int))) gn rfl (decide_eq_true h2) rfl ?_
   refine aops_end ⟨by kernel_rfl, ?_⟩
   refine hK6 _ ?_
   refine awp_condQ (q := (cmpZ (key (D.getD i default)) (key y)) < ((0 : Nat) : Int)) rfl (fun h3 => ?_) (fun h3 => ?_)
   ·refine awp_skip (hK5 _ (awp_seq fun K7 hK7 => ?_))
    refine awp_block ?_
    refine awp_regionT rfl ?_
    refine o_mv (.row 20) rfl (o_mv (Nv j) rfl (o_mv (.row 20) rfl (o_mv (Nv j) rfl ?_)))
    refine n_sub j 1 gn rfl rfl (by omega) (by simp only [topOf]; omega) ?_
    refine o_mv (.row 20) rfl (o_mv (Nv j) rfl ?_)
    refine n_sub j 1 gn rfl rfl (by omega) (by simp only [topOf]; omega) ?_
    refine g_indexRow cL (((D.take a) ++ P) ++ (D.getD i default) :: (Q ++ (D.drop (i + 1)))) (j - 1) cL_len rfl gn f76_ rfl rfl rfl (by omega) ?_
    refine g_loadRowA cL (((D.take a) ++ P) ++ (D.getD i default) :: (Q ++ (D.drop (i + 1)))) (j - 1) default cL_len gn f75_ rfl rfl (by omega) ?_
    refine n_as (v' := (.agg (cL y))) (by exact congrArg (fun q => AV.agg (cL q)) (ct_p hP' hPj hal)) ?_
    refine o_mv (.row 20) rfl (o_mv (Nv j) rfl ?_)
    refine g_indexRow cL (((D.take a) ++ P) ++ (D.getD i default) :: (Q ++ (D.drop (i + 1)))) j cL_len rfl gn f76_ rfl rfl rfl (by omega) ?_
    refine g_loadRowA cL (((D.take a) ++ P) ++ (D.getD i default) :: (Q ++ (D.drop (i + 1)))) j default cL_len gn f75_ rfl rfl (by omega) ?_
    refine n_as (v' := (.agg (cL (D.getD i default)))) (by exact congrArg (fun q => AV.agg (cL q)) (ct_j hPj hal)) ?_
    refine g_indexRow cL (((D.take a) ++ P) ++ (D.getD i default) :: (Q ++ (D.drop (i + 1)))) j cL_len rfl gn f76_ rfl rfl rfl (by omega) ?_
    refine g_storeRow cL (((D.take a) ++ P) ++ (D.getD i default) :: (Q ++ (D.drop (i + 1)))) j y [p0v us, v2v, r0v ((((D.take a) ++ P) ++ (D.getD i default) :: (Q ++ (D.drop (i + 1)))).set j y), v3v, r1v L] cL_len cL_closed gn f74_ rfl rfl rfl (by first | omega | (simp only [List.length_set]; omega)) rfl ?_
    refine g_indexRow cL ((((D.take a) ++ P) ++ (D.getD i default) :: (Q ++ (D.drop (i + 1)))).set j y) (j - 1) cL_len rfl gn f76_ rfl rfl rfl (by simp only [List.length_set]; omega) ?_
    refine g_storeRow cL ((((D.take a) ++ P) ++ (D.getD i default) :: (Q ++ (D.drop (i + 1)))).set j y) (j - 1) (D.getD i default) [p0v us, v2v, r0v (((((D.take a) ++ P) ++ (D.getD i default) :: (Q ++ (D.drop (i + 1)))).set j y).set (j - 1) (D.getD i default)), v3v, r1v L] cL_len cL_closed gn f74_ rfl rfl rfl (by first | omega | (simp only [List.length_set]; omega)) rfl ?_
    refine aops_end ⟨by kernel_rfl, ?_⟩
    refine hK7 _ (awp_region rfl (o_mv (Nv j) rfl ?_))
    refine n_sub j 1 gn rfl rfl (by omega) (by simp only [topOf]; omega) ?_
    refine o_as (Nv (j - 1)) rfl (aops_end ?_)
    refine ⟨_, _, ?lt, ⟨j - 1, P', y :: Q, (by have h := congrArg List.length hP'; simp at h; omega), (by rw [← hPQ, hP']; simp), (fun q hq => by rcases List.mem_cons.1 hq with e | hq; rw [e]; exact cmpZ_lt.1 (by assumption); exact hQ q hq), rfl, rfl⟩, ?wk⟩
    case lt => omega
    case wk => exact Wk.sub ⟨rfl, rfl, rfl, rfl, rfl, (by first | rfl | exact nm_int (by omega)), trivial⟩ ⟨rfl, rfl, (by first | rfl | exact row_ns (by simp) | (first | exact row_gs' ((blk_start (by omega) (by omega)).symm) | exact row_gs' (ct_start hiD) | exact row_gs' (ct_swap hP' hPj hal) | exact row_gs' (ct_fin (by omega) hiD hPQ hQ hPall) | exact row_gs' (by rcases hi1 with h | h; rw [show b = i by omega]; rw [blk_start (i := b) (by omega) hab, blk_start (by omega) (by omega)]) | exact row_gs' (by by_cases hbi : b = i; rw [hbi]; rw [blk_start (i := b) (by omega) hab, blk_start (i := i) (by omega) (by omega)]))), rfl, rfl, trivial⟩
   ·have hPall : ∀ q ∈ P, key q ≤ key (D.getD i default) := by rw [hP']; exact srt_pre (Q := Q) (by rw [← hP', hPQ]; exact srt_srt) (by have := (not_congr cmpZ_lt).1 h3; omega)
    refine awp_exit ?_
    refine hK3 _ (awp_region rfl (o_mv (Nv i) rfl ?_))
    refine n_add i 1 gn rfl rfl (by simp only [topOf]; omega) ?_
    refine o_as (Nv (i + 1)) rfl (aops_end ?_)
    refine ⟨_, _, ?lt, ⟨i + 1, (by omega), (by omega), rfl, rfl⟩, ?wk⟩
    case lt => omega
    case wk => exact Wk.sub ⟨rfl, rfl, rfl, rfl, (by first | rfl | exact nm_int (by omega)), trivial⟩ ⟨rfl, rfl, (by first | rfl | exact row_ns (by simp) | (first | exact row_gs' ((blk_start (by omega) (by omega)).symm) | exact row_gs' (ct_start hiD) | exact row_gs' (ct_swap hP' hPj hal) | exact row_gs' (ct_fin (by omega) hiD hPQ hQ hPall) | exact row_gs' (by rcases hi1 with h | h; rw [show b = i by omega]; rw [blk_start (i := b) (by omega) hab, blk_start (by omega) (by omega)]) | exact row_gs' (by by_cases hbi : b = i; rw [hbi]; rw [blk_start (i := b) (by omega) hab, blk_start (i := i) (by omega) (by omega)]))), rfl, rfl, trivial⟩
  ·have hPall : ∀ q ∈ P, key q ≤ key (D.getD i default) := by have hz : P = [] := List.eq_nil_of_length_eq_zero (by omega); rw [hz]; simp
   refine o_skip rfl rfl (decide_eq_false h2) (o_skip rfl rfl (decide_eq_false h2) (o_skip rfl rfl (decide_eq_false h2) (o_skip rfl rfl (decide_eq_false h2) (o_skip rfl rfl (decide_eq_false h2) (o_skip rfl rfl (decide_eq_false h2) (o_skip rfl rfl (decide_eq_false h2) (o_skip rfl rfl (decide_eq_false h2) (o_skip rfl rfl (decide_eq_false h2) (o_skip rfl rfl (decide_eq_false h2) (o_skip rfl rfl (decide_eq_false h2) (o_skip rfl rfl (decide_eq_false h2) ?_)))))))))))
   refine o_pickF Fv gn rfl (decide_eq_false h2) rfl ?_
   refine aops_end ⟨by kernel_rfl, ?_⟩
   refine hK6 _ ?_
   refine awp_condB (b := false) rfl (fun hh => absurd (hh.symm.trans rfl) (by decide)) (fun _ => ?_)
   refine awp_exit ?_
   refine hK3 _ (awp_region rfl (o_mv (Nv i) rfl ?_))
   refine n_add i 1 gn rfl rfl (by simp only [topOf]; omega) ?_
   refine o_as (Nv (i + 1)) rfl (aops_end ?_)
   refine ⟨_, _, ?lt, ⟨i + 1, (by omega), (by omega), rfl, rfl⟩, ?wk⟩
   case lt => omega
   case wk => exact Wk.sub ⟨rfl, rfl, rfl, rfl, (by first | rfl | exact nm_int (by omega)), trivial⟩ ⟨rfl, rfl, (by first | rfl | exact row_ns (by simp) | (first | exact row_gs' ((blk_start (by omega) (by omega)).symm) | exact row_gs' (ct_start hiD) | exact row_gs' (ct_swap hP' hPj hal) | exact row_gs' (ct_fin (by omega) hiD hPQ hQ hPall) | exact row_gs' (by rcases hi1 with h | h; rw [show b = i by omega]; rw [blk_start (i := b) (by omega) hab, blk_start (by omega) (by omega)]) | exact row_gs' (by by_cases hbi : b = i; rw [hbi]; rw [blk_start (i := b) (by omega) hab, blk_start (i := i) (by omega) (by omega)]))), rfl, rfl, trivial⟩
 ·refine awp_exit ?_
  exact ⟨⟨[], [p0v us, v2v, r0v (blk key D a b), v3v, r1v L]⟩, Wk.sub trivial ⟨rfl, rfl, (by first | rfl | exact row_ns (by simp) | (first | exact row_gs' ((blk_start (by omega) (by omega)).symm) | exact row_gs' (ct_start hiD) | exact row_gs' (ct_swap hP' hPj hal) | exact row_gs' (ct_fin (by omega) hiD hPQ hQ hPall) | exact row_gs' (by rcases hi1 with h | h; rw [show b = i by omega]; rw [blk_start (i := b) (by omega) hab, blk_start (by omega) (by omega)]) | exact row_gs' (by by_cases hbi : b = i; rw [hbi]; rw [blk_start (i := b) (by omega) hab, blk_start (i := i) (by omega) (by omega)]))), rfl, rfl, trivial⟩, ⟨[], trivial, rfl, fun id ob h => keep_pin h rfl, rfl⟩⟩

theorem c_insi (kf : Nat) (key : Int → Int) (hkey : ∀ x y : Int, ECalls cx 45 [.lit (.int .i64 x), .lit (.int .i64 y), .ip [.clo kf []]] (.lit (.int .i64 (cmpZ (key x) (key y))))) (D : List Int) (F : List Fal) (a b : Nat) (hab : a ≤ b) (hb : b ≤ D.length) (hD : D.length ≤ 1000000) :
  RCalls cx 62 [.row 21, Nv a, Nv b, .clo 45 [.ip [.clo kf []]]] [2, 3, 21] [v2v, r0v F, v3v, r1v D] (.tup []) [v2v, r0v F, v3v, r1v (blk key D a b)] := by
 refine rcalls_of_x (X := [(2, false), (3, false), (21, true)]) (scalls_of_awpB 9009 Tryd.func62 (c := _) rfl (Nat.le_of_ble_eq_true rfl) rfl rfl rfl (fun us => ?_)) rfl
 refine awp_late ?_
 show awp cx 53 _ (lateQ cx 53 (postS cx Tryd.f62 (.tup []) [v2v, r0v F, v3v, r1v (blk key D a b)] 9009 [.ref 2 0, .ref 3 0, .row 21] us)) ⟨[(0, .row 21), (1, Nv a), (2, Nv b), (3, .clo 45 [.ip [.clo kf []]])], [p1v us, v2v, r0v F, v3v, r1v D]⟩
 refine awp_seq fun K0 hK0 => awp_region rfl (o_mv (Nv a) rfl ?_)
 refine n_add a 1 gn rfl rfl (by simp only [topOf]; omega) ?_
 refine o_as (Nv (a + 1)) rfl (aops_end (hK0 _ ?_))
 refine awp_block ?_
 refine awp_loopR (fun κ σ => ∃ (i : Nat), (a + 1 ≤ i) ∧ (i ≤ b ∨ i = a + 1) ∧ (b + 1 - i) = κ ∧ σ = ⟨[(0, .row 21), (1, Nv a), (2, Nv b), (3, .clo 45 [.ip [.clo kf []]]), (8, Nv i)], [p1v us, v2v, r0v F, v3v, r1v (blk key D a i)]⟩) ⟨_, _, ⟨a + 1, (by omega), (by omega), rfl, rfl⟩, ?wk0⟩ ?rd0
 case wk0 =>
  exact Wk.sub ⟨rfl, rfl, rfl, rfl, (by first | rfl | exact nm_int (by omega)), trivial⟩ ⟨rfl, rfl, rfl, rfl, (by first | rfl | exact row_ns (by simp) | (first | exact row_is ((blk_start (by omega) (by omega)).symm) | exact row_is (ct_start hiD) | exact row_is (ct_swap hP' hPj hal) | exact row_is (ct_fin (by omega) hiD hPQ hQ hPall) | exact row_is (by rcases hi1 with h | h; rw [show b = i by omega]; rw [blk_start (i := b) (by omega) hab, blk_start (by omega) (by omega)]) | exact row_is (by by_cases hbi : b = i; rw [hbi]; rw [blk_start (i := b) (by omega) hab, blk_start (i := i) (by omega) (by omega)]))), trivial⟩
 rintro κ _ ⟨i, hi0, hi1, rfl, rfl⟩
 refine awp_seq fun K1 hK1 => awp_seq fun K2 hK2 => awp_region rfl (o_mv (Nv i) rfl (o_mv (Nv b) rfl ?_))
 refine n_lss i b gn rfl rfl ?_
 refine aops_end (hK2 _ ?_)
 refine awp_condQ (q := i < b) rfl (fun h1 => ?_) (fun h1 => ?_)
 ·have hiD : i < D.length := by omega
  refine awp_skip (hK1 _ (awp_seq fun K3 hK3 => ?_))
  refine awp_block ?_
  refine awp_seq fun K4 hK4 => awp_region rfl (o_mv (Nv i) rfl (o_as (Nv i) rfl (aops_end (hK4 _ ?_))))
  refine awp_block ?_
  refine awp_loopR (fun κ σ => ∃ (j : Nat), ∃ (P : List Int), ∃ (Q : List Int), (a + P.length = j) ∧ (P ++ Q = srt key ((D.drop a).take (i - a))) ∧ (∀ q ∈ Q, key (D.getD i 0) < key q) ∧ j = κ ∧ σ = ⟨[(0, .row 21), (1, Nv a), (2, Nv b), (3, .clo 45 [.ip [.clo kf []]]), (8, Nv i), (9, Nv j)], [p1v us, v2v, r0v F, v3v, r1v (((D.take a) ++ P) ++ (D.getD i 0) :: (Q ++ (D.drop (i + 1))))]⟩) ⟨_, _, ⟨i, srt key ((D.drop a).take (i - a)), [], (by rw [srt_len, List.length_take, List.length_drop]; omega), List.append_nil _, (fun q hq => by simp at hq), rfl, rfl⟩, ?wk1⟩ ?rd1
  case wk1 =>
   exact Wk.sub ⟨rfl, rfl, rfl, rfl, rfl, (by first | rfl | exact nm_int (by omega)), trivial⟩ ⟨rfl, rfl, rfl, rfl, (by first | rfl | exact row_ns (by simp) | (first | exact row_is ((blk_start (by omega) (by omega)).symm) | exact row_is (ct_start hiD) | exact row_is (ct_swap hP' hPj hal) | exact row_is (ct_fin (by omega) hiD hPQ hQ hPall) | exact row_is (by rcases hi1 with h | h; rw [show b = i by omega]; rw [blk_start (i := b) (by omega) hab, blk_start (by omega) (by omega)]) | exact row_is (by by_cases hbi : b = i; rw [hbi]; rw [blk_start (i := b) (by omega) hab, blk_start (i := i) (by omega) (by omega)]))), trivial⟩
  rintro κ _ ⟨j, P, Q, hPj, hPQ, hQ, rfl, rfl⟩
  have hXl : (((D.take a) ++ P) ++ (D.getD i 0) :: (Q ++ (D.drop (i + 1)))).length = D.length := ct_len (by omega) (by omega) hPQ
  have hal : a ≤ D.length := by omega
  have hPl : P.length + Q.length = i - a := by have h := congrArg List.length hPQ; rw [srt_len, List.length_take, List.length_drop, List.length_append] at h; omega
  refine awp_seq fun K5 hK5 => awp_seq fun K6 hK6 => awp_regionD rfl (o_mv (Nv j) rfl (o_mv (Nv a) rfl ?_))
  refine n_gtr j a gn rfl rfl ?_
  refine o_mv (bp (a < j)) rfl ?_
  refine o_splitP (q := a < j) 21 rfl (fun h2 => ?_) (fun h2 => ?_)
  ·obtain ⟨P', y, hP'⟩ := ct_last (P := P) (by omega)
   refine o_move (.clo 45 [.ip [.clo kf []]]) (Gd.yes rfl rfl (decide_eq_true h2)) rfl (o_move (.row 21) (Gd.yes rfl rfl (decide_eq_true h2)) rfl (o_move (Nv j) (Gd.yes rfl rfl (decide_eq_true h2)) rfl ?_))
   refine i_indexRow (((D.take a) ++ P) ++ (D.getD i 0) :: (Q ++ (D.drop (i + 1)))) j (Gd.yes rfl rfl (decide_eq_true h2)) f38_ rfl rfl rfl (by omega) ?_
   refine i_loadRow (((D.take a) ++ P) ++ (D.getD i 0) :: (Q ++ (D.drop (i + 1)))) j (Gd.yes rfl rfl (decide_eq_true h2)) f39_ rfl rfl (by omega) ?_
   refine n_as (v' := (Iv (D.getD i 0))) (by exact congrArg (fun z => AV.lit (.int .i64 z)) (ct_j hPj hal)) ?_
   refine o_move (.row 21) (Gd.yes rfl rfl (decide_eq_true h2)) rfl (o_move (Nv j) (Gd.yes rfl rfl (decide_eq_true h2)) rfl ?_)
   refine n_sub j 1 (Gd.yes rfl rfl (decide_eq_true h2)) rfl rfl (by omega) (by simp only [topOf]; omega) ?_
   refine i_indexRow (((D.take a) ++ P) ++ (D.getD i 0) :: (Q ++ (D.drop (i + 1)))) (j - 1) (Gd.yes rfl rfl (decide_eq_true h2)) f38_ rfl rfl rfl (by omega) ?_
   refine i_loadRow (((D.take a) ++ P) ++ (D.getD i 0) :: (Q ++ (D.drop (i + 1)))) (j - 1) (Gd.yes rfl rfl (decide_eq_true h2)) f39_ rfl rfl (by omega) ?_
   refine n_as (v' := (Iv y)) (by exact congrArg (fun z => AV.lit (.int .i64 z)) (ct_p hP' hPj hal)) ?_
   refine o_callG [] [Iv (D.getD i 0), Iv y, .ip [.clo kf []]] _ (Iv (cmpZ (key (D.getD i 0)) (key y))) [p1v us, v2v, r0v F, v3v, r1v (((D.take a) ++ P) ++ (D.getD i 0) :: (Q ++ (D.drop (i + 1))))] (Gd.yes rfl rfl (decide_eq_true h2)) f78_ rfl trivial rfl rfl (LeL.cons (AV.le_refl _) (LeL.cons (AV.le_refl _) (LeL.cons (AV.le_refl _) LeL.nil))) (hkey (D.getD i 0) y) rfl ?_
   refine o_lss (a := (cmpZ (key (D.getD i 0)) (key y))) (c := ((0 : Nat) : Int)) (Gd.yes rfl rfl (decide_eq_true h2)) rfl rfl ?_
   refine o_pickT (bp ((cmpZ (key (D.getD i 0)) (key y)) < ((0 : Nat) : Int))) gn rfl (decide_eq_true h2) rfl ?_
   refine aops_end ⟨by kernel_rfl, ?_⟩
   refine hK6 _ ?_
   refine awp_condQ (q := (cmpZ (key (D.getD i 0)) (key y)) < ((0 : Nat) : Int)) rfl (fun h3 => ?_) (fun h3 => ?_)
   ·refine awp_skip (hK5 _ (awp_seq fun K7 hK7 => ?_))
    refine awp_block ?_
    refine awp_regionT rfl ?_
    refine o_mv (.row 21) rfl (o_mv (Nv j) rfl (o_mv (.row 21) rfl (o_mv (Nv j) rfl ?_)))
    refine n_sub j 1 gn rfl rfl (by omega) (by simp only [topOf]; omega) ?_
    refine o_mv (.row 21) rfl (o_mv (Nv j) rfl ?_)
    refine n_sub j 1 gn rfl rfl (by omega) (by simp only [topOf]; omega) ?_
    refine i_indexRow (((D.take a) ++ P) ++ (D.getD i 0) :: (Q ++ (D.drop (i + 1)))) (j - 1) gn f38_ rfl rfl rfl (by omega) ?_
    refine i_loadRow (((D.take a) ++ P) ++ (D.getD i 0) :: (Q ++ (D.drop (i + 1)))) (j - 1) gn f39_ rfl rfl (by omega) ?_
    refine n_as (v' := (Iv y)) (by exact congrArg (fun z => AV.lit (.int .i64 z)) (ct_p hP' hPj hal)) ?_
    refine o_mv (.row 21) rfl (o_mv (Nv j) rfl ?_)
    refine i_indexRow (((D.take a) ++ P) ++ (D.getD i 0) :: (Q ++ (D.drop (i + 1)))) j gn f38_ rfl rfl rfl (by omega) ?_
    refine i_loadRow (((D.take a) ++ P) ++ (D.getD i 0) :: (Q ++ (D.drop (i + 1)))) j gn f39_ rfl rfl (by omega) ?_
    refine n_as (v' := (Iv (D.getD i 0))) (by exact congrArg (fun z => AV.lit (.int .i64 z)) (ct_j hPj hal)) ?_
    refine i_indexRow (((D.take a) ++ P) ++ (D.getD i 0) :: (Q ++ (D.drop (i + 1)))) j gn f38_ rfl rfl rfl (by omega) ?_
    refine i_storeRow (((D.take a) ++ P) ++ (D.getD i 0) :: (Q ++ (D.drop (i + 1)))) j y [p1v us, v2v, r0v F, v3v, r1v ((((D.take a) ++ P) ++ (D.getD i 0) :: (Q ++ (D.drop (i + 1)))).set j y)] gn f79_ rfl rfl rfl (by first | omega | (simp only [List.length_set]; omega)) rfl ?_
    refine i_indexRow ((((D.take a) ++ P) ++ (D.getD i 0) :: (Q ++ (D.drop (i + 1)))).set j y) (j - 1) gn f38_ rfl rfl rfl (by simp only [List.length_set]; omega) ?_
    refine i_storeRow ((((D.take a) ++ P) ++ (D.getD i 0) :: (Q ++ (D.drop (i + 1)))).set j y) (j - 1) (D.getD i 0) [p1v us, v2v, r0v F, v3v, r1v (((((D.take a) ++ P) ++ (D.getD i 0) :: (Q ++ (D.drop (i + 1)))).set j y).set (j - 1) (D.getD i 0))] gn f79_ rfl rfl rfl (by first | omega | (simp only [List.length_set]; omega)) rfl ?_
    refine aops_end ⟨by kernel_rfl, ?_⟩
    refine hK7 _ (awp_region rfl (o_mv (Nv j) rfl ?_))
    refine n_sub j 1 gn rfl rfl (by omega) (by simp only [topOf]; omega) ?_
    refine o_as (Nv (j - 1)) rfl (aops_end ?_)
    refine ⟨_, _, ?lt, ⟨j - 1, P', y :: Q, (by have h := congrArg List.length hP'; simp at h; omega), (by rw [← hPQ, hP']; simp), (fun q hq => by rcases List.mem_cons.1 hq with e | hq; rw [e]; exact cmpZ_lt.1 (by assumption); exact hQ q hq), rfl, rfl⟩, ?wk⟩
    case lt => omega
    case wk => exact Wk.sub ⟨rfl, rfl, rfl, rfl, rfl, (by first | rfl | exact nm_int (by omega)), trivial⟩ ⟨rfl, rfl, rfl, rfl, (by first | rfl | exact row_ns (by simp) | (first | exact row_is ((blk_start (by omega) (by omega)).symm) | exact row_is (ct_start hiD) | exact row_is (ct_swap hP' hPj hal) | exact row_is (ct_fin (by omega) hiD hPQ hQ hPall) | exact row_is (by rcases hi1 with h | h; rw [show b = i by omega]; rw [blk_start (i := b) (by omega) hab, blk_start (by omega) (by omega)]) | exact row_is (by by_cases hbi : b = i; rw [hbi]; rw [blk_start (i := b) (by omega) hab, blk_start (i := i) (by omega) (by omega)]))), trivial⟩
   ·have hPall : ∀ q ∈ P, key q ≤ key (D.getD i 0) := by rw [hP']; exact srt_pre (Q := Q) (by rw [← hP', hPQ]; exact srt_srt) (by have := (not_congr cmpZ_lt).1 h3; omega)
    refine awp_exit ?_
    refine hK3 _ (awp_region rfl (o_mv (Nv i) rfl ?_))
    refine n_add i 1 gn rfl rfl (by simp only [topOf]; omega) ?_
    refine o_as (Nv (i + 1)) rfl (aops_end ?_)
    refine ⟨_, _, ?lt, ⟨i + 1, (by omega), (by omega), rfl, rfl⟩, ?wk⟩
    case lt => omega
    case wk => exact Wk.sub ⟨rfl, rfl, rfl, rfl, (by first | rfl | exact nm_int (by omega)), trivial⟩ ⟨rfl, rfl, rfl, rfl, (by first | rfl | exact row_ns (by simp) | (first | exact row_is ((blk_start (by omega) (by omega)).symm) | exact row_is (ct_start hiD) | exact row_is (ct_swap hP' hPj hal) | exact row_is (ct_fin (by omega) hiD hPQ hQ hPall) | exact row_is (by rcases hi1 with h | h; rw [show b = i by omega]; rw [blk_start (i := b) (by omega) hab, blk_start (by omega) (by omega)]) | exact row_is (by by_cases hbi : b = i; rw [hbi]; rw [blk_start (i := b) (by omega) hab, blk_start (i := i) (by omega) (by omega)]))), trivial⟩
  ·have hPall : ∀ q ∈ P, key q ≤ key (D.getD i 0) := by have hz : P = [] := List.eq_nil_of_length_eq_zero (by omega); rw [hz]; simp
   refine o_skip rfl rfl (decide_eq_false h2) (o_skip rfl rfl (decide_eq_false h2) (o_skip rfl rfl (decide_eq_false h2) (o_skip rfl rfl (decide_eq_false h2) (o_skip rfl rfl (decide_eq_false h2) (o_skip rfl rfl (decide_eq_false h2) (o_skip rfl rfl (decide_eq_false h2) (o_skip rfl rfl (decide_eq_false h2) (o_skip rfl rfl (decide_eq_false h2) (o_skip rfl rfl (decide_eq_false h2) (o_skip rfl rfl (decide_eq_false h2) (o_skip rfl rfl (decide_eq_false h2) ?_)))))))))))
   refine o_pickF Fv gn rfl (decide_eq_false h2) rfl ?_
   refine aops_end ⟨by kernel_rfl, ?_⟩
   refine hK6 _ ?_
   refine awp_condB (b := false) rfl (fun hh => absurd (hh.symm.trans rfl) (by decide)) (fun _ => ?_)
   refine awp_exit ?_
   refine hK3 _ (awp_region rfl (o_mv (Nv i) rfl ?_))
   refine n_add i 1 gn rfl rfl (by simp only [topOf]; omega) ?_
   refine o_as (Nv (i + 1)) rfl (aops_end ?_)
   refine ⟨_, _, ?lt, ⟨i + 1, (by omega), (by omega), rfl, rfl⟩, ?wk⟩
   case lt => omega
   case wk => exact Wk.sub ⟨rfl, rfl, rfl, rfl, (by first | rfl | exact nm_int (by omega)), trivial⟩ ⟨rfl, rfl, rfl, rfl, (by first | rfl | exact row_ns (by simp) | (first | exact row_is ((blk_start (by omega) (by omega)).symm) | exact row_is (ct_start hiD) | exact row_is (ct_swap hP' hPj hal) | exact row_is (ct_fin (by omega) hiD hPQ hQ hPall) | exact row_is (by rcases hi1 with h | h; rw [show b = i by omega]; rw [blk_start (i := b) (by omega) hab, blk_start (by omega) (by omega)]) | exact row_is (by by_cases hbi : b = i; rw [hbi]; rw [blk_start (i := b) (by omega) hab, blk_start (i := i) (by omega) (by omega)]))), trivial⟩
 ·refine awp_exit ?_
  exact ⟨⟨[], [p1v us, v2v, r0v F, v3v, r1v (blk key D a b)]⟩, Wk.sub trivial ⟨rfl, rfl, rfl, rfl, (by first | rfl | exact row_ns (by simp) | (first | exact row_is ((blk_start (by omega) (by omega)).symm) | exact row_is (ct_start hiD) | exact row_is (ct_swap hP' hPj hal) | exact row_is (ct_fin (by omega) hiD hPQ hQ hPall) | exact row_is (by rcases hi1 with h | h; rw [show b = i by omega]; rw [blk_start (i := b) (by omega) hab, blk_start (by omega) (by omega)]) | exact row_is (by by_cases hbi : b = i; rw [hbi]; rw [blk_start (i := b) (by omega) hab, blk_start (i := i) (by omega) (by omega)]))), trivial⟩, ⟨[], trivial, rfl, fun id ob h => keep_pin h rfl, rfl⟩⟩

end Go.Proofs.YtjbaamfahkjhgaaDoor

set_option linter.unusedSectionVars false
namespace Go.Mth
section
variable {α : Type} [Inhabited α]
def sw (X : List α) (i j : Nat) : List α := (X.set i (X.getD j default)).set j (X.getD i default)
def swr (X : List α) (a b : Nat) : Nat → List α
 | 0 => X
 | n + 1 => sw (swr X a b n) (a + n) (b + n)
def rotF : Nat → List α → Nat → Nat → Nat → List α
 | 0, X, _, _, _ => X
 | f + 1, X, m, i, j => if i = j then swr X (m - i) m i else if j < i then rotF f (swr X (m - i) m j) m (i - j) j else rotF f (swr X (m - i) (m + j - i) i) m i (j - i)
def mvR (X : List α) (a : Nat) : Nat → List α
 | 0 => X
 | n + 1 => sw (mvR X a n) (a + n) (a + n + 1)
def mvL (X : List α) (m : Nat) : Nat → List α
 | 0 => X
 | n + 1 => sw (mvL X m n) (m - n) (m - n - 1)
def bs (P : Nat → Bool) : Nat → Nat → Nat → Nat
 | 0, i, _ => i
 | f + 1, i, j => if i < j then (if P ((i + j) / 2) then bs P f ((i + j) / 2 + 1) j else bs P f i ((i + j) / 2)) else i
theorem bs_fuel (P : Nat → Bool) : ∀ (f g i j : Nat), j - i ≤ f → j - i ≤ g → bs P f i j = bs P g i j
 | 0, 0, i, j, _, _ => rfl
 | 0, g + 1, i, j, h, _ => by rw [bs, bs, if_neg (by omega)]
 | f + 1, 0, i, j, _, h => by rw [bs, bs, if_neg (by omega)]
 | f + 1, g + 1, i, j, h1, h2 => by
  rw [bs, bs]
  by_cases h : i < j
  ·rw [if_pos h, if_pos h]
   split
   ·exact bs_fuel P f g _ _ (by omega) (by omega)
   ·exact bs_fuel P f g _ _ (by omega) (by omega)
  ·rw [if_neg h, if_neg h]
def bsr (P : Nat → Bool) (i j : Nat) : Nat := bs P (j - i) i j
theorem bsr_up {P : Nat → Bool} {i j : Nat} (h : i < j) (hp : P ((i + j) / 2) = true) : bsr P i j = bsr P ((i + j) / 2 + 1) j := by
 unfold bsr
 rw [show j - i = (j - i - 1) + 1 by omega, bs, if_pos h, if_pos hp]
 exact bs_fuel P _ _ _ _ (by omega) (by omega)
theorem bsr_dn {P : Nat → Bool} {i j : Nat} (h : i < j) (hp : ¬ P ((i + j) / 2) = true) : bsr P i j = bsr P i ((i + j) / 2) := by
 unfold bsr
 rw [show j - i = (j - i - 1) + 1 by omega, bs, if_pos h, if_neg hp]
 exact bs_fuel P _ _ _ _ (by omega) (by omega)
theorem bsr_end {P : Nat → Bool} {i j : Nat} (h : ¬ i < j) : bsr P i j = i := by unfold bsr; rw [show j - i = 0 by omega]; rfl
theorem bsr_spec (P : Nat → Bool) : ∀ (n i j : Nat), j - i ≤ n → i ≤ j → i ≤ bsr P i j ∧ bsr P i j ≤ j ∧ (bsr P i j = i ∨ P (bsr P i j - 1) = true) ∧ (bsr P i j = j ∨ P (bsr P i j) = false)
 | 0, i, j, h, hij => by
  rw [bsr_end (by omega)]
  exact ⟨Nat.le_refl _, hij, .inl rfl, .inl (by omega)⟩
 | n + 1, i, j, h, hij => by
  by_cases hlt : i < j
  ·by_cases hp : P ((i + j) / 2) = true
   ·rw [bsr_up hlt hp]
    obtain ⟨a, b, c, d⟩ := bsr_spec P n ((i + j) / 2 + 1) j (by omega) (by omega)
    refine ⟨by omega, b, ?_, d⟩
    rcases c with c | c
    ·right; rw [c]; simpa using hp
    ·exact .inr c
   ·rw [bsr_dn hlt hp]
    obtain ⟨a, b, c, d⟩ := bsr_spec P n i ((i + j) / 2) (by omega) (by omega)
    refine ⟨a, by omega, c, ?_⟩
    rcases d with d | d
    ·right; rw [d]; simpa using hp
    ·exact .inr d
  ·rw [bsr_end hlt]
   exact ⟨Nat.le_refl _, hij, .inl rfl, .inl (by omega)⟩
theorem sw_len (X : List α) (i j : Nat) : (sw X i j).length = X.length := by unfold sw; simp
theorem swr_len (X : List α) (a b : Nat) : ∀ n, (swr X a b n).length = X.length
 | 0 => rfl
 | n + 1 => by rw [swr, sw_len, swr_len]
theorem rot_len : ∀ (f : Nat) (X : List α) (m i j : Nat), (rotF f X m i j).length = X.length
 | 0, X, _, _, _ => rfl
 | f + 1, X, m, i, j => by
  rw [rotF]
  split
  ·exact swr_len _ _ _ _
  ·split
   ·rw [rot_len, swr_len]
   ·rw [rot_len, swr_len]
theorem mvR_len (X : List α) (a : Nat) : ∀ n, (mvR X a n).length = X.length
 | 0 => rfl
 | n + 1 => by rw [mvR, sw_len, mvR_len]
theorem mvL_len (X : List α) (m : Nat) : ∀ n, (mvL X m n).length = X.length
 | 0 => rfl
 | n + 1 => by rw [mvL, sw_len, mvL_len]
variable (key : α → Int)
def pA (X : List α) (a h : Nat) : Bool := decide (key (X.getD h default) < key (X.getD a default))
def pB (X : List α) (m h : Nat) : Bool := decide (¬ key (X.getD m default) < key (X.getD h default))
def pC (X : List α) (p c : Nat) : Bool := decide (¬ key (X.getD (p - c) default) < key (X.getD c default))
def symS (X : List α) (a m b : Nat) : Nat := if (a + b) / 2 < m then bsr (pC key X ((a + b) / 2 + m - 1)) ((a + b) / 2 + m - b) ((a + b) / 2) else bsr (pC key X ((a + b) / 2 + m - 1)) a m
def symF : Nat → List α → Nat → Nat → Nat → List α
 | 0, X, _, _, _ => X
 | f + 1, X, a, m, b =>
  if m - a = 1 then mvR X a (bsr (pA key X a) m b - 1 - a)
  else if b - m = 1 then mvL X m (m - bsr (pB key X m) a m)
  else
   let mid := (a + b) / 2
   let st := symS key X a m b
   let en := mid + m - st
   let X1 := if st < m ∧ m < en then rotF (m - st + (en - m)) X m (m - st) (en - m) else X
   let X2 := if a < st ∧ st < mid then symF f X1 a st mid else X1
   if mid < en ∧ en < b then symF f X2 mid en b else X2
theorem sym_len : ∀ (f : Nat) (X : List α) (a m b : Nat), (symF key f X a m b).length = X.length
 | 0, X, _, _, _ => rfl
 | f + 1, X, a, m, b => by
  rw [symF]
  split
  ·exact mvR_len _ _ _
  ·split
   ·exact mvL_len _ _ _
   ·simp only []
    have h1 : (if symS key X a m b < m ∧ m < (a + b) / 2 + m - symS key X a m b then rotF (m - symS key X a m b + ((a + b) / 2 + m - symS key X a m b - m)) X m (m - symS key X a m b) ((a + b) / 2 + m - symS key X a m b - m) else X).length = X.length := by
     split
     ·exact rot_len _ _ _ _ _
     ·rfl
    split
    ·rw [sym_len]
     split
     ·rw [sym_len]; exact h1
     ·exact h1
    ·split
     ·rw [sym_len]; exact h1
     ·exact h1
variable {key}
theorem getD_at {A B : List α} {x : α} {j : Nat} (h : j = A.length) : (A ++ x :: B).getD j default = x := getD_mid h.symm
theorem sw_mid {P Q R : List α} {u v : α} {i j : Nat} (hi : i = P.length) (hj : j = P.length + 1 + Q.length) : sw (P ++ u :: (Q ++ v :: R)) i j = P ++ v :: (Q ++ u :: R) := by
 have e1 : (P ++ u :: (Q ++ v :: R)).getD i default = u := getD_at hi
 have e2 : P ++ u :: (Q ++ v :: R) = (P ++ u :: Q) ++ v :: R := by simp
 have e3 : (P ++ u :: (Q ++ v :: R)).getD j default = v := by rw [e2]; exact getD_at (by simp; omega)
 unfold sw
 rw [e1, e3, set_mid hi.symm]
 have e4 : P ++ v :: (Q ++ v :: R) = (P ++ v :: Q) ++ v :: R := by simp
 rw [e4, set_mid (by simp; omega)]
 simp
theorem sw_mid' {P Q R : List α} {u v : α} {i j : Nat} (hi : i = P.length) (hj : j = P.length + 1 + Q.length) : sw (P ++ u :: (Q ++ v :: R)) j i = P ++ v :: (Q ++ u :: R) := by
 have e1 : (P ++ u :: (Q ++ v :: R)).getD i default = u := getD_at hi
 have e2 : P ++ u :: (Q ++ v :: R) = (P ++ u :: Q) ++ v :: R := by simp
 have e3 : (P ++ u :: (Q ++ v :: R)).getD j default = v := by rw [e2]; exact getD_at (by simp; omega)
 unfold sw
 rw [e1, e3, e2, set_mid (by simp; omega)]
 have e4 : (P ++ u :: Q) ++ u :: R = P ++ u :: (Q ++ u :: R) := by simp
 rw [e4, set_mid hi.symm]
theorem snoc_of {U : List α} {n : Nat} (h : U.length = n + 1) : ∃ U' u, U = U' ++ [u] ∧ U'.length = n := by
 obtain ⟨U', u, e⟩ := ct_last (P := U) (by omega)
 exact ⟨U', u, e, by rw [e] at h; simpa using h⟩
theorem swr_ok {A : List α} : ∀ (n : Nat) (U M V B : List α), U.length = n → V.length = n → swr (A ++ (U ++ (M ++ (V ++ B)))) A.length (A.length + n + M.length) n = A ++ (V ++ (M ++ (U ++ B)))
 | 0, U, M, V, B, hU, hV => by
  rw [List.eq_nil_of_length_eq_zero hU, List.eq_nil_of_length_eq_zero hV]
  rfl
 | n + 1, U, M, V, B, hU, hV => by
  obtain ⟨U', u, rfl, hU'⟩ := snoc_of hU
  obtain ⟨V', v, rfl, hV'⟩ := snoc_of hV
  have ih := swr_ok (A := A) n U' (u :: M) V' (v :: B) hU' hV'
  have e1 : A ++ ((U' ++ [u]) ++ (M ++ ((V' ++ [v]) ++ B))) = A ++ (U' ++ ((u :: M) ++ (V' ++ (v :: B)))) := by simp
  have e2 : A.length + n + (u :: M).length = A.length + (n + 1) + M.length := by simp; omega
  rw [e2] at ih
  rw [swr, e1, ih]
  have e3 : A ++ (V' ++ ((u :: M) ++ (U' ++ (v :: B)))) = (A ++ V') ++ u :: ((M ++ U') ++ v :: B) := by simp
  rw [e3, sw_mid (by simp; omega) (by simp; omega)]
  simp
theorem rot_ok : ∀ (f : Nat) (A U V B : List α) (m i j : Nat), i + j ≤ f → 0 < i → 0 < j → U.length = i → V.length = j → m = A.length + i → rotF f (A ++ (U ++ (V ++ B))) m i j = A ++ (V ++ (U ++ B))
 | 0, A, U, V, B, m, i, j, h, hi, _, _, _, _ => by omega
 | f + 1, A, U, V, B, m, i, j, h, hi, hj, hU, hV, hm => by
  have hmA : m - i = A.length := by omega
  rw [rotF]
  by_cases e : i = j
  ·rw [if_pos e, hmA]
   have := swr_ok (A := A) i U [] V B hU (by omega)
   simp only [List.nil_append, List.length_nil, Nat.add_zero] at this
   rw [hm]
   exact this
  ·rw [if_neg e, hmA]
   by_cases c : j < i
   ·rw [if_pos c]
    have eU : U = U.take j ++ U.drop j := (List.take_append_drop _ _).symm
    have l1 : (U.take j).length = j := by rw [List.length_take]; omega
    have l2 : (U.drop j).length = i - j := by rw [List.length_drop]; omega
    have s := swr_ok (A := A) j (U.take j) (U.drop j) V B l1 hV
    have e1 : A ++ (U ++ (V ++ B)) = A ++ (U.take j ++ (U.drop j ++ (V ++ B))) := by rw [← List.append_assoc (U.take j), List.take_append_drop]
    rw [l2, show A.length + j + (i - j) = m by omega] at s
    rw [e1, s]
    have r := rot_ok f (A ++ V) (U.drop j) (U.take j) B m (i - j) j (by omega) (by omega) hj l2 l1 (by simp; omega)
    have e2 : A ++ (V ++ (U.drop j ++ (U.take j ++ B))) = (A ++ V) ++ (U.drop j ++ (U.take j ++ B)) := by simp
    rw [e2, r, ← List.append_assoc (U.take j), List.take_append_drop, List.append_assoc]
   ·rw [if_neg c]
    have l1 : (V.take (j - i)).length = j - i := by rw [List.length_take]; omega
    have l2 : (V.drop (j - i)).length = i := by rw [List.length_drop]; omega
    have s := swr_ok (A := A) i U (V.take (j - i)) (V.drop (j - i)) B hU l2
    have e1 : A ++ (U ++ (V ++ B)) = A ++ (U ++ (V.take (j - i) ++ (V.drop (j - i) ++ B))) := by rw [← List.append_assoc (V.take _), List.take_append_drop]
    rw [l1, show A.length + i + (j - i) = m + j - i by omega] at s
    rw [e1, s]
    have r := rot_ok f A (V.drop (j - i)) (V.take (j - i)) (U ++ B) m i (j - i) (by omega) hi (by omega) l2 l1 hm
    rw [r, ← List.append_assoc (V.take _), List.take_append_drop]
theorem mvR_ok {A : List α} {u : α} : ∀ (n : Nat) (V R : List α), V.length = n → mvR (A ++ u :: (V ++ R)) A.length n = A ++ (V ++ u :: R)
 | 0, V, R, h => by rw [List.eq_nil_of_length_eq_zero h]; rfl
 | n + 1, V, R, h => by
  obtain ⟨V', v, rfl, hV'⟩ := snoc_of h
  have ih := mvR_ok (A := A) (u := u) n V' (v :: R) hV'
  have e1 : A ++ u :: ((V' ++ [v]) ++ R) = A ++ u :: (V' ++ (v :: R)) := by simp
  rw [mvR, e1, ih]
  have e2 : A ++ (V' ++ u :: (v :: R)) = (A ++ V') ++ u :: ([] ++ v :: R) := by simp
  rw [e2, sw_mid (by simp; omega) (by simp; omega)]
  simp
theorem mvL_ok {A : List α} {v : α} {m : Nat} : ∀ (n : Nat) (P Q R : List α), Q.length = n → m = A.length + P.length + Q.length → mvL (A ++ (P ++ (Q ++ v :: R))) m n = A ++ (P ++ v :: (Q ++ R))
 | 0, P, Q, R, h, hm => by rw [List.eq_nil_of_length_eq_zero h]; rfl
 | n + 1, P, [], R, h, hm => by simp at h
 | n + 1, P, q :: Q, R, h, hm => by
  have ih := mvL_ok (A := A) (v := v) (m := m) n (P ++ [q]) Q R (by simpa using h) (by simp at hm ⊢; omega)
  have e1 : A ++ (P ++ ((q :: Q) ++ v :: R)) = A ++ ((P ++ [q]) ++ (Q ++ v :: R)) := by simp
  rw [mvL, e1, ih]
  have e2 : A ++ ((P ++ [q]) ++ v :: (Q ++ R)) = (A ++ P) ++ q :: ([] ++ v :: (Q ++ R)) := by simp
  rw [e2, sw_mid' (by simp at hm h ⊢; omega) (by simp at hm h ⊢; omega)]
  simp
end
end Go.Mth

namespace Go.Mth
section
variable {α : Type} [Inhabited α] {key : α → Int}
theorem getD_app {A W : List α} {a k : Nat} (ha : a = A.length) : (A ++ W).getD (a + k) default = W.getD k default := by
 subst ha
 rw [List.getD_eq_getElem?_getD, List.getD_eq_getElem?_getD, List.getElem?_append_right (Nat.le_add_right _ _), Nat.add_sub_cancel_left]
theorem getD_left {U W : List α} {k : Nat} (h : k < U.length) : (U ++ W).getD k default = U.getD k default := by
 rw [List.getD_eq_getElem?_getD, List.getD_eq_getElem?_getD, List.getElem?_append_left h]
theorem srt_get {U : List α} (h : Srt key U) {i j : Nat} (hij : i ≤ j) (hj : j < U.length) : key (U.getD i default) ≤ key (U.getD j default) := by
 rcases Nat.lt_or_ge i j with e | e
 ·have e1 : U.getD i default = U[i] := by rw [List.getD_eq_getElem?_getD, List.getElem?_eq_getElem (by omega)]; rfl
  have e2 : U.getD j default = U[j] := by rw [List.getD_eq_getElem?_getD, List.getElem?_eq_getElem hj]; rfl
  rw [e1, e2]
  exact List.pairwise_iff_getElem.1 h i j (by omega) hj e
 ·rw [show i = j by omega]; exact Int.le_refl _
theorem mem_take_get {V : List α} {k : Nat} {y : α} (h : y ∈ V.take k) : ∃ i, i < k ∧ i < V.length ∧ y = V.getD i default := by
 obtain ⟨i, hi, rfl⟩ := List.getElem_of_mem h
 rw [List.length_take] at hi
 refine ⟨i, by omega, by omega, ?_⟩
 rw [List.getElem_take, List.getD_eq_getElem?_getD, List.getElem?_eq_getElem (by omega)]
 rfl
theorem mem_drop_get {V : List α} {k : Nat} {y : α} (h : y ∈ V.drop k) : ∃ i, k ≤ i ∧ i < V.length ∧ y = V.getD i default := by
 obtain ⟨i, hi, rfl⟩ := List.getElem_of_mem h
 rw [List.length_drop] at hi
 refine ⟨k + i, by omega, by omega, ?_⟩
 rw [List.getElem_drop, List.getD_eq_getElem?_getD, List.getElem?_eq_getElem (by omega)]
 rfl
theorem take_lt {V : List α} (h : Srt key V) {k : Nat} {c : Int} (hk : k = 0 ∨ (k ≤ V.length ∧ key (V.getD (k - 1) default) < c)) : ∀ y ∈ V.take k, key y < c := fun y hy => by
 obtain ⟨i, h1, h2, rfl⟩ := mem_take_get hy
 rcases hk with e | ⟨e1, e2⟩
 ·omega
 ·have := srt_get h (i := i) (j := k - 1) (by omega) (by omega); omega
theorem take_le {V : List α} (h : Srt key V) {k : Nat} {c : Int} (hk : k = 0 ∨ (k ≤ V.length ∧ key (V.getD (k - 1) default) ≤ c)) : ∀ y ∈ V.take k, key y ≤ c := fun y hy => by
 obtain ⟨i, h1, h2, rfl⟩ := mem_take_get hy
 rcases hk with e | ⟨e1, e2⟩
 ·omega
 ·have := srt_get h (i := i) (j := k - 1) (by omega) (by omega); omega
theorem drop_ge {V : List α} (h : Srt key V) {k : Nat} {c : Int} (hk : V.length ≤ k ∨ c ≤ key (V.getD k default)) : ∀ y ∈ V.drop k, c ≤ key y := fun y hy => by
 obtain ⟨i, h1, h2, rfl⟩ := mem_drop_get hy
 rcases hk with e | e
 ·omega
 ·have := srt_get h (i := k) (j := i) h1 h2; omega
theorem drop_gt {V : List α} (h : Srt key V) {k : Nat} {c : Int} (hk : V.length ≤ k ∨ c < key (V.getD k default)) : ∀ y ∈ V.drop k, c < key y := fun y hy => by
 obtain ⟨i, h1, h2, rfl⟩ := mem_drop_get hy
 rcases hk with e | e
 ·omega
 ·have := srt_get h (i := k) (j := i) h1 h2; omega
theorem srt_take {V : List α} (h : Srt key V) (k : Nat) : Srt key (V.take k) := h.sublist (List.take_sublist _ _)
theorem srt_drop {V : List α} (h : Srt key V) (k : Nat) : Srt key (V.drop k) := h.sublist (List.drop_sublist _ _)
theorem mrg_cut {U V : List α} {k l : Nat} (h1 : ∀ x ∈ U.drop k, ∀ y ∈ V.take l, key y < key x) (h2 : ∀ x ∈ U.take k, ∀ y ∈ V.drop l, key x ≤ key y) : mrg key U V = mrg key (U.take k) (V.take l) ++ mrg key (U.drop k) (V.drop l) := by
 have := mrg_split (key := key) (u2 := U.drop k) (v2 := V.drop l) _ (U.take k) (V.take l) (Nat.le_refl _) h1 h2
 rw [List.take_append_drop, List.take_append_drop] at this
 exact this
theorem sym_one {A V B : List α} {u : α} {a m b : Nat} (hV : Srt key V) (ha : a = A.length) (hm : m = a + 1) (hb : b = m + V.length) : mvR (A ++ (u :: (V ++ B))) a (bsr (pA key (A ++ (u :: (V ++ B))) a) m b - 1 - a) = A ++ (mrg key [u] V ++ B) := by
 obtain ⟨s1, s2, s3, s4⟩ := bsr_spec (pA key (A ++ (u :: (V ++ B))) a) _ m b (Nat.le_refl _) (by omega)
 generalize hr : bsr (pA key (A ++ (u :: (V ++ B))) a) m b = r at s1 s2 s3 s4
 have gu : (A ++ (u :: (V ++ B))).getD a default = u := getD_at ha
 have gv : ∀ k, k < V.length → (A ++ (u :: (V ++ B))).getD (m + k) default = V.getD k default := fun k hk => by
  have e : A ++ (u :: (V ++ B)) = (A ++ [u]) ++ (V ++ B) := by simp
  rw [e, getD_app (by simp; omega), getD_left hk]
 have c1 : ∀ y ∈ V.take (r - m), key y < key u := take_lt hV (by
  rcases s3 with e | e
  ·left; omega
  ·by_cases h0 : r = m
   ·left; omega
   ·right
    refine ⟨by omega, ?_⟩
    unfold pA at e
    rw [gu, show r - 1 = m + (r - m - 1) by omega, gv _ (by omega)] at e
    simpa using e)
 have c2 : ∀ y ∈ V.drop (r - m), key u ≤ key y := drop_ge hV (by
  rcases s4 with e | e
  ·left; omega
  ·by_cases h0 : r = b
   ·left; omega
   ·right
    unfold pA at e
    rw [gu, show r = m + (r - m) by omega, gv _ (by omega)] at e
    have := decide_eq_false_iff_not.1 e
    omega)
 have hc := mrg_cut (U := [u]) (V := V) (k := 0) (l := r - m) (fun x hx y hy => by simp at hx; rw [hx]; exact c1 y hy) (fun x hx => by simp at hx)
 rw [hc, List.take_zero, mrg_nil', List.drop_zero, mrg_low (fun x hx y hy => by simp at hx; rw [hx]; exact c2 y hy)]
 have l1 : (V.take (r - m)).length = r - 1 - a := by rw [List.length_take]; omega
 have e : A ++ (u :: (V ++ B)) = A ++ u :: (V.take (r - m) ++ (V.drop (r - m) ++ B)) := by rw [← List.append_assoc (V.take _), List.take_append_drop]
 rw [e, ha] at *
 rw [mvR_ok _ _ _ l1]
 simp
theorem sym_last {A U B : List α} {v : α} {a m b : Nat} (hU : Srt key U) (ha : a = A.length) (hm : m = a + U.length) : mvL (A ++ (U ++ v :: B)) m (m - bsr (pB key (A ++ (U ++ v :: B)) m) a m) = A ++ (mrg key U [v] ++ B) := by
 obtain ⟨s1, s2, s3, s4⟩ := bsr_spec (pB key (A ++ (U ++ v :: B)) m) _ a m (Nat.le_refl _) (by omega)
 generalize hr : bsr (pB key (A ++ (U ++ v :: B)) m) a m = r at s1 s2 s3 s4
 have gv : (A ++ (U ++ v :: B)).getD m default = v := by
  rw [← List.append_assoc]
  exact getD_at (by simp; omega)
 have gu : ∀ k, k < U.length → (A ++ (U ++ v :: B)).getD (a + k) default = U.getD k default := fun k hk => by rw [getD_app ha, getD_left hk]
 have c1 : ∀ y ∈ U.take (r - a), key y ≤ key v := take_le hU (by
  rcases s3 with e | e
  ·left; omega
  ·by_cases h0 : r = a
   ·left; omega
   ·right
    refine ⟨by omega, ?_⟩
    unfold pB at e
    rw [gv, show r - 1 = a + (r - a - 1) by omega, gu _ (by omega)] at e
    have := of_decide_eq_true e
    omega)
 have c2 : ∀ y ∈ U.drop (r - a), key v < key y := drop_gt hU (by
  rcases s4 with e | e
  ·left; omega
  ·by_cases h0 : r = m
   ·left; omega
   ·right
    unfold pB at e
    rw [gv, show r = a + (r - a) by omega, gu _ (by omega)] at e
    have := decide_eq_false_iff_not.1 e
    omega)
 have hc := mrg_cut (U := U) (V := [v]) (k := r - a) (l := 1) (fun x hx y hy => by simp at hy; rw [hy]; exact c2 x hx) (fun x hx y hy => by simp at hy)
 have t1 : [v].take 1 = [v] := rfl
 have t2 : [v].drop 1 = ([] : List α) := rfl
 rw [hc, t1, t2, mrg_nil, mrg_low (fun x hx y hy => by simp at hy; rw [hy]; exact c1 x hx)]
 have l1 : (U.drop (r - a)).length = m - r := by rw [List.length_drop]; omega
 have l2 : (U.take (r - a)).length = r - a := by rw [List.length_take]; omega
 have e : A ++ (U ++ v :: B) = A ++ (U.take (r - a) ++ (U.drop (r - a) ++ v :: B)) := by rw [← List.append_assoc (U.take _), List.take_append_drop]
 rw [e, mvL_ok _ _ _ _ l1 (by omega)]
 simp
theorem sym_ok : ∀ (f : Nat) (A U V B : List α) (a m b : Nat), b - a ≤ f → Srt key U → Srt key V → 0 < U.length → 0 < V.length → a = A.length → m = a + U.length → b = m + V.length → symF key f (A ++ (U ++ (V ++ B))) a m b = A ++ (mrg key U V ++ B)
 | 0, A, U, V, B, a, m, b, h, _, _, h1, h2, ha, hm, hb => by omega
 | f + 1, A, U, V, B, a, m, b, h, hU, hV, h1, h2, ha, hm, hb => by
  rw [symF]
  by_cases c1 : m - a = 1
  ·rw [if_pos c1]
   match U, h1, hm with
   | [u], _, hm => exact sym_one hV ha hm hb
   | u :: u2 :: U', _, hm => simp at hm; omega
  ·rw [if_neg c1]
   by_cases c2 : b - m = 1
   ·rw [if_pos c2]
    match V, h2, hb with
    | [v], _, hb => exact sym_last (b := b) hU ha hm
    | v :: v2 :: V', _, hb => simp at hb; omega
   ·rw [if_neg c2]
    simp only []
    have spec : a ≤ symS key (A ++ (U ++ (V ++ B))) a m b ∧ symS key (A ++ (U ++ (V ++ B))) a m b ≤ m ∧ symS key (A ++ (U ++ (V ++ B))) a m b ≤ (a + b) / 2 ∧ (a + b) / 2 + m - symS key (A ++ (U ++ (V ++ B))) a m b ≤ b ∧
      (symS key (A ++ (U ++ (V ++ B))) a m b = a ∨ (a + b) / 2 + m - symS key (A ++ (U ++ (V ++ B))) a m b = b ∨ pC key (A ++ (U ++ (V ++ B))) ((a + b) / 2 + m - 1) (symS key (A ++ (U ++ (V ++ B))) a m b - 1) = true) ∧
      (symS key (A ++ (U ++ (V ++ B))) a m b = m ∨ symS key (A ++ (U ++ (V ++ B))) a m b = (a + b) / 2 ∨ pC key (A ++ (U ++ (V ++ B))) ((a + b) / 2 + m - 1) (symS key (A ++ (U ++ (V ++ B))) a m b) = false) := by
     unfold symS
     split
     ·rename_i c
      obtain ⟨s1, s2, s3, s4⟩ := bsr_spec (pC key (A ++ (U ++ (V ++ B))) ((a + b) / 2 + m - 1)) _ ((a + b) / 2 + m - b) ((a + b) / 2) (Nat.le_refl _) (by omega)
      refine ⟨by omega, by omega, s2, by omega, ?_, ?_⟩
      ·rcases s3 with e | e
       ·right; left; omega
       ·exact .inr (.inr e)
      ·rcases s4 with e | e
       ·right; left; exact e
       ·exact .inr (.inr e)
     ·rename_i c
      obtain ⟨s1, s2, s3, s4⟩ := bsr_spec (pC key (A ++ (U ++ (V ++ B))) ((a + b) / 2 + m - 1)) _ a m (Nat.le_refl _) (by omega)
      refine ⟨s1, s2, by omega, by omega, ?_, ?_⟩
      ·rcases s3 with e | e
       ·left; exact e
       ·exact .inr (.inr e)
      ·rcases s4 with e | e
       ·left; exact e
       ·exact .inr (.inr e)
    generalize hst : symS key (A ++ (U ++ (V ++ B))) a m b = st at spec
    obtain ⟨s1, s2, s3, s4, s5, s6⟩ := spec
    generalize hmd : (a + b) / 2 = mid at s3 s4 s5 s6
    have hmid1 : a < mid := by omega
    have hmid2 : mid < b := by omega
    have gu : ∀ k, k < U.length → (A ++ (U ++ (V ++ B))).getD (a + k) default = U.getD k default := fun k hk => by rw [getD_app ha, getD_left hk]
    have gv : ∀ k, k < V.length → (A ++ (U ++ (V ++ B))).getD (m + k) default = V.getD k default := fun k hk => by rw [← List.append_assoc, getD_app (by simp; omega), getD_left hk]
    have x1 : ∀ x ∈ U.drop (st - a), ∀ y ∈ V.take (mid - st), key y < key x := fun x hx y hy => by
     have hlx : st - a < U.length := by
      rcases Nat.lt_or_ge (st - a) U.length with e | e
      ·exact e
      ·rw [List.drop_of_length_le e] at hx; simp at hx
     have hly : 0 < mid - st := by
      rcases Nat.eq_zero_or_pos (mid - st) with e | e
      ·rw [e] at hy; simp at hy
      ·exact e
     rcases s6 with e | e | e
     ·omega
     ·omega
     ·unfold pC at e
      rw [show mid + m - 1 - st = m + (mid - st - 1) by omega, show st = a + (st - a) by omega, gu _ hlx, ← show st = a + (st - a) by omega, gv _ (by omega)] at e
      have e2 := decide_eq_false_iff_not.1 e
      have e3 : key (V.getD (mid - st - 1) default) < key (U.getD (st - a) default) := Decidable.not_not.1 e2
      have y1 := take_le hV (k := mid - st) (c := key (V.getD (mid - st - 1) default)) (.inr ⟨by omega, Int.le_refl _⟩) y hy
      have x2 := drop_ge hU (k := st - a) (c := key (U.getD (st - a) default)) (.inr (Int.le_refl _)) x hx
      omega
    have x2 : ∀ x ∈ U.take (st - a), ∀ y ∈ V.drop (mid - st), key x ≤ key y := fun x hx y hy => by
     have hlx : 0 < st - a := by
      rcases Nat.eq_zero_or_pos (st - a) with e | e
      ·rw [e] at hx; simp at hx
      ·exact e
     have hly : mid - st < V.length := by
      rcases Nat.lt_or_ge (mid - st) V.length with e | e
      ·exact e
      ·rw [List.drop_of_length_le e] at hy; simp at hy
     rcases s5 with e | e | e
     ·omega
     ·omega
     ·unfold pC at e
      rw [show mid + m - 1 - (st - 1) = m + (mid - st) by omega, show st - 1 = a + (st - a - 1) by omega, gu _ (by omega), gv _ hly] at e
      have e2 := of_decide_eq_true e
      have y1 := drop_ge hV (k := mid - st) (c := key (V.getD (mid - st) default)) (.inr (Int.le_refl _)) y hy
      have z1 := take_le hU (k := st - a) (c := key (U.getD (st - a - 1) default)) (.inr ⟨by omega, Int.le_refl _⟩) x hx
      omega
    have lU1 : (U.take (st - a)).length = st - a := by rw [List.length_take]; omega
    have lU2 : (U.drop (st - a)).length = m - st := by rw [List.length_drop]; omega
    have lV1 : (V.take (mid - st)).length = mid - st := by rw [List.length_take]; omega
    have lV2 : (V.drop (mid - st)).length = b - (mid + m - st) := by rw [List.length_drop]; omega
    have eX : A ++ (U ++ (V ++ B)) = (A ++ U.take (st - a)) ++ (U.drop (st - a) ++ (V.take (mid - st) ++ (V.drop (mid - st) ++ B))) := by
     rw [← List.append_assoc (V.take _), List.take_append_drop, List.append_assoc A, ← List.append_assoc (U.take _), List.take_append_drop]
    have r1 : (if st < m ∧ m < mid + m - st then rotF (m - st + (mid + m - st - m)) (A ++ (U ++ (V ++ B))) m (m - st) (mid + m - st - m) else A ++ (U ++ (V ++ B))) = (A ++ U.take (st - a)) ++ (V.take (mid - st) ++ (U.drop (st - a) ++ (V.drop (mid - st) ++ B))) := by
     split
     ·rename_i c
      rw [eX]
      exact rot_ok _ _ _ _ _ _ _ _ (Nat.le_refl _) (by omega) (by omega) lU2 (by omega) (by simp [lU1]; omega)
     ·rename_i c
      rw [eX]
      by_cases c3 : st < m
      ·rw [List.eq_nil_of_length_eq_zero (show (V.take (mid - st)).length = 0 by omega)]; rfl
      ·rw [List.eq_nil_of_length_eq_zero (show (U.drop (st - a)).length = 0 by omega)]; rfl
    rw [r1]
    have lM : (mrg key (U.take (st - a)) (V.take (mid - st))).length = mid - a := by rw [mrg_len _ _ (srt_take hU _) (srt_take hV _), lU1, lV1]; omega
    have r2 : (if a < st ∧ st < mid then symF key f ((A ++ U.take (st - a)) ++ (V.take (mid - st) ++ (U.drop (st - a) ++ (V.drop (mid - st) ++ B)))) a st mid else (A ++ U.take (st - a)) ++ (V.take (mid - st) ++ (U.drop (st - a) ++ (V.drop (mid - st) ++ B)))) = A ++ (mrg key (U.take (st - a)) (V.take (mid - st)) ++ (U.drop (st - a) ++ (V.drop (mid - st) ++ B))) := by
     rw [List.append_assoc A]
     split
     ·rename_i c
      exact sym_ok f A (U.take (st - a)) (V.take (mid - st)) _ a st mid (by omega) (srt_take hU _) (srt_take hV _) (by omega) (by omega) ha (by omega) (by omega)
     ·rename_i c
      by_cases c3 : a < st
      ·rw [List.eq_nil_of_length_eq_zero (show (V.take (mid - st)).length = 0 by omega), mrg_nil]; rfl
      ·rw [List.eq_nil_of_length_eq_zero (show (U.take (st - a)).length = 0 by omega), mrg_nil']; rfl
    rw [r2]
    have hcut := mrg_cut (U := U) (V := V) (k := st - a) (l := mid - st) x1 x2
    rw [hcut]
    have eA : A ++ (mrg key (U.take (st - a)) (V.take (mid - st)) ++ (U.drop (st - a) ++ (V.drop (mid - st) ++ B))) = (A ++ mrg key (U.take (st - a)) (V.take (mid - st))) ++ (U.drop (st - a) ++ (V.drop (mid - st) ++ B)) := by simp
    rw [eA]
    split
    ·rename_i c
     rw [sym_ok f (A ++ mrg key (U.take (st - a)) (V.take (mid - st))) (U.drop (st - a)) (V.drop (mid - st)) B mid (mid + m - st) b (by omega) (srt_drop hU _) (srt_drop hV _) (by omega) (by omega) (by simp [lM]; omega) (by omega) (by omega)]
     simp
    ·rename_i c
     by_cases c3 : mid < mid + m - st
     ·rw [List.eq_nil_of_length_eq_zero (show (V.drop (mid - st)).length = 0 by omega), mrg_nil]
      simp
     ·rw [List.eq_nil_of_length_eq_zero (show (U.drop (st - a)).length = 0 by omega), mrg_nil']
      simp
end
end Go.Mth

namespace Go.Mth
section
variable {α : Type} [Inhabited α]
theorem rotF_gt {f : Nat} {X : List α} {m i j : Nat} (hf : 0 < f) (h : j < i) : rotF (f - 1) (swr X (m - i) m j) m (i - j) j = rotF f X m i j := by
 obtain ⟨g, rfl⟩ : ∃ g, f = g + 1 := ⟨f - 1, by omega⟩
 rw [rotF, if_neg (by omega), if_pos h]; rfl
theorem rotF_lt {f : Nat} {X : List α} {m i j : Nat} (hf : 0 < f) (h : i < j) : rotF (f - 1) (swr X (m - i) (m + j - i) i) m i (j - i) = rotF f X m i j := by
 obtain ⟨g, rfl⟩ : ∃ g, f = g + 1 := ⟨f - 1, by omega⟩
 rw [rotF, if_neg (by omega), if_neg (by omega)]; rfl
theorem rotF_eq {f : Nat} {X : List α} {m i j : Nat} (hf : 0 < f) (h : i = j) : swr X (m - i) m i = rotF f X m i j := by
 obtain ⟨g, rfl⟩ : ∃ g, f = g + 1 := ⟨f - 1, by omega⟩
 rw [rotF, if_pos h]
variable {key : α → Int}
theorem sym_1 {f e : Nat} {D : List α} {a m b i : Nat} (he : f = e + 1) (h : m - a = 1) (hi : i = bsr (pA key D a) m b) : mvR D a (i - 1 - a) = symF key f D a m b := by
 subst he; rw [symF, if_pos h, hi]
theorem sym_2 {f e : Nat} {D : List α} {a m b i : Nat} (he : f = e + 1) (h : ¬ m - a = 1) (h2 : b - m = 1) (hi : i = bsr (pB key D m) a m) : mvL D m (m - i) = symF key f D a m b := by
 subst he; rw [symF, if_neg h, if_pos h2, hi]
theorem sym_3 {f e : Nat} {D X1 X2 X3 : List α} {a m b p : Nat} (he : f = e + 1) (h : ¬ m - a = 1) (h2 : ¬ b - m = 1) (hp : symS key D a m b = p)
  (h4 : X1 = if p < m ∧ m < (a + b) / 2 + m - p then rotF (m - p + ((a + b) / 2 + m - p - m)) D m (m - p) ((a + b) / 2 + m - p - m) else D)
  (h5 : X2 = if a < p ∧ p < (a + b) / 2 then symF key e X1 a p ((a + b) / 2) else X1)
  (h6 : X3 = if (a + b) / 2 < (a + b) / 2 + m - p ∧ (a + b) / 2 + m - p < b then symF key e X2 ((a + b) / 2) ((a + b) / 2 + m - p) b else X2) : X3 = symF key f D a m b := by
 subst he; rw [symF, if_neg h, if_neg h2, hp, h6, h5, h4]
theorem bs_end {P : Nat → Bool} {i j x : Nat} (h : bsr P i j = x) (hij : ¬ i < j) : i = x := by rw [← h, bsr_end hij]
theorem bs_up {P : Nat → Bool} {i j x : Nat} (h : bsr P i j = x) (hij : i < j) (hp : P ((i + j) / 2) = true) : bsr P ((i + j) / 2 + 1) j = x := by rw [← h, bsr_up hij hp]
theorem bs_dn {P : Nat → Bool} {i j x : Nat} (h : bsr P i j = x) (hij : i < j) (hp : ¬ P ((i + j) / 2) = true) : bsr P i ((i + j) / 2) = x := by rw [← h, bsr_dn hij hp]
theorem pA_y {X : List α} {a h : Nat} (c : cmpZ (key (X.getD h default)) (key (X.getD a default)) < 0) : pA key X a h = true := decide_eq_true (cmpZ_lt.1 c)
theorem pA_n {X : List α} {a h : Nat} (c : ¬ cmpZ (key (X.getD h default)) (key (X.getD a default)) < 0) : ¬ pA key X a h = true := fun e => c (cmpZ_lt.2 (of_decide_eq_true e))
theorem pB_y {X : List α} {m h : Nat} (c : ¬ cmpZ (key (X.getD m default)) (key (X.getD h default)) < 0) : pB key X m h = true := decide_eq_true fun e => c (cmpZ_lt.2 e)
theorem pB_n {X : List α} {m h : Nat} (c : cmpZ (key (X.getD m default)) (key (X.getD h default)) < 0) : ¬ pB key X m h = true := fun e => of_decide_eq_true e (cmpZ_lt.1 c)
theorem pC_y {X : List α} {p h : Nat} (c : ¬ cmpZ (key (X.getD (p - h) default)) (key (X.getD h default)) < 0) : pC key X p h = true := decide_eq_true fun e => c (cmpZ_lt.2 e)
theorem pC_n {X : List α} {p h : Nat} (c : cmpZ (key (X.getD (p - h) default)) (key (X.getD h default)) < 0) : ¬ pC key X p h = true := fun e => of_decide_eq_true e (cmpZ_lt.1 c)
theorem symS_lo {X : List α} {a m b p : Nat} (h : (a + b) / 2 < m) (hp : p = (a + b) / 2 + m - b) : bsr (pC key X ((a + b) / 2 + m - 1)) p ((a + b) / 2) = symS key X a m b := by unfold symS; rw [if_pos h, hp]
theorem symS_hi {X : List α} {a m b : Nat} (h : ¬ (a + b) / 2 < m) : bsr (pC key X ((a + b) / 2 + m - 1)) a m = symS key X a m b := by unfold symS; rw [if_neg h]
end
end Go.Mth

namespace Go.Proofs.YtjbaamfahkjhgaaDoor
open Go Go.Ab Go.Mth
theorem f80_ : callable cx.P 81 = true := by kernel_rfl
theorem f81_ : tyInt cx.P 101 = some .u64 := by kernel_rfl
theorem f82_ : callable cx.P 72 = true := by kernel_rfl
theorem f83_ : callable cx.P 61 = true := by kernel_rfl
theorem f84_ : callable cx.P 82 = true := by kernel_rfl
theorem f85_ : callable cx.P 73 = true := by kernel_rfl
theorem f86_ : callable cx.P 63 = true := by kernel_rfl
theorem c_swpf (kf : Nat) (key : Fal → Int) (hkey : ∀ x y : Fal, ECalls cx 42 [falV x, falV y, .ip [.clo kf []]] (.lit (.int .i64 (cmpZ (key x) (key y))))) (D : List Fal) (L : List Int) (a b n : Nat) (ha : a + n ≤ D.length) (hb : b + n ≤ D.length) (hD : D.length ≤ 1000000) :
  RCalls cx 81 [.row 20, Nv a, Nv b, Nv n, .clo 42 [.ip [.clo kf []]]] [2, 3, 20] [v2v, r0v D, v3v, r1v L] (.tup []) [v2v, r0v (swr D a b n), v3v, r1v L] := by
 refine rcalls_of_x (X := [(2, false), (3, false), (20, true)]) (scalls_of_awpB 9009 Tryd.func81 (c := _) rfl (Nat.le_of_ble_eq_true rfl) rfl rfl rfl (fun us => ?_)) rfl
 refine awp_late ?_
 show awp cx 38 _ (lateQ cx 38 (postS cx Tryd.f81 (.tup []) [v2v, r0v (swr D a b n), v3v, r1v L] 9009 [.ref 2 0, .ref 3 0, .row 20] us)) ⟨[(0, .row 20), (1, Nv a), (2, Nv b), (3, Nv n), (4, .clo 42 [.ip [.clo kf []]])], [p0v us, v2v, r0v D, v3v, r1v L]⟩
 refine awp_seq fun K0 hK0 => awp_region rfl (o_as (Nv 0) rfl (aops_end (hK0 _ ?_)))
 refine awp_block ?_
 refine awp_loopR (fun κ σ => ∃ (i : Nat), (i ≤ n) ∧ (n - i) = κ ∧ σ = ⟨[(0, .row 20), (1, Nv a), (2, Nv b), (3, Nv n), (4, .clo 42 [.ip [.clo kf []]]), (10, Nv i)], [p0v us, v2v, r0v (swr D a b i), v3v, r1v L]⟩) ⟨_, _, ⟨0, (by omega), rfl, rfl⟩, ?wk0⟩ ?rd0
 case wk0 =>
  exact Wk.sub ⟨rfl, rfl, rfl, rfl, rfl, (by first | rfl | exact nm_int (by omega)), trivial⟩ ⟨rfl, rfl, (by first | rfl | exact row_ns (by simp) | (first | exact row_gs' rfl | exact row_gs' (by rw [show i = n by omega]))), rfl, rfl, trivial⟩
 rintro κ _ ⟨i, hi, rfl, rfl⟩
 have hXl := swr_len D a b i
 refine awp_seq fun K1 hK1 => awp_seq fun K2 hK2 => awp_region rfl (o_mv (Nv i) rfl (o_mv (Nv n) rfl ?_))
 refine n_lss i n gn rfl rfl ?_
 refine aops_end (hK2 _ ?_)
 refine awp_condQ (q := i < n) rfl (fun h1 => ?_) (fun h1 => ?_)
 ·refine awp_skip (hK1 _ (awp_seq fun K3 hK3 => ?_))
  refine awp_block ?_
  refine awp_regionT rfl ?_
  refine o_mv (.row 20) rfl (o_mv (Nv a) rfl (o_mv (Nv i) rfl ?_))
  refine n_add a i gn rfl rfl (by simp only [topOf]; omega) ?_
  refine o_mv (.row 20) rfl (o_mv (Nv b) rfl (o_mv (Nv i) rfl ?_))
  refine n_add b i gn rfl rfl (by simp only [topOf]; omega) ?_
  refine o_mv (.row 20) rfl (o_mv (Nv b) rfl (o_mv (Nv i) rfl ?_))
  refine n_add b i gn rfl rfl (by simp only [topOf]; omega) ?_
  refine g_indexRow cL (swr D a b i) (b + i) cL_len rfl gn f76_ rfl rfl rfl (by omega) ?_
  refine g_loadRowA cL (swr D a b i) (b + i) default cL_len gn f75_ rfl rfl (by omega) ?_
  refine o_mv (.row 20) rfl (o_mv (Nv a) rfl (o_mv (Nv i) rfl ?_))
  refine n_add a i gn rfl rfl (by simp only [topOf]; omega) ?_
  refine g_indexRow cL (swr D a b i) (a + i) cL_len rfl gn f76_ rfl rfl rfl (by omega) ?_
  refine g_loadRowA cL (swr D a b i) (a + i) default cL_len gn f75_ rfl rfl (by omega) ?_
  refine g_indexRow cL (swr D a b i) (a + i) cL_len rfl gn f76_ rfl rfl rfl (by omega) ?_
  refine g_storeRow cL (swr D a b i) (a + i) ((swr D a b i).getD (b + i) default) [p0v us, v2v, r0v ((swr D a b i).set (a + i) ((swr D a b i).getD (b + i) default)), v3v, r1v L] cL_len cL_closed gn f74_ rfl rfl rfl (by first | omega | (simp only [List.length_set]; omega)) rfl ?_
  refine g_indexRow cL ((swr D a b i).set (a + i) ((swr D a b i).getD (b + i) default)) (b + i) cL_len rfl gn f76_ rfl rfl rfl (by simp only [List.length_set]; omega) ?_
  refine g_storeRow cL ((swr D a b i).set (a + i) ((swr D a b i).getD (b + i) default)) (b + i) ((swr D a b i).getD (a + i) default) [p0v us, v2v, r0v (((swr D a b i).set (a + i) ((swr D a b i).getD (b + i) default)).set (b + i) ((swr D a b i).getD (a + i) default)), v3v, r1v L] cL_len cL_closed gn f74_ rfl rfl rfl (by first | omega | (simp only [List.length_set]; omega)) rfl ?_
  refine aops_end ⟨by kernel_rfl, ?_⟩
  refine hK3 _ (awp_region rfl (o_mv (Nv i) rfl ?_))
  refine n_add i 1 gn rfl rfl (by simp only [topOf]; omega) ?_
  refine o_as (Nv (i + 1)) rfl (aops_end ?_)
  refine ⟨_, _, ?lt, ⟨i + 1, (by omega), rfl, rfl⟩, ?wk⟩
  case lt => omega
  case wk => exact Wk.sub ⟨rfl, rfl, rfl, rfl, rfl, (by first | rfl | exact nm_int (by omega)), trivial⟩ ⟨rfl, rfl, (by first | rfl | exact row_ns (by simp) | (first | exact row_gs' rfl | exact row_gs' (by rw [show i = n by omega]))), rfl, rfl, trivial⟩
 ·refine awp_exit ?_
  exact ⟨⟨[], [p0v us, v2v, r0v (swr D a b n), v3v, r1v L]⟩, Wk.sub trivial ⟨rfl, rfl, (by first | rfl | exact row_ns (by simp) | (first | exact row_gs' rfl | exact row_gs' (by rw [show i = n by omega]))), rfl, rfl, trivial⟩, ⟨[], trivial, rfl, fun id ob h => keep_pin h rfl, rfl⟩⟩

theorem c_rotf (kf : Nat) (key : Fal → Int) (hkey : ∀ x y : Fal, ECalls cx 42 [falV x, falV y, .ip [.clo kf []]] (.lit (.int .i64 (cmpZ (key x) (key y))))) (D : List Fal) (L : List Int) (a m b : Nat) (ham : a < m) (hmb : m < b) (hb : b ≤ D.length) (hD : D.length ≤ 1000000) :
  RCalls cx 72 [.row 20, Nv a, Nv m, Nv b, .clo 42 [.ip [.clo kf []]]] [2, 3, 20] [v2v, r0v D, v3v, r1v L] (.tup []) [v2v, r0v (rotF (m - a + (b - m)) D m (m - a) (b - m)), v3v, r1v L] := by
 refine rcalls_of_x (X := [(2, false), (3, false), (20, true)]) (scalls_of_awpB 9009 Tryd.func72 (c := _) rfl (Nat.le_of_ble_eq_true rfl) rfl rfl rfl (fun us => ?_)) rfl
 refine awp_late ?_
 show awp cx 58 _ (lateQ cx 58 (postS cx Tryd.f72 (.tup []) [v2v, r0v (rotF (m - a + (b - m)) D m (m - a) (b - m)), v3v, r1v L] 9009 [.ref 2 0, .ref 3 0, .row 20] us)) ⟨[(0, .row 20), (1, Nv a), (2, Nv m), (3, Nv b), (4, .clo 42 [.ip [.clo kf []]])], [p0v us, v2v, r0v D, v3v, r1v L]⟩
 refine awp_seq fun K0 hK0 => awp_region rfl (o_mv (Nv m) rfl (o_mv (Nv a) rfl ?_))
 refine n_sub m a gn rfl rfl (by omega) (by simp only [topOf]; omega) ?_
 refine o_as (Nv (m - a)) rfl (aops_end (hK0 _ (awp_seq fun K1 hK1 => awp_region rfl (o_mv (Nv b) rfl (o_mv (Nv m) rfl ?_)))))
 refine n_sub b m gn rfl rfl (by omega) (by simp only [topOf]; omega) ?_
 refine o_as (Nv (b - m)) rfl (aops_end (hK1 _ (awp_seq fun K2 hK2 => ?_)))
 refine awp_block ?_
 refine awp_loopR (fun κ σ => ∃ (f : Nat), ∃ (i : Nat), ∃ (j : Nat), ∃ (X : List Fal), (rotF f X m i j = rotF (m - a + (b - m)) D m (m - a) (b - m)) ∧ (X.length = D.length) ∧ (i + j ≤ f) ∧ (0 < i ∧ i ≤ m - a) ∧ (0 < j ∧ j ≤ b - m) ∧ (i + j) = κ ∧ σ = ⟨[(0, .row 20), (2, Nv m), (4, .clo 42 [.ip [.clo kf []]]), (10, Nv i), (11, Nv j)], [p0v us, v2v, r0v X, v3v, r1v L]⟩) ⟨_, _, ⟨m - a + (b - m), m - a, b - m, D, rfl, rfl, (by omega), (by omega), (by omega), rfl, rfl⟩, ?wk0⟩ ?rd0
 case wk0 =>
  exact Wk.sub ⟨rfl, rfl, rfl, (by first | rfl | exact nm_int (by omega)), (by first | rfl | exact nm_int (by omega)), trivial⟩ ⟨rfl, rfl, (by first | rfl | exact row_ns (by simp) | (first | exact row_gs' rfl | exact row_gs' ((rotF_eq (by omega) (by omega)).trans hR))), rfl, rfl, trivial⟩
 rintro κ _ ⟨f, i, j, X, hR, hl, hf, hi, hj, rfl, rfl⟩
 refine awp_seq fun K3 hK3 => awp_seq fun K4 hK4 => awp_region rfl (o_mv (Nv i) rfl (o_mv (Nv j) rfl ?_))
 refine n_neq i j gn rfl rfl ?_
 refine aops_end (hK4 _ ?_)
 refine awp_condQ (q := i ≠ j) rfl (fun h1 => ?_) (fun h1 => ?_)
 ·refine awp_skip (hK3 _ ?_)
  refine awp_block ?_
  refine awp_seq fun K5 hK5 => awp_region rfl (o_mv (Nv i) rfl (o_mv (Nv j) rfl ?_))
  refine n_gtr i j gn rfl rfl ?_
  refine aops_end (hK5 _ ?_)
  refine awp_condQ (q := j < i) rfl (fun h2 => ?_) (fun h2 => ?_)
  ·refine awp_seq fun K6 hK6 => ?_
   refine awp_regionSW 7 31 _ 81 [] _ _ _ _ _ [.row 20, Nv (m - i), Nv m, Nv j, .clo 42 [.ip [.clo kf []]]] (.tup []) [v2v, r0v (swr X (m - i) m j), v3v, r1v L, p0v us] rfl rfl rfl f80_ ?_
   refine o_mv (.row 20) rfl (o_mv (Nv m) rfl (o_mv (Nv i) rfl ?_))
   refine n_sub m i gn rfl rfl (by omega) (by simp only [topOf]; omega) ?_
   refine o_mv (Nv m) rfl (o_mv (Nv j) rfl (o_mv (.clo 42 [.ip [.clo kf []]]) rfl ?_))
   refine aops_end ⟨_, Wk.sub (σ' := ⟨[(0, .row 20), (2, Nv m), (4, .clo 42 [.ip [.clo kf []]]), (10, Nv i), (11, Nv j), (18, Nv i), (19, Nv j), (20, bp (i ≠ j)), (21, Nv i), (22, Nv j), (23, bp (j < i)), (24, .row 20), (27, Nv (m - i)), (28, Nv m), (29, Nv j), (30, .clo 42 [.ip [.clo kf []]])], [v2v, r0v X, v3v, r1v L, p0v us]⟩) ⟨rfl, rfl, rfl, rfl, rfl, rfl, rfl, rfl, rfl, rfl, rfl, rfl, rfl, rfl, rfl, rfl, trivial⟩ ⟨rfl, rfl, rfl, rfl, rfl, trivial⟩, rfl, rfl, scalls_of_r (K := [2, 3, 20]) (m := [v2v, r0v X, v3v, r1v L]) (m' := [v2v, r0v (swr X (m - i) m j), v3v, r1v L]) (e := [p0v us]) (c_swpf kf key hkey X L (m - i) m j (by omega) (by omega) (by omega)) rfl rfl, ?_⟩
   refine hK6 _ (awp_region rfl (o_mv (Nv i) rfl (o_mv (Nv j) rfl ?_)))
   refine n_sub i j gn rfl rfl (by omega) (by simp only [topOf]; omega) ?_
   refine o_as (Nv (i - j)) rfl (aops_end ?_)
   refine ⟨_, _, ?lt, ⟨f - 1, i - j, j, swr X (m - i) m j, ((rotF_gt (by omega) (by omega)).trans hR), (swr_len _ _ _ _).trans hl, (by omega), (by omega), (by omega), rfl, rfl⟩, ?wk⟩
   case lt => omega
   case wk => exact Wk.sub ⟨rfl, rfl, rfl, (by first | rfl | exact nm_int (by omega)), rfl, trivial⟩ ⟨rfl, rfl, (by first | rfl | exact row_ns (by simp) | (first | exact row_gs' rfl | exact row_gs' ((rotF_eq (by omega) (by omega)).trans hR))), rfl, rfl, trivial⟩
  ·refine awp_seq fun K7 hK7 => ?_
   refine awp_regionSW 11 46 _ 81 [] _ _ _ _ _ [.row 20, Nv (m - i), Nv ((m + j) - i), Nv i, .clo 42 [.ip [.clo kf []]]] (.tup []) [v2v, r0v (swr X (m - i) (m + j - i) i), v3v, r1v L, p0v us] rfl rfl rfl f80_ ?_
   refine o_mv (.row 20) rfl (o_mv (Nv m) rfl (o_mv (Nv i) rfl ?_))
   refine n_sub m i gn rfl rfl (by omega) (by simp only [topOf]; omega) ?_
   refine o_mv (Nv m) rfl (o_mv (Nv j) rfl ?_)
   refine n_add m j gn rfl rfl (by simp only [topOf]; omega) ?_
   refine o_mv (Nv i) rfl ?_
   refine n_sub (m + j) i gn rfl rfl (by omega) (by simp only [topOf]; omega) ?_
   refine o_mv (Nv i) rfl (o_mv (.clo 42 [.ip [.clo kf []]]) rfl ?_)
   refine aops_end ⟨_, Wk.sub (σ' := ⟨[(0, .row 20), (2, Nv m), (4, .clo 42 [.ip [.clo kf []]]), (10, Nv i), (11, Nv j), (18, Nv i), (19, Nv j), (20, bp (i ≠ j)), (21, Nv i), (22, Nv j), (23, bp (j < i)), (35, .row 20), (38, Nv (m - i)), (43, Nv ((m + j) - i)), (44, Nv i), (45, .clo 42 [.ip [.clo kf []]])], [v2v, r0v X, v3v, r1v L, p0v us]⟩) ⟨rfl, rfl, rfl, rfl, rfl, rfl, rfl, rfl, rfl, rfl, rfl, rfl, rfl, rfl, rfl, rfl, trivial⟩ ⟨rfl, rfl, rfl, rfl, rfl, trivial⟩, rfl, rfl, scalls_of_r (K := [2, 3, 20]) (m := [v2v, r0v X, v3v, r1v L]) (m' := [v2v, r0v (swr X (m - i) (m + j - i) i), v3v, r1v L]) (e := [p0v us]) (c_swpf kf key hkey X L (m - i) (m + j - i) i (by omega) (by omega) (by omega)) rfl rfl, ?_⟩
   refine hK7 _ (awp_region rfl (o_mv (Nv j) rfl (o_mv (Nv i) rfl ?_)))
   refine n_sub j i gn rfl rfl (by omega) (by simp only [topOf]; omega) ?_
   refine o_as (Nv (j - i)) rfl (aops_end ?_)
   refine ⟨_, _, ?lt, ⟨f - 1, i, j - i, swr X (m - i) (m + j - i) i, ((rotF_lt (by omega) (by omega)).trans hR), (swr_len _ _ _ _).trans hl, (by omega), (by omega), (by omega), rfl, rfl⟩, ?wk⟩
   case lt => omega
   case wk => exact Wk.sub ⟨rfl, rfl, rfl, rfl, (by first | rfl | exact nm_int (by omega)), trivial⟩ ⟨rfl, rfl, (by first | rfl | exact row_ns (by simp) | (first | exact row_gs' rfl | exact row_gs' ((rotF_eq (by omega) (by omega)).trans hR))), rfl, rfl, trivial⟩
 ·refine awp_exit ?_
  refine hK2 _ ?_
  refine awp_regionSW 7 57 _ 81 [] _ _ _ _ _ [.row 20, Nv (m - i), Nv m, Nv i, .clo 42 [.ip [.clo kf []]]] (.tup []) [v2v, r0v (swr X (m - i) m i), v3v, r1v L, p0v us] rfl rfl rfl f80_ ?_
  refine o_mv (.row 20) rfl (o_mv (Nv m) rfl (o_mv (Nv i) rfl ?_))
  refine n_sub m i gn rfl rfl (by omega) (by simp only [topOf]; omega) ?_
  refine o_mv (Nv m) rfl (o_mv (Nv i) rfl (o_mv (.clo 42 [.ip [.clo kf []]]) rfl ?_))
  refine aops_end ⟨_, Wk.sub (σ' := ⟨[(0, .row 20), (2, Nv m), (4, .clo 42 [.ip [.clo kf []]]), (10, Nv i), (11, Nv j), (18, Nv i), (19, Nv j), (20, bp (i ≠ j)), (50, .row 20), (53, Nv (m - i)), (54, Nv m), (55, Nv i), (56, .clo 42 [.ip [.clo kf []]])], [v2v, r0v X, v3v, r1v L, p0v us]⟩) ⟨rfl, rfl, rfl, rfl, rfl, rfl, rfl, rfl, rfl, rfl, rfl, rfl, rfl, trivial⟩ ⟨rfl, rfl, rfl, rfl, rfl, trivial⟩, rfl, rfl, scalls_of_r (K := [2, 3, 20]) (m := [v2v, r0v X, v3v, r1v L]) (m' := [v2v, r0v (swr X (m - i) m i), v3v, r1v L]) (e := [p0v us]) (c_swpf kf key hkey X L (m - i) m i (by omega) (by omega) (by omega)) rfl rfl, ?_⟩
  exact ⟨⟨[], [p0v us, v2v, r0v (rotF (m - a + (b - m)) D m (m - a) (b - m)), v3v, r1v L]⟩, Wk.sub trivial ⟨rfl, rfl, (by first | rfl | exact row_ns (by simp) | (first | exact row_gs' rfl | exact row_gs' ((rotF_eq (by omega) (by omega)).trans hR))), rfl, rfl, trivial⟩, ⟨[], trivial, rfl, fun id ob h => keep_pin h rfl, rfl⟩⟩

theorem c_symf (kf : Nat) (key : Fal → Int) (hkey : ∀ x y : Fal, ECalls cx 42 [falV x, falV y, .ip [.clo kf []]] (.lit (.int .i64 (cmpZ (key x) (key y))))) (L : List Int) : ∀ (f : Nat) (D : List Fal) (a m b : Nat), b - a ≤ f → a < m → m < b → b ≤ D.length → D.length ≤ 1000000 →
  RCalls cx 61 [.row 20, Nv a, Nv m, Nv b, .clo 42 [.ip [.clo kf []]]] [2, 3, 20] [v2v, r0v D, v3v, r1v L] (.tup []) [v2v, r0v (symF key f D a m b), v3v, r1v L] := by
 intro f
 induction f using Nat.strongRecOn
 rename_i f ih
 intro D a m b hf ham hmb hb hD
 obtain ⟨e, hfe⟩ : ∃ e, f = e + 1 := ⟨f - 1, by omega⟩
 refine rcalls_of_x (X := [(2, false), (3, false), (20, true)]) (scalls_of_awpB 9009 Tryd.func61 (c := _) rfl (Nat.le_of_ble_eq_true rfl) rfl rfl rfl (fun us => ?_)) rfl
 refine awp_late ?_
 show awp cx 220 _ (lateQ cx 220 (postS cx Tryd.f61 (.tup []) [v2v, r0v (symF key f D a m b), v3v, r1v L] 9009 [.ref 2 0, .ref 3 0, .row 20] us)) ⟨[(0, .row 20), (1, Nv a), (2, Nv m), (3, Nv b), (4, .clo 42 [.ip [.clo kf []]])], [p0v us, v2v, r0v D, v3v, r1v L]⟩
 refine awp_seq fun K0 hK0 => awp_seq fun K1 hK1 => awp_region rfl (o_mv (Nv m) rfl (o_mv (Nv a) rfl ?_))
 refine n_sub m a gn rfl rfl (by omega) (by simp only [topOf]; omega) ?_
 refine n_eql (m - a) 1 gn rfl rfl ?_
 refine aops_end (hK1 _ ?_)
 refine awp_condQ (q := (m - a) = 1) rfl (fun h1 => ?_) (fun h1 => ?_)
 ·refine awp_seq fun K2 hK2 => awp_region rfl (o_mv (Nv m) rfl (o_as (Nv m) rfl (aops_end (hK2 _ (awp_seq fun K3 hK3 => awp_region rfl (o_mv (Nv b) rfl (o_as (Nv b) rfl (aops_end (hK3 _ ?_)))))))))
  refine awp_seq fun K4 hK4 => ?_
  refine awp_block ?_
  refine awp_loopR (fun κ σ => ∃ (i : Nat), ∃ (j : Nat), (bsr (pA key D a) i j = bsr (pA key D a) m b) ∧ (m ≤ i ∧ i ≤ j ∧ j ≤ b) ∧ (j - i) = κ ∧ σ = ⟨[(0, .row 20), (1, Nv a), (2, Nv m), (3, Nv b), (4, .clo 42 [.ip [.clo kf []]]), (10, Nv i), (11, Nv j)], [p0v us, v2v, r0v D, v3v, r1v L]⟩) ⟨_, _, ⟨m, b, rfl, (by omega), rfl, rfl⟩, ?wk0⟩ ?rd0
  case wk0 =>
   exact Wk.sub ⟨rfl, rfl, rfl, rfl, rfl, (by first | rfl | exact nm_int (by omega)), (by first | rfl | exact nm_int (by omega)), trivial⟩ ⟨rfl, rfl, rfl, rfl, rfl, trivial⟩
  rintro κ _ ⟨i, j, hbs, hi, rfl, rfl⟩
  refine awp_seq fun K5 hK5 => awp_seq fun K6 hK6 => awp_region rfl (o_mv (Nv i) rfl (o_mv (Nv j) rfl ?_))
  refine n_lss i j gn rfl rfl ?_
  refine aops_end (hK6 _ ?_)
  refine awp_condQ (q := i < j) rfl (fun h2 => ?_) (fun h2 => ?_)
  ·refine awp_skip (hK5 _ ?_)
   refine awp_block ?_
   refine awp_seq fun K7 hK7 => awp_region rfl (o_mv (Nv i) rfl (o_mv (Nv j) rfl ?_))
   refine n_add i j gn rfl rfl (by simp only [topOf]; omega) ?_
   refine n_conv (i + j) gn rfl f22_ f81_ (by simp only [topOf]; omega) ?_
   refine n_shr1 (i + j) gn rfl rfl ?_
   refine n_conv ((i + j) / 2) gn rfl f81_ f22_ (by simp only [topOf]; omega) ?_
   refine o_as (Nv ((i + j) / 2)) rfl (aops_end (hK7 _ (awp_seq fun K8 hK8 => awp_regionD rfl (o_mv (.clo 42 [.ip [.clo kf []]]) rfl (o_mv (.row 20) rfl (o_mv (Nv ((i + j) / 2)) rfl ?_))))))
   refine g_indexRow cL D ((i + j) / 2) cL_len rfl gn f76_ rfl rfl rfl (by omega) ?_
   refine g_loadRowA cL D ((i + j) / 2) default cL_len gn f75_ rfl rfl (by omega) ?_
   refine o_mv (.row 20) rfl (o_mv (Nv a) rfl ?_)
   refine g_indexRow cL D a cL_len rfl gn f76_ rfl rfl rfl (by omega) ?_
   refine g_loadRowA cL D a default cL_len gn f75_ rfl rfl (by omega) ?_
   refine o_callG [] [.agg (cL (D.getD ((i + j) / 2) default)), .agg (cL (D.getD a default)), .ip [.clo kf []]] _ (Iv (cmpZ (key (D.getD ((i + j) / 2) default)) (key (D.getD a default)))) [p0v us, v2v, r0v D, v3v, r1v L] gn f77_ rfl trivial rfl rfl (LeL.cons (AV.le_refl _) (LeL.cons (AV.le_refl _) (LeL.cons (AV.le_refl _) LeL.nil))) (hkey (D.getD ((i + j) / 2) default) (D.getD a default)) rfl ?_
   refine o_lss (a := (cmpZ (key (D.getD ((i + j) / 2) default)) (key (D.getD a default)))) (c := ((0 : Nat) : Int)) gn rfl rfl ?_
   refine aops_end ⟨by kernel_rfl, ?_⟩
   refine hK8 _ ?_
   refine awp_condQ (q := (cmpZ (key (D.getD ((i + j) / 2) default)) (key (D.getD a default))) < ((0 : Nat) : Int)) rfl (fun h3 => ?_) (fun h3 => ?_)
   ·refine awp_region rfl (o_mv (Nv ((i + j) / 2)) rfl ?_)
    refine n_add ((i + j) / 2) 1 gn rfl rfl (by simp only [topOf]; omega) ?_
    refine o_as (Nv (((i + j) / 2) + 1)) rfl (aops_end ?_)
    refine ⟨_, _, ?lt, ⟨(i + j) / 2 + 1, j, (bs_up hbs (by assumption) (pA_y (by assumption))), (by omega), rfl, rfl⟩, ?wk⟩
    case lt => omega
    case wk => exact Wk.sub ⟨rfl, rfl, rfl, rfl, rfl, (by first | rfl | exact nm_int (by omega)), rfl, trivial⟩ ⟨rfl, rfl, rfl, rfl, rfl, trivial⟩
   ·refine awp_region rfl (o_mv (Nv ((i + j) / 2)) rfl (o_as (Nv ((i + j) / 2)) rfl (aops_end ?_)))
    refine ⟨_, _, ?lt, ⟨i, (i + j) / 2, (bs_dn hbs (by assumption) (pA_n (by assumption))), (by omega), rfl, rfl⟩, ?wk⟩
    case lt => omega
    case wk => exact Wk.sub ⟨rfl, rfl, rfl, rfl, rfl, rfl, (by first | rfl | exact nm_int (by omega)), trivial⟩ ⟨rfl, rfl, rfl, rfl, rfl, trivial⟩
  ·refine awp_exit ?_
   refine hK4 _ (awp_seq fun K9 hK9 => awp_seq fun K10 hK10 => ?_)
   have hie := bs_end hbs (by assumption)
   refine awp_region rfl (o_mv (Nv a) rfl (o_as (Nv a) rfl (aops_end (hK10 _ ?_))))
   refine awp_block ?_
   refine awp_loopR (fun κ σ => ∃ (q : Nat), (a + q ≤ i - 1) ∧ (i - (a + q)) = κ ∧ σ = ⟨[(0, .row 20), (1, Nv a), (2, Nv m), (3, Nv b), (4, .clo 42 [.ip [.clo kf []]]), (10, Nv i), (13, Nv (a + q))], [p0v us, v2v, r0v (mvR D a q), v3v, r1v L]⟩) ⟨_, _, ⟨0, (by omega), rfl, rfl⟩, ?wk1⟩ ?rd1
   case wk1 =>
    exact Wk.sub ⟨rfl, rfl, rfl, rfl, rfl, rfl, (by first | rfl | exact nm_int (by omega)), trivial⟩ ⟨rfl, rfl, (by first | rfl | exact row_ns (by simp) | (first | exact row_gs' rfl | exact row_gs' (by rw [← sym_1 hfe (by assumption) hie, show q = i - 1 - a by omega]) | exact row_gs' (by rw [← sym_2 hfe (by assumption) (by assumption) hie, show q = m - i by omega]) | exact row_gs' (sym_3 hfe (by assumption) (by assumption) hps hX1 hX2 (if_pos (by omega)).symm) | exact row_gs' (sym_3 hfe (by assumption) (by assumption) hps hX1 hX2 (if_neg (by omega)).symm))), rfl, rfl, trivial⟩
   rintro κ _ ⟨q, hq, rfl, rfl⟩
   have hXl := mvR_len D a q
   refine awp_seq fun K11 hK11 => awp_seq fun K12 hK12 => awp_region rfl (o_mv (Nv (a + q)) rfl (o_mv (Nv i) rfl ?_))
   refine n_sub i 1 gn rfl rfl (by omega) (by simp only [topOf]; omega) ?_
   refine n_lss (a + q) (i - 1) gn rfl rfl ?_
   refine aops_end (hK12 _ ?_)
   refine awp_condQ (q := (a + q) < (i - 1)) rfl (fun h4 => ?_) (fun h4 => ?_)
   ·refine awp_skip (hK11 _ (awp_seq fun K13 hK13 => ?_))
    refine awp_block ?_
    refine awp_regionT rfl ?_
    refine o_mv (.row 20) rfl (o_mv (Nv (a + q)) rfl (o_mv (.row 20) rfl (o_mv (Nv (a + q)) rfl ?_)))
    refine n_add (a + q) 1 gn rfl rfl (by simp only [topOf]; omega) ?_
    refine o_mv (.row 20) rfl (o_mv (Nv (a + q)) rfl ?_)
    refine n_add (a + q) 1 gn rfl rfl (by simp only [topOf]; omega) ?_
    refine g_indexRow cL (mvR D a q) ((a + q) + 1) cL_len rfl gn f76_ rfl rfl rfl (by omega) ?_
    refine g_loadRowA cL (mvR D a q) ((a + q) + 1) default cL_len gn f75_ rfl rfl (by omega) ?_
    refine o_mv (.row 20) rfl (o_mv (Nv (a + q)) rfl ?_)
    refine g_indexRow cL (mvR D a q) (a + q) cL_len rfl gn f76_ rfl rfl rfl (by omega) ?_
    refine g_loadRowA cL (mvR D a q) (a + q) default cL_len gn f75_ rfl rfl (by omega) ?_
    refine g_indexRow cL (mvR D a q) (a + q) cL_len rfl gn f76_ rfl rfl rfl (by omega) ?_
    refine g_storeRow cL (mvR D a q) (a + q) ((mvR D a q).getD ((a + q) + 1) default) [p0v us, v2v, r0v ((mvR D a q).set (a + q) ((mvR D a q).getD ((a + q) + 1) default)), v3v, r1v L] cL_len cL_closed gn f74_ rfl rfl rfl (by first | omega | (simp only [List.length_set]; omega)) rfl ?_
    refine g_indexRow cL ((mvR D a q).set (a + q) ((mvR D a q).getD ((a + q) + 1) default)) ((a + q) + 1) cL_len rfl gn f76_ rfl rfl rfl (by simp only [List.length_set]; omega) ?_
    refine g_storeRow cL ((mvR D a q).set (a + q) ((mvR D a q).getD ((a + q) + 1) default)) ((a + q) + 1) ((mvR D a q).getD (a + q) default) [p0v us, v2v, r0v (((mvR D a q).set (a + q) ((mvR D a q).getD ((a + q) + 1) default)).set ((a + q) + 1) ((mvR D a q).getD (a + q) default)), v3v, r1v L] cL_len cL_closed gn f74_ rfl rfl rfl (by first | omega | (simp only [List.length_set]; omega)) rfl ?_
    refine aops_end ⟨by kernel_rfl, ?_⟩
    refine hK13 _ (awp_region rfl (o_mv (Nv (a + q)) rfl ?_))
    refine n_add (a + q) 1 gn rfl rfl (by simp only [topOf]; omega) ?_
    refine o_as (Nv ((a + q) + 1)) rfl (aops_end ?_)
    refine ⟨_, _, ?lt, ⟨q + 1, (by omega), rfl, rfl⟩, ?wk⟩
    case lt => omega
    case wk => exact Wk.sub ⟨rfl, rfl, rfl, rfl, rfl, rfl, (by first | rfl | exact nm_int (by omega)), trivial⟩ ⟨rfl, rfl, (by first | rfl | exact row_ns (by simp) | (first | exact row_gs' rfl | exact row_gs' (by rw [← sym_1 hfe (by assumption) hie, show q = i - 1 - a by omega]) | exact row_gs' (by rw [← sym_2 hfe (by assumption) (by assumption) hie, show q = m - i by omega]) | exact row_gs' (sym_3 hfe (by assumption) (by assumption) hps hX1 hX2 (if_pos (by omega)).symm) | exact row_gs' (sym_3 hfe (by assumption) (by assumption) hps hX1 hX2 (if_neg (by omega)).symm))), rfl, rfl, trivial⟩
   ·refine awp_exit ?_
    refine hK9 _ ?_
    refine awp_ret ?_
    exact ⟨⟨[], [p0v us, v2v, r0v (symF key f D a m b), v3v, r1v L]⟩, Wk.sub trivial ⟨rfl, rfl, (by first | rfl | exact row_ns (by simp) | (first | exact row_gs' rfl | exact row_gs' (by rw [← sym_1 hfe (by assumption) hie, show q = i - 1 - a by omega]) | exact row_gs' (by rw [← sym_2 hfe (by assumption) (by assumption) hie, show q = m - i by omega]) | exact row_gs' (sym_3 hfe (by assumption) (by assumption) hps hX1 hX2 (if_pos (by omega)).symm) | exact row_gs' (sym_3 hfe (by assumption) (by assumption) hps hX1 hX2 (if_neg (by omega)).symm))), rfl, rfl, trivial⟩, ⟨[], trivial, rfl, fun id ob h => keep_pin h rfl, rfl⟩⟩
 ·refine awp_skip (hK0 _ (awp_seq fun K14 hK14 => awp_seq fun K15 hK15 => awp_region rfl (o_mv (Nv b) rfl (o_mv (Nv m) rfl ?_))))
  refine n_sub b m gn rfl rfl (by omega) (by simp only [topOf]; omega) ?_
  refine n_eql (b - m) 1 gn rfl rfl ?_
  refine aops_end (hK15 _ ?_)
  refine awp_condQ (q := (b - m) = 1) rfl (fun h5 => ?_) (fun h5 => ?_)
  ·refine awp_seq fun K16 hK16 => awp_region rfl (o_mv (Nv a) rfl (o_as (Nv a) rfl (aops_end (hK16 _ (awp_seq fun K17 hK17 => awp_region rfl (o_mv (Nv m) rfl (o_as (Nv m) rfl (aops_end (hK17 _ ?_)))))))))
   refine awp_seq fun K18 hK18 => ?_
   refine awp_block ?_
   refine awp_loopR (fun κ σ => ∃ (i : Nat), ∃ (j : Nat), (bsr (pB key D m) i j = bsr (pB key D m) a m) ∧ (a ≤ i ∧ i ≤ j ∧ j ≤ m) ∧ (j - i) = κ ∧ σ = ⟨[(0, .row 20), (1, Nv a), (2, Nv m), (3, Nv b), (4, .clo 42 [.ip [.clo kf []]]), (14, Nv i), (15, Nv j)], [p0v us, v2v, r0v D, v3v, r1v L]⟩) ⟨_, _, ⟨a, m, rfl, (by omega), rfl, rfl⟩, ?wk2⟩ ?rd2
   case wk2 =>
    exact Wk.sub ⟨rfl, rfl, rfl, rfl, rfl, (by first | rfl | exact nm_int (by omega)), (by first | rfl | exact nm_int (by omega)), trivial⟩ ⟨rfl, rfl, rfl, rfl, rfl, trivial⟩
   rintro κ _ ⟨i, j, hbs, hi, rfl, rfl⟩
   refine awp_seq fun K19 hK19 => awp_seq fun K20 hK20 => awp_region rfl (o_mv (Nv i) rfl (o_mv (Nv j) rfl ?_))
   refine n_lss i j gn rfl rfl ?_
   refine aops_end (hK20 _ ?_)
   refine awp_condQ (q := i < j) rfl (fun h6 => ?_) (fun h6 => ?_)
   ·refine awp_skip (hK19 _ ?_)
    refine awp_block ?_
    refine awp_seq fun K21 hK21 => awp_region rfl (o_mv (Nv i) rfl (o_mv (Nv j) rfl ?_))
    refine n_add i j gn rfl rfl (by simp only [topOf]; omega) ?_
    refine n_conv (i + j) gn rfl f22_ f81_ (by simp only [topOf]; omega) ?_
    refine n_shr1 (i + j) gn rfl rfl ?_
    refine n_conv ((i + j) / 2) gn rfl f81_ f22_ (by simp only [topOf]; omega) ?_
    refine o_as (Nv ((i + j) / 2)) rfl (aops_end (hK21 _ (awp_seq fun K22 hK22 => awp_regionD rfl (o_mv (.clo 42 [.ip [.clo kf []]]) rfl (o_mv (.row 20) rfl (o_mv (Nv m) rfl ?_))))))
    refine g_indexRow cL D m cL_len rfl gn f76_ rfl rfl rfl (by omega) ?_
    refine g_loadRowA cL D m default cL_len gn f75_ rfl rfl (by omega) ?_
    refine o_mv (.row 20) rfl (o_mv (Nv ((i + j) / 2)) rfl ?_)
    refine g_indexRow cL D ((i + j) / 2) cL_len rfl gn f76_ rfl rfl rfl (by omega) ?_
    refine g_loadRowA cL D ((i + j) / 2) default cL_len gn f75_ rfl rfl (by omega) ?_
    refine o_callG [] [.agg (cL (D.getD m default)), .agg (cL (D.getD ((i + j) / 2) default)), .ip [.clo kf []]] _ (Iv (cmpZ (key (D.getD m default)) (key (D.getD ((i + j) / 2) default)))) [p0v us, v2v, r0v D, v3v, r1v L] gn f77_ rfl trivial rfl rfl (LeL.cons (AV.le_refl _) (LeL.cons (AV.le_refl _) (LeL.cons (AV.le_refl _) LeL.nil))) (hkey (D.getD m default) (D.getD ((i + j) / 2) default)) rfl ?_
    refine o_lss (a := (cmpZ (key (D.getD m default)) (key (D.getD ((i + j) / 2) default)))) (c := ((0 : Nat) : Int)) gn rfl rfl ?_
    refine o_notP (q := (cmpZ (key (D.getD m default)) (key (D.getD ((i + j) / 2) default))) < ((0 : Nat) : Int)) gn rfl ?_
    refine aops_end ⟨by kernel_rfl, ?_⟩
    refine hK22 _ ?_
    refine awp_condQ (q := ¬ ((cmpZ (key (D.getD m default)) (key (D.getD ((i + j) / 2) default))) < ((0 : Nat) : Int))) rfl (fun h7 => ?_) (fun h7 => ?_)
    ·refine awp_region rfl (o_mv (Nv ((i + j) / 2)) rfl ?_)
     refine n_add ((i + j) / 2) 1 gn rfl rfl (by simp only [topOf]; omega) ?_
     refine o_as (Nv (((i + j) / 2) + 1)) rfl (aops_end ?_)
     refine ⟨_, _, ?lt, ⟨(i + j) / 2 + 1, j, (bs_up hbs (by assumption) (pB_y (by assumption))), (by omega), rfl, rfl⟩, ?wk⟩
     case lt => omega
     case wk => exact Wk.sub ⟨rfl, rfl, rfl, rfl, rfl, (by first | rfl | exact nm_int (by omega)), rfl, trivial⟩ ⟨rfl, rfl, rfl, rfl, rfl, trivial⟩
    ·refine awp_region rfl (o_mv (Nv ((i + j) / 2)) rfl (o_as (Nv ((i + j) / 2)) rfl (aops_end ?_)))
     refine ⟨_, _, ?lt, ⟨i, (i + j) / 2, (bs_dn hbs (by assumption) (pB_n (Decidable.not_not.1 (by assumption)))), (by omega), rfl, rfl⟩, ?wk⟩
     case lt => omega
     case wk => exact Wk.sub ⟨rfl, rfl, rfl, rfl, rfl, rfl, (by first | rfl | exact nm_int (by omega)), trivial⟩ ⟨rfl, rfl, rfl, rfl, rfl, trivial⟩
   ·refine awp_exit ?_
    refine hK18 _ (awp_seq fun K23 hK23 => awp_seq fun K24 hK24 => ?_)
    have hie := bs_end hbs (by assumption)
    refine awp_region rfl (o_mv (Nv m) rfl (o_as (Nv m) rfl (aops_end (hK24 _ ?_))))
    refine awp_block ?_
    refine awp_loopR (fun κ σ => ∃ (q : Nat), (q + i ≤ m) ∧ (m - q) = κ ∧ σ = ⟨[(0, .row 20), (1, Nv a), (2, Nv m), (3, Nv b), (4, .clo 42 [.ip [.clo kf []]]), (14, Nv i), (17, Nv (m - q))], [p0v us, v2v, r0v (mvL D m q), v3v, r1v L]⟩) ⟨_, _, ⟨0, (by omega), rfl, rfl⟩, ?wk3⟩ ?rd3
    case wk3 =>
     exact Wk.sub ⟨rfl, rfl, rfl, rfl, rfl, rfl, (by first | rfl | exact nm_int (by omega)), trivial⟩ ⟨rfl, rfl, (by first | rfl | exact row_ns (by simp) | (first | exact row_gs' rfl | exact row_gs' (by rw [← sym_1 hfe (by assumption) hie, show q = i - 1 - a by omega]) | exact row_gs' (by rw [← sym_2 hfe (by assumption) (by assumption) hie, show q = m - i by omega]) | exact row_gs' (sym_3 hfe (by assumption) (by assumption) hps hX1 hX2 (if_pos (by omega)).symm) | exact row_gs' (sym_3 hfe (by assumption) (by assumption) hps hX1 hX2 (if_neg (by omega)).symm))), rfl, rfl, trivial⟩
    rintro κ _ ⟨q, hq, rfl, rfl⟩
    have hXl := mvL_len D m q
    refine awp_seq fun K25 hK25 => awp_seq fun K26 hK26 => awp_region rfl (o_mv (Nv (m - q)) rfl (o_mv (Nv i) rfl ?_))
    refine n_gtr (m - q) i gn rfl rfl ?_
    refine aops_end (hK26 _ ?_)
    refine awp_condQ (q := i < (m - q)) rfl (fun h8 => ?_) (fun h8 => ?_)
    ·refine awp_skip (hK25 _ (awp_seq fun K27 hK27 => ?_))
     refine awp_block ?_
     refine awp_regionT rfl ?_
     refine o_mv (.row 20) rfl (o_mv (Nv (m - q)) rfl (o_mv (.row 20) rfl (o_mv (Nv (m - q)) rfl ?_)))
     refine n_sub (m - q) 1 gn rfl rfl (by omega) (by simp only [topOf]; omega) ?_
     refine o_mv (.row 20) rfl (o_mv (Nv (m - q)) rfl ?_)
     refine n_sub (m - q) 1 gn rfl rfl (by omega) (by simp only [topOf]; omega) ?_
     refine g_indexRow cL (mvL D m q) ((m - q) - 1) cL_len rfl gn f76_ rfl rfl rfl (by omega) ?_
     refine g_loadRowA cL (mvL D m q) ((m - q) - 1) default cL_len gn f75_ rfl rfl (by omega) ?_
     refine o_mv (.row 20) rfl (o_mv (Nv (m - q)) rfl ?_)
     refine g_indexRow cL (mvL D m q) (m - q) cL_len rfl gn f76_ rfl rfl rfl (by omega) ?_
     refine g_loadRowA cL (mvL D m q) (m - q) default cL_len gn f75_ rfl rfl (by omega) ?_
     refine g_indexRow cL (mvL D m q) (m - q) cL_len rfl gn f76_ rfl rfl rfl (by omega) ?_
     refine g_storeRow cL (mvL D m q) (m - q) ((mvL D m q).getD ((m - q) - 1) default) [p0v us, v2v, r0v ((mvL D m q).set (m - q) ((mvL D m q).getD ((m - q) - 1) default)), v3v, r1v L] cL_len cL_closed gn f74_ rfl rfl rfl (by first | omega | (simp only [List.length_set]; omega)) rfl ?_
     refine g_indexRow cL ((mvL D m q).set (m - q) ((mvL D m q).getD ((m - q) - 1) default)) ((m - q) - 1) cL_len rfl gn f76_ rfl rfl rfl (by simp only [List.length_set]; omega) ?_
     refine g_storeRow cL ((mvL D m q).set (m - q) ((mvL D m q).getD ((m - q) - 1) default)) ((m - q) - 1) ((mvL D m q).getD (m - q) default) [p0v us, v2v, r0v (((mvL D m q).set (m - q) ((mvL D m q).getD ((m - q) - 1) default)).set ((m - q) - 1) ((mvL D m q).getD (m - q) default)), v3v, r1v L] cL_len cL_closed gn f74_ rfl rfl rfl (by first | omega | (simp only [List.length_set]; omega)) rfl ?_
     refine aops_end ⟨by kernel_rfl, ?_⟩
     refine hK27 _ (awp_region rfl (o_mv (Nv (m - q)) rfl ?_))
     refine n_sub (m - q) 1 gn rfl rfl (by omega) (by simp only [topOf]; omega) ?_
     refine o_as (Nv ((m - q) - 1)) rfl (aops_end ?_)
     refine ⟨_, _, ?lt, ⟨q + 1, (by omega), rfl, rfl⟩, ?wk⟩
     case lt => omega
     case wk => exact Wk.sub ⟨rfl, rfl, rfl, rfl, rfl, rfl, (by first | rfl | exact nm_int (by omega)), trivial⟩ ⟨rfl, rfl, (by first | rfl | exact row_ns (by simp) | (first | exact row_gs' rfl | exact row_gs' (by rw [← sym_1 hfe (by assumption) hie, show q = i - 1 - a by omega]) | exact row_gs' (by rw [← sym_2 hfe (by assumption) (by assumption) hie, show q = m - i by omega]) | exact row_gs' (sym_3 hfe (by assumption) (by assumption) hps hX1 hX2 (if_pos (by omega)).symm) | exact row_gs' (sym_3 hfe (by assumption) (by assumption) hps hX1 hX2 (if_neg (by omega)).symm))), rfl, rfl, trivial⟩
    ·refine awp_exit ?_
     refine hK23 _ ?_
     refine awp_ret ?_
     exact ⟨⟨[], [p0v us, v2v, r0v (symF key f D a m b), v3v, r1v L]⟩, Wk.sub trivial ⟨rfl, rfl, (by first | rfl | exact row_ns (by simp) | (first | exact row_gs' rfl | exact row_gs' (by rw [← sym_1 hfe (by assumption) hie, show q = i - 1 - a by omega]) | exact row_gs' (by rw [← sym_2 hfe (by assumption) (by assumption) hie, show q = m - i by omega]) | exact row_gs' (sym_3 hfe (by assumption) (by assumption) hps hX1 hX2 (if_pos (by omega)).symm) | exact row_gs' (sym_3 hfe (by assumption) (by assumption) hps hX1 hX2 (if_neg (by omega)).symm))), rfl, rfl, trivial⟩, ⟨[], trivial, rfl, fun id ob h => keep_pin h rfl, rfl⟩⟩
  ·refine awp_skip (hK14 _ (awp_seq fun K28 hK28 => awp_region rfl (o_mv (Nv a) rfl (o_mv (Nv b) rfl ?_))))
   refine n_add a b gn rfl rfl (by simp only [topOf]; omega) ?_
   refine n_conv (a + b) gn rfl f22_ f81_ (by simp only [topOf]; omega) ?_
   refine n_shr1 (a + b) gn rfl rfl ?_
   refine n_conv ((a + b) / 2) gn rfl f81_ f22_ (by simp only [topOf]; omega) ?_
   refine o_as (Nv ((a + b) / 2)) rfl (aops_end (hK28 _ (awp_seq fun K29 hK29 => awp_region rfl (o_mv (Nv ((a + b) / 2)) rfl (o_mv (Nv m) rfl ?_)))))
   refine n_add ((a + b) / 2) m gn rfl rfl (by simp only [topOf]; omega) ?_
   refine o_as (Nv (((a + b) / 2) + m)) rfl (aops_end (hK29 _ (awp_seq fun K30 hK30 => awp_region rfl (o_as (Nv 0) rfl (o_as (Nv 0) rfl (aops_end (hK30 _ ?_)))))))
   refine awp_seqJ (J := fun σ => ∃ (p : Nat), ∃ (q : Nat), (bsr (pC key D ((((a + b) / 2) + m) - 1)) p q = symS key D a m b) ∧ (a ≤ p ∧ (((a + b) / 2) + m) ≤ p + b ∧ p ≤ q ∧ q ≤ m ∧ q ≤ ((a + b) / 2)) ∧ True ∧ σ = ⟨[(0, .row 20), (1, Nv a), (2, Nv m), (3, Nv b), (4, .clo 42 [.ip [.clo kf []]]), (18, Nv ((a + b) / 2)), (19, Nv (((a + b) / 2) + m)), (20, Nv p), (21, Nv q)], [p0v us, v2v, r0v D, v3v, r1v L]⟩) ?ja4 ?jb4
   case ja4 =>
    refine awp_seq fun K31 hK31 => awp_region rfl (o_mv (Nv m) rfl (o_mv (Nv ((a + b) / 2)) rfl ?_))
    refine n_gtr m ((a + b) / 2) gn rfl rfl ?_
    refine aops_end (hK31 _ ?_)
    refine awp_condQ (q := ((a + b) / 2) < m) rfl (fun h9 => ?_) (fun h9 => ?_)
    ·refine awp_seq fun K32 hK32 => awp_region rfl (o_mv (Nv (((a + b) / 2) + m)) rfl (o_mv (Nv b) rfl ?_))
     refine n_sub (((a + b) / 2) + m) b gn rfl rfl (by omega) (by simp only [topOf]; omega) ?_
     refine o_as (Nv ((((a + b) / 2) + m) - b)) rfl (aops_end (hK32 _ (awp_region rfl (o_mv (Nv ((a + b) / 2)) rfl (o_as (Nv ((a + b) / 2)) rfl (aops_end ?_))))))
     exact ⟨_, ⟨(((a + b) / 2) + m) - b, (a + b) / 2, (symS_lo (by assumption) rfl), (by omega), trivial, rfl⟩, Wk.sub ⟨rfl, rfl, rfl, rfl, rfl, (by first | rfl | exact nm_int (by omega)), (by first | rfl | exact nm_int (by omega)), (by first | rfl | exact nm_int (by omega)), (by first | rfl | exact nm_int (by omega)), trivial⟩ ⟨rfl, rfl, rfl, rfl, rfl, trivial⟩⟩
    ·refine awp_seq fun K33 hK33 => awp_region rfl (o_mv (Nv a) rfl (o_as (Nv a) rfl (aops_end (hK33 _ (awp_region rfl (o_mv (Nv m) rfl (o_as (Nv m) rfl (aops_end ?_))))))))
     exact ⟨_, ⟨a, m, (symS_hi (by assumption)), (by omega), trivial, rfl⟩, Wk.sub ⟨rfl, rfl, rfl, rfl, rfl, (by first | rfl | exact nm_int (by omega)), (by first | rfl | exact nm_int (by omega)), (by first | rfl | exact nm_int (by omega)), (by first | rfl | exact nm_int (by omega)), trivial⟩ ⟨rfl, rfl, rfl, rfl, rfl, trivial⟩⟩
   rintro _ ⟨p, q, hbs, hpq, -, rfl⟩
   refine awp_seq fun K34 hK34 => awp_region rfl (o_mv (Nv (((a + b) / 2) + m)) rfl ?_)
   refine n_sub (((a + b) / 2) + m) 1 gn rfl rfl (by omega) (by simp only [topOf]; omega) ?_
   refine o_as (Nv ((((a + b) / 2) + m) - 1)) rfl (aops_end (hK34 _ (awp_seq fun K35 hK35 => ?_)))
   refine awp_block ?_
   refine awp_loopR (fun κ σ => ∃ (p : Nat), ∃ (q : Nat), (bsr (pC key D ((((a + b) / 2) + m) - 1)) p q = symS key D a m b) ∧ (a ≤ p ∧ (((a + b) / 2) + m) ≤ p + b ∧ p ≤ q ∧ q ≤ m ∧ q ≤ ((a + b) / 2)) ∧ (q - p) = κ ∧ σ = ⟨[(0, .row 20), (1, Nv a), (2, Nv m), (3, Nv b), (4, .clo 42 [.ip [.clo kf []]]), (18, Nv ((a + b) / 2)), (19, Nv (((a + b) / 2) + m)), (22, Nv ((((a + b) / 2) + m) - 1)), (20, Nv p), (21, Nv q)], [p0v us, v2v, r0v D, v3v, r1v L]⟩) ⟨_, _, ⟨p, q, hbs, hpq, rfl, rfl⟩, ?wk5⟩ ?rd5
   case wk5 =>
    exact Wk.sub ⟨rfl, rfl, rfl, rfl, rfl, rfl, rfl, (by first | rfl | exact nm_int (by omega)), rfl, rfl, trivial⟩ ⟨rfl, rfl, rfl, rfl, rfl, trivial⟩
   rintro κ _ ⟨p, q, hbs, hpq, rfl, rfl⟩
   refine awp_seq fun K36 hK36 => awp_seq fun K37 hK37 => awp_region rfl (o_mv (Nv p) rfl (o_mv (Nv q) rfl ?_))
   refine n_lss p q gn rfl rfl ?_
   refine aops_end (hK37 _ ?_)
   refine awp_condQ (q := p < q) rfl (fun h10 => ?_) (fun h10 => ?_)
   ·refine awp_skip (hK36 _ ?_)
    refine awp_block ?_
    refine awp_seq fun K38 hK38 => awp_region rfl (o_mv (Nv p) rfl (o_mv (Nv q) rfl ?_))
    refine n_add p q gn rfl rfl (by simp only [topOf]; omega) ?_
    refine n_conv (p + q) gn rfl f22_ f81_ (by simp only [topOf]; omega) ?_
    refine n_shr1 (p + q) gn rfl rfl ?_
    refine n_conv ((p + q) / 2) gn rfl f81_ f22_ (by simp only [topOf]; omega) ?_
    refine o_as (Nv ((p + q) / 2)) rfl (aops_end (hK38 _ (awp_seq fun K39 hK39 => awp_regionD rfl (o_mv (.clo 42 [.ip [.clo kf []]]) rfl (o_mv (.row 20) rfl (o_mv (Nv ((((a + b) / 2) + m) - 1)) rfl (o_mv (Nv ((p + q) / 2)) rfl ?_)))))))
    refine n_sub ((((a + b) / 2) + m) - 1) ((p + q) / 2) gn rfl rfl (by omega) (by simp only [topOf]; omega) ?_
    refine g_indexRow cL D (((((a + b) / 2) + m) - 1) - ((p + q) / 2)) cL_len rfl gn f76_ rfl rfl rfl (by omega) ?_
    refine g_loadRowA cL D (((((a + b) / 2) + m) - 1) - ((p + q) / 2)) default cL_len gn f75_ rfl rfl (by omega) ?_
    refine o_mv (.row 20) rfl (o_mv (Nv ((p + q) / 2)) rfl ?_)
    refine g_indexRow cL D ((p + q) / 2) cL_len rfl gn f76_ rfl rfl rfl (by omega) ?_
    refine g_loadRowA cL D ((p + q) / 2) default cL_len gn f75_ rfl rfl (by omega) ?_
    refine o_callG [] [.agg (cL (D.getD (((((a + b) / 2) + m) - 1) - ((p + q) / 2)) default)), .agg (cL (D.getD ((p + q) / 2) default)), .ip [.clo kf []]] _ (Iv (cmpZ (key (D.getD (((((a + b) / 2) + m) - 1) - ((p + q) / 2)) default)) (key (D.getD ((p + q) / 2) default)))) [p0v us, v2v, r0v D, v3v, r1v L] gn f77_ rfl trivial rfl rfl (LeL.cons (AV.le_refl _) (LeL.cons (AV.le_refl _) (LeL.cons (AV.le_refl _) LeL.nil))) (hkey (D.getD (((((a + b) / 2) + m) - 1) - ((p + q) / 2)) default) (D.getD ((p + q) / 2) default)) rfl ?_
    refine o_lss (a := (cmpZ (key (D.getD (((((a + b) / 2) + m) - 1) - ((p + q) / 2)) default)) (key (D.getD ((p + q) / 2) default)))) (c := ((0 : Nat) : Int)) gn rfl rfl ?_
    refine o_notP (q := (cmpZ (key (D.getD (((((a + b) / 2) + m) - 1) - ((p + q) / 2)) default)) (key (D.getD ((p + q) / 2) default))) < ((0 : Nat) : Int)) gn rfl ?_
    refine aops_end ⟨by kernel_rfl, ?_⟩
    refine hK39 _ ?_
    refine awp_condQ (q := ¬ ((cmpZ (key (D.getD (((((a + b) / 2) + m) - 1) - ((p + q) / 2)) default)) (key (D.getD ((p + q) / 2) default))) < ((0 : Nat) : Int))) rfl (fun h11 => ?_) (fun h11 => ?_)
    ·refine awp_region rfl (o_mv (Nv ((p + q) / 2)) rfl ?_)
     refine n_add ((p + q) / 2) 1 gn rfl rfl (by simp only [topOf]; omega) ?_
     refine o_as (Nv (((p + q) / 2) + 1)) rfl (aops_end ?_)
     refine ⟨_, _, ?lt, ⟨(p + q) / 2 + 1, q, (bs_up hbs (by assumption) (pC_y (by assumption))), (by omega), rfl, rfl⟩, ?wk⟩
     case lt => omega
     case wk => exact Wk.sub ⟨rfl, rfl, rfl, rfl, rfl, rfl, rfl, rfl, (by first | rfl | exact nm_int (by omega)), rfl, trivial⟩ ⟨rfl, rfl, rfl, rfl, rfl, trivial⟩
    ·refine awp_region rfl (o_mv (Nv ((p + q) / 2)) rfl (o_as (Nv ((p + q) / 2)) rfl (aops_end ?_)))
     refine ⟨_, _, ?lt, ⟨p, (p + q) / 2, (bs_dn hbs (by assumption) (pC_n (Decidable.not_not.1 (by assumption)))), (by omega), rfl, rfl⟩, ?wk⟩
     case lt => omega
     case wk => exact Wk.sub ⟨rfl, rfl, rfl, rfl, rfl, rfl, rfl, rfl, rfl, (by first | rfl | exact nm_int (by omega)), trivial⟩ ⟨rfl, rfl, rfl, rfl, rfl, trivial⟩
   ·refine awp_exit ?_
    refine hK35 _ (awp_seq fun K40 hK40 => ?_)
    have hps := (bs_end hbs (by assumption)).symm
    refine awp_region rfl (o_mv (Nv (((a + b) / 2) + m)) rfl (o_mv (Nv p) rfl ?_))
    refine n_sub (((a + b) / 2) + m) p gn rfl rfl (by omega) (by simp only [topOf]; omega) ?_
    refine o_as (Nv ((((a + b) / 2) + m) - p)) rfl (aops_end (hK40 _ ?_))
    refine awp_seqJ (J := fun σ => ∃ (X1 : List Fal), (X1 = if p < m ∧ m < (((a + b) / 2) + m - p) then rotF (m - p + ((((a + b) / 2) + m - p) - m)) D m (m - p) ((((a + b) / 2) + m - p) - m) else D) ∧ (X1.length = D.length) ∧ True ∧ σ = ⟨[(0, .row 20), (1, Nv a), (2, Nv m), (3, Nv b), (4, .clo 42 [.ip [.clo kf []]]), (18, Nv ((a + b) / 2)), (20, Nv p), (24, Nv (((a + b) / 2) + m - p))], [p0v us, v2v, r0v X1, v3v, r1v L]⟩) ?ja6 ?jb6
    case ja6 =>
     refine awp_seq fun K41 hK41 => awp_region rfl (o_mv (Nv p) rfl (o_mv (Nv m) rfl ?_))
     refine n_lss p m gn rfl rfl ?_
     refine o_mv (bp (p < m)) rfl ?_
     refine o_splitP (q := p < m) 181 rfl (fun h12 => ?_) (fun h12 => ?_)
     ·refine o_move (Nv m) (Gd.yes rfl rfl (decide_eq_true h12)) rfl (o_move (Nv ((((a + b) / 2) + m) - p)) (Gd.yes rfl rfl (decide_eq_true h12)) rfl ?_)
      refine n_lss m ((((a + b) / 2) + m) - p) (Gd.yes rfl rfl (decide_eq_true h12)) rfl rfl ?_
      refine o_pickT (bp (m < ((((a + b) / 2) + m) - p))) gn rfl (decide_eq_true h12) rfl ?_
      refine aops_end (hK41 _ ?_)
      refine awp_condQ (q := m < ((((a + b) / 2) + m) - p)) rfl (fun h13 => ?_) (fun h13 => ?_)
      ·refine awp_regionSW 5 191 _ 72 [] _ _ _ _ _ [.row 20, Nv p, Nv m, Nv ((((a + b) / 2) + m) - p), .clo 42 [.ip [.clo kf []]]] (.tup []) [v2v, r0v (rotF (m - p + ((((a + b) / 2) + m - p) - m)) D m (m - p) ((((a + b) / 2) + m - p) - m)), v3v, r1v L, p0v us] rfl rfl rfl f82_ ?_
       refine o_mv (.row 20) rfl (o_mv (Nv p) rfl (o_mv (Nv m) rfl (o_mv (Nv ((((a + b) / 2) + m) - p)) rfl (o_mv (.clo 42 [.ip [.clo kf []]]) rfl ?_))))
       refine aops_end ⟨_, Wk.sub (σ' := ⟨[(0, .row 20), (1, Nv a), (2, Nv m), (3, Nv b), (4, .clo 42 [.ip [.clo kf []]]), (18, Nv ((a + b) / 2)), (19, Nv (((a + b) / 2) + m)), (22, Nv ((((a + b) / 2) + m) - 1)), (20, Nv p), (21, Nv q), (149, Nv p), (150, Nv q), (151, bp (p < q)), (175, Nv (((a + b) / 2) + m)), (176, Nv p), (177, Nv ((((a + b) / 2) + m) - p)), (24, Nv ((((a + b) / 2) + m) - p)), (178, Nv p), (179, Nv m), (180, bp (p < m)), (181, bp (p < m)), (182, Nv m), (183, Nv ((((a + b) / 2) + m) - p)), (184, bp (m < ((((a + b) / 2) + m) - p))), (185, bp (m < ((((a + b) / 2) + m) - p))), (186, .row 20), (187, Nv p), (188, Nv m), (189, Nv ((((a + b) / 2) + m) - p)), (190, .clo 42 [.ip [.clo kf []]])], [v2v, r0v D, v3v, r1v L, p0v us]⟩) ⟨rfl, rfl, rfl, rfl, rfl, rfl, rfl, rfl, rfl, rfl, rfl, rfl, rfl, rfl, rfl, rfl, rfl, rfl, rfl, rfl, rfl, rfl, rfl, rfl, rfl, rfl, rfl, rfl, rfl, rfl, trivial⟩ ⟨rfl, rfl, rfl, rfl, rfl, trivial⟩, rfl, rfl, scalls_of_r (K := [2, 3, 20]) (m := [v2v, r0v D, v3v, r1v L]) (m' := [v2v, r0v (rotF (m - p + ((((a + b) / 2) + m - p) - m)) D m (m - p) ((((a + b) / 2) + m - p) - m)), v3v, r1v L]) (e := [p0v us]) (c_rotf kf key hkey D L p m (((a + b) / 2) + m - p) (by omega) (by omega) (by omega) hD) rfl rfl, ?_⟩
       exact ⟨_, ⟨rotF (m - p + ((((a + b) / 2) + m - p) - m)) D m (m - p) ((((a + b) / 2) + m - p) - m), (if_pos (by omega)).symm, rot_len _ _ _ _ _, trivial, rfl⟩, Wk.sub ⟨rfl, rfl, rfl, rfl, rfl, rfl, rfl, (by first | rfl | exact nm_int (by omega)), trivial⟩ ⟨rfl, rfl, (by first | rfl | exact row_ns (by simp) | (first | exact row_gs' rfl | exact row_gs' (by rw [← sym_1 hfe (by assumption) hie, show q = i - 1 - a by omega]) | exact row_gs' (by rw [← sym_2 hfe (by assumption) (by assumption) hie, show q = m - i by omega]) | exact row_gs' (sym_3 hfe (by assumption) (by assumption) hps hX1 hX2 (if_pos (by omega)).symm) | exact row_gs' (sym_3 hfe (by assumption) (by assumption) hps hX1 hX2 (if_neg (by omega)).symm))), rfl, rfl, trivial⟩⟩
      ·refine awp_skip ?_
       exact ⟨_, ⟨D, (if_neg (by omega)).symm, rfl, trivial, rfl⟩, Wk.sub ⟨rfl, rfl, rfl, rfl, rfl, rfl, rfl, (by first | rfl | exact nm_int (by omega)), trivial⟩ ⟨rfl, rfl, (by first | rfl | exact row_ns (by simp) | (first | exact row_gs' rfl | exact row_gs' (by rw [← sym_1 hfe (by assumption) hie, show q = i - 1 - a by omega]) | exact row_gs' (by rw [← sym_2 hfe (by assumption) (by assumption) hie, show q = m - i by omega]) | exact row_gs' (sym_3 hfe (by assumption) (by assumption) hps hX1 hX2 (if_pos (by omega)).symm) | exact row_gs' (sym_3 hfe (by assumption) (by assumption) hps hX1 hX2 (if_neg (by omega)).symm))), rfl, rfl, trivial⟩⟩
     ·refine o_skip rfl rfl (decide_eq_false h12) (o_skip rfl rfl (decide_eq_false h12) (o_skip rfl rfl (decide_eq_false h12) ?_))
      refine o_pickF Fv gn rfl (decide_eq_false h12) rfl ?_
      refine aops_end (hK41 _ ?_)
      refine awp_condB (b := false) rfl (fun hh => absurd (hh.symm.trans rfl) (by decide)) (fun _ => ?_)
      refine awp_skip ?_
      exact ⟨_, ⟨D, (if_neg (by omega)).symm, rfl, trivial, rfl⟩, Wk.sub ⟨rfl, rfl, rfl, rfl, rfl, rfl, rfl, (by first | rfl | exact nm_int (by omega)), trivial⟩ ⟨rfl, rfl, (by first | rfl | exact row_ns (by simp) | (first | exact row_gs' rfl | exact row_gs' (by rw [← sym_1 hfe (by assumption) hie, show q = i - 1 - a by omega]) | exact row_gs' (by rw [← sym_2 hfe (by assumption) (by assumption) hie, show q = m - i by omega]) | exact row_gs' (sym_3 hfe (by assumption) (by assumption) hps hX1 hX2 (if_pos (by omega)).symm) | exact row_gs' (sym_3 hfe (by assumption) (by assumption) hps hX1 hX2 (if_neg (by omega)).symm))), rfl, rfl, trivial⟩⟩
    rintro _ ⟨X1, hX1, hl1, -, rfl⟩
    refine awp_seqJ (J := fun σ => ∃ (X2 : List Fal), (X2 = if a < p ∧ p < ((a + b) / 2) then symF key e X1 a p ((a + b) / 2) else X1) ∧ (X2.length = D.length) ∧ True ∧ σ = ⟨[(0, .row 20), (1, Nv a), (2, Nv m), (3, Nv b), (4, .clo 42 [.ip [.clo kf []]]), (18, Nv ((a + b) / 2)), (20, Nv p), (24, Nv (((a + b) / 2) + m - p))], [p0v us, v2v, r0v X2, v3v, r1v L]⟩) ?ja7 ?jb7
    case ja7 =>
     refine awp_seq fun K42 hK42 => awp_region rfl (o_mv (Nv a) rfl (o_mv (Nv p) rfl ?_))
     refine n_lss a p gn rfl rfl ?_
     refine o_mv (bp (a < p)) rfl ?_
     refine o_splitP (q := a < p) 195 rfl (fun h14 => ?_) (fun h14 => ?_)
     ·refine o_move (Nv p) (Gd.yes rfl rfl (decide_eq_true h14)) rfl (o_move (Nv ((a + b) / 2)) (Gd.yes rfl rfl (decide_eq_true h14)) rfl ?_)
      refine n_lss p ((a + b) / 2) (Gd.yes rfl rfl (decide_eq_true h14)) rfl rfl ?_
      refine o_pickT (bp (p < ((a + b) / 2))) gn rfl (decide_eq_true h14) rfl ?_
      refine aops_end (hK42 _ ?_)
      refine awp_condQ (q := p < ((a + b) / 2)) rfl (fun h15 => ?_) (fun h15 => ?_)
      ·refine awp_regionSW 5 205 _ 61 [] _ _ _ _ _ [.row 20, Nv a, Nv p, Nv ((a + b) / 2), .clo 42 [.ip [.clo kf []]]] (.tup []) [v2v, r0v (symF key e X1 a p ((a + b) / 2)), v3v, r1v L, p0v us] rfl rfl rfl f83_ ?_
       refine o_mv (.row 20) rfl (o_mv (Nv a) rfl (o_mv (Nv p) rfl (o_mv (Nv ((a + b) / 2)) rfl (o_mv (.clo 42 [.ip [.clo kf []]]) rfl ?_))))
       refine aops_end ⟨_, Wk.sub (σ' := ⟨[(0, .row 20), (1, Nv a), (2, Nv m), (3, Nv b), (4, .clo 42 [.ip [.clo kf []]]), (18, Nv ((a + b) / 2)), (20, Nv p), (24, Nv (((a + b) / 2) + m - p)), (192, Nv a), (193, Nv p), (194, bp (a < p)), (195, bp (a < p)), (196, Nv p), (197, Nv ((a + b) / 2)), (198, bp (p < ((a + b) / 2))), (199, bp (p < ((a + b) / 2))), (200, .row 20), (201, Nv a), (202, Nv p), (203, Nv ((a + b) / 2)), (204, .clo 42 [.ip [.clo kf []]])], [v2v, r0v X1, v3v, r1v L, p0v us]⟩) ⟨rfl, rfl, rfl, rfl, rfl, rfl, rfl, rfl, rfl, rfl, rfl, rfl, rfl, rfl, rfl, rfl, rfl, rfl, rfl, rfl, rfl, trivial⟩ ⟨rfl, rfl, rfl, rfl, rfl, trivial⟩, rfl, rfl, scalls_of_r (K := [2, 3, 20]) (m := [v2v, r0v X1, v3v, r1v L]) (m' := [v2v, r0v (symF key e X1 a p ((a + b) / 2)), v3v, r1v L]) (e := [p0v us]) (ih e (by omega) X1 a p ((a + b) / 2) (by omega) (by omega) (by omega) (by omega) (by omega)) rfl rfl, ?_⟩
       exact ⟨_, ⟨symF key e X1 a p ((a + b) / 2), (if_pos (by omega)).symm, (sym_len key _ _ _ _ _).trans hl1, trivial, rfl⟩, Wk.sub ⟨rfl, rfl, rfl, rfl, rfl, rfl, rfl, rfl, trivial⟩ ⟨rfl, rfl, (by first | rfl | exact row_ns (by simp) | (first | exact row_gs' rfl | exact row_gs' (by rw [← sym_1 hfe (by assumption) hie, show q = i - 1 - a by omega]) | exact row_gs' (by rw [← sym_2 hfe (by assumption) (by assumption) hie, show q = m - i by omega]) | exact row_gs' (sym_3 hfe (by assumption) (by assumption) hps hX1 hX2 (if_pos (by omega)).symm) | exact row_gs' (sym_3 hfe (by assumption) (by assumption) hps hX1 hX2 (if_neg (by omega)).symm))), rfl, rfl, trivial⟩⟩
      ·refine awp_skip ?_
       exact ⟨_, ⟨X1, (if_neg (by omega)).symm, hl1, trivial, rfl⟩, Wk.sub ⟨rfl, rfl, rfl, rfl, rfl, rfl, rfl, rfl, trivial⟩ ⟨rfl, rfl, (by first | rfl | exact row_ns (by simp) | (first | exact row_gs' rfl | exact row_gs' (by rw [← sym_1 hfe (by assumption) hie, show q = i - 1 - a by omega]) | exact row_gs' (by rw [← sym_2 hfe (by assumption) (by assumption) hie, show q = m - i by omega]) | exact row_gs' (sym_3 hfe (by assumption) (by assumption) hps hX1 hX2 (if_pos (by omega)).symm) | exact row_gs' (sym_3 hfe (by assumption) (by assumption) hps hX1 hX2 (if_neg (by omega)).symm))), rfl, rfl, trivial⟩⟩
     ·refine o_skip rfl rfl (decide_eq_false h14) (o_skip rfl rfl (decide_eq_false h14) (o_skip rfl rfl (decide_eq_false h14) ?_))
      refine o_pickF Fv gn rfl (decide_eq_false h14) rfl ?_
      refine aops_end (hK42 _ ?_)
      refine awp_condB (b := false) rfl (fun hh => absurd (hh.symm.trans rfl) (by decide)) (fun _ => ?_)
      refine awp_skip ?_
      exact ⟨_, ⟨X1, (if_neg (by omega)).symm, hl1, trivial, rfl⟩, Wk.sub ⟨rfl, rfl, rfl, rfl, rfl, rfl, rfl, rfl, trivial⟩ ⟨rfl, rfl, (by first | rfl | exact row_ns (by simp) | (first | exact row_gs' rfl | exact row_gs' (by rw [← sym_1 hfe (by assumption) hie, show q = i - 1 - a by omega]) | exact row_gs' (by rw [← sym_2 hfe (by assumption) (by assumption) hie, show q = m - i by omega]) | exact row_gs' (sym_3 hfe (by assumption) (by assumption) hps hX1 hX2 (if_pos (by omega)).symm) | exact row_gs' (sym_3 hfe (by assumption) (by assumption) hps hX1 hX2 (if_neg (by omega)).symm))), rfl, rfl, trivial⟩⟩
    rintro _ ⟨X2, hX2, hl2, -, rfl⟩
    refine awp_seq fun K43 hK43 => awp_region rfl (o_mv (Nv ((a + b) / 2)) rfl (o_mv (Nv (((a + b) / 2) + m - p)) rfl ?_))
    refine n_lss ((a + b) / 2) (((a + b) / 2) + m - p) gn rfl rfl ?_
    refine o_mv (bp (((a + b) / 2) < (((a + b) / 2) + m - p))) rfl ?_
    refine o_splitP (q := ((a + b) / 2) < (((a + b) / 2) + m - p)) 209 rfl (fun h16 => ?_) (fun h16 => ?_)
    ·refine o_move (Nv (((a + b) / 2) + m - p)) (Gd.yes rfl rfl (decide_eq_true h16)) rfl (o_move (Nv b) (Gd.yes rfl rfl (decide_eq_true h16)) rfl ?_)
     refine n_lss (((a + b) / 2) + m - p) b (Gd.yes rfl rfl (decide_eq_true h16)) rfl rfl ?_
     refine o_pickT (bp ((((a + b) / 2) + m - p) < b)) gn rfl (decide_eq_true h16) rfl ?_
     refine aops_end (hK43 _ ?_)
     refine awp_condQ (q := (((a + b) / 2) + m - p) < b) rfl (fun h17 => ?_) (fun h17 => ?_)
     ·refine awp_regionSW 5 219 _ 61 [] _ _ _ _ _ [.row 20, Nv ((a + b) / 2), Nv (((a + b) / 2) + m - p), Nv b, .clo 42 [.ip [.clo kf []]]] (.tup []) [v2v, r0v (symF key e X2 ((a + b) / 2) (((a + b) / 2) + m - p) b), v3v, r1v L, p0v us] rfl rfl rfl f83_ ?_
      refine o_mv (.row 20) rfl (o_mv (Nv ((a + b) / 2)) rfl (o_mv (Nv (((a + b) / 2) + m - p)) rfl (o_mv (Nv b) rfl (o_mv (.clo 42 [.ip [.clo kf []]]) rfl ?_))))
      refine aops_end ⟨_, Wk.sub (σ' := ⟨[(0, .row 20), (1, Nv a), (2, Nv m), (3, Nv b), (4, .clo 42 [.ip [.clo kf []]]), (18, Nv ((a + b) / 2)), (20, Nv p), (24, Nv (((a + b) / 2) + m - p)), (206, Nv ((a + b) / 2)), (207, Nv (((a + b) / 2) + m - p)), (208, bp (((a + b) / 2) < (((a + b) / 2) + m - p))), (209, bp (((a + b) / 2) < (((a + b) / 2) + m - p))), (210, Nv (((a + b) / 2) + m - p)), (211, Nv b), (212, bp ((((a + b) / 2) + m - p) < b)), (213, bp ((((a + b) / 2) + m - p) < b)), (214, .row 20), (215, Nv ((a + b) / 2)), (216, Nv (((a + b) / 2) + m - p)), (217, Nv b), (218, .clo 42 [.ip [.clo kf []]])], [v2v, r0v X2, v3v, r1v L, p0v us]⟩) ⟨rfl, rfl, rfl, rfl, rfl, rfl, rfl, rfl, rfl, rfl, rfl, rfl, rfl, rfl, rfl, rfl, rfl, rfl, rfl, rfl, rfl, trivial⟩ ⟨rfl, rfl, rfl, rfl, rfl, trivial⟩, rfl, rfl, scalls_of_r (K := [2, 3, 20]) (m := [v2v, r0v X2, v3v, r1v L]) (m' := [v2v, r0v (symF key e X2 ((a + b) / 2) (((a + b) / 2) + m - p) b), v3v, r1v L]) (e := [p0v us]) (ih e (by omega) X2 ((a + b) / 2) (((a + b) / 2) + m - p) b (by omega) (by omega) (by omega) (by omega) (by omega)) rfl rfl, ?_⟩
      exact ⟨⟨[], [p0v us, v2v, r0v (symF key f D a m b), v3v, r1v L]⟩, Wk.sub trivial ⟨rfl, rfl, (by first | rfl | exact row_ns (by simp) | (first | exact row_gs' rfl | exact row_gs' (by rw [← sym_1 hfe (by assumption) hie, show q = i - 1 - a by omega]) | exact row_gs' (by rw [← sym_2 hfe (by assumption) (by assumption) hie, show q = m - i by omega]) | exact row_gs' (sym_3 hfe (by assumption) (by assumption) hps hX1 hX2 (if_pos (by omega)).symm) | exact row_gs' (sym_3 hfe (by assumption) (by assumption) hps hX1 hX2 (if_neg (by omega)).symm))), rfl, rfl, trivial⟩, ⟨[], trivial, rfl, fun id ob h => keep_pin h rfl, rfl⟩⟩
     ·refine awp_skip ?_
      exact ⟨⟨[], [p0v us, v2v, r0v (symF key f D a m b), v3v, r1v L]⟩, Wk.sub trivial ⟨rfl, rfl, (by first | rfl | exact row_ns (by simp) | (first | exact row_gs' rfl | exact row_gs' (by rw [← sym_1 hfe (by assumption) hie, show q = i - 1 - a by omega]) | exact row_gs' (by rw [← sym_2 hfe (by assumption) (by assumption) hie, show q = m - i by omega]) | exact row_gs' (sym_3 hfe (by assumption) (by assumption) hps hX1 hX2 (if_pos (by omega)).symm) | exact row_gs' (sym_3 hfe (by assumption) (by assumption) hps hX1 hX2 (if_neg (by omega)).symm))), rfl, rfl, trivial⟩, ⟨[], trivial, rfl, fun id ob h => keep_pin h rfl, rfl⟩⟩
    ·refine o_skip rfl rfl (decide_eq_false h16) (o_skip rfl rfl (decide_eq_false h16) (o_skip rfl rfl (decide_eq_false h16) ?_))
     refine o_pickF Fv gn rfl (decide_eq_false h16) rfl ?_
     refine aops_end (hK43 _ ?_)
     refine awp_condB (b := false) rfl (fun hh => absurd (hh.symm.trans rfl) (by decide)) (fun _ => ?_)
     refine awp_skip ?_
     exact ⟨⟨[], [p0v us, v2v, r0v (symF key f D a m b), v3v, r1v L]⟩, Wk.sub trivial ⟨rfl, rfl, (by first | rfl | exact row_ns (by simp) | (first | exact row_gs' rfl | exact row_gs' (by rw [← sym_1 hfe (by assumption) hie, show q = i - 1 - a by omega]) | exact row_gs' (by rw [← sym_2 hfe (by assumption) (by assumption) hie, show q = m - i by omega]) | exact row_gs' (sym_3 hfe (by assumption) (by assumption) hps hX1 hX2 (if_pos (by omega)).symm) | exact row_gs' (sym_3 hfe (by assumption) (by assumption) hps hX1 hX2 (if_neg (by omega)).symm))), rfl, rfl, trivial⟩, ⟨[], trivial, rfl, fun id ob h => keep_pin h rfl, rfl⟩⟩

theorem c_swpi (kf : Nat) (key : Int → Int) (hkey : ∀ x y : Int, ECalls cx 45 [.lit (.int .i64 x), .lit (.int .i64 y), .ip [.clo kf []]] (.lit (.int .i64 (cmpZ (key x) (key y))))) (D : List Int) (F : List Fal) (a b n : Nat) (ha : a + n ≤ D.length) (hb : b + n ≤ D.length) (hD : D.length ≤ 1000000) :
  RCalls cx 82 [.row 21, Nv a, Nv b, Nv n, .clo 45 [.ip [.clo kf []]]] [2, 3, 21] [v2v, r0v F, v3v, r1v D] (.tup []) [v2v, r0v F, v3v, r1v (swr D a b n)] := by
 refine rcalls_of_x (X := [(2, false), (3, false), (21, true)]) (scalls_of_awpB 9009 Tryd.func82 (c := _) rfl (Nat.le_of_ble_eq_true rfl) rfl rfl rfl (fun us => ?_)) rfl
 refine awp_late ?_
 show awp cx 38 _ (lateQ cx 38 (postS cx Tryd.f82 (.tup []) [v2v, r0v F, v3v, r1v (swr D a b n)] 9009 [.ref 2 0, .ref 3 0, .row 21] us)) ⟨[(0, .row 21), (1, Nv a), (2, Nv b), (3, Nv n), (4, .clo 45 [.ip [.clo kf []]])], [p1v us, v2v, r0v F, v3v, r1v D]⟩
 refine awp_seq fun K0 hK0 => awp_region rfl (o_as (Nv 0) rfl (aops_end (hK0 _ ?_)))
 refine awp_block ?_
 refine awp_loopR (fun κ σ => ∃ (i : Nat), (i ≤ n) ∧ (n - i) = κ ∧ σ = ⟨[(0, .row 21), (1, Nv a), (2, Nv b), (3, Nv n), (4, .clo 45 [.ip [.clo kf []]]), (10, Nv i)], [p1v us, v2v, r0v F, v3v, r1v (swr D a b i)]⟩) ⟨_, _, ⟨0, (by omega), rfl, rfl⟩, ?wk0⟩ ?rd0
 case wk0 =>
  exact Wk.sub ⟨rfl, rfl, rfl, rfl, rfl, (by first | rfl | exact nm_int (by omega)), trivial⟩ ⟨rfl, rfl, rfl, rfl, (by first | rfl | exact row_ns (by simp) | (first | exact row_is rfl | exact row_is (by rw [show i = n by omega]))), trivial⟩
 rintro κ _ ⟨i, hi, rfl, rfl⟩
 have hXl := swr_len D a b i
 refine awp_seq fun K1 hK1 => awp_seq fun K2 hK2 => awp_region rfl (o_mv (Nv i) rfl (o_mv (Nv n) rfl ?_))
 refine n_lss i n gn rfl rfl ?_
 refine aops_end (hK2 _ ?_)
 refine awp_condQ (q := i < n) rfl (fun h1 => ?_) (fun h1 => ?_)
 ·refine awp_skip (hK1 _ (awp_seq fun K3 hK3 => ?_))
  refine awp_block ?_
  refine awp_regionT rfl ?_
  refine o_mv (.row 21) rfl (o_mv (Nv a) rfl (o_mv (Nv i) rfl ?_))
  refine n_add a i gn rfl rfl (by simp only [topOf]; omega) ?_
  refine o_mv (.row 21) rfl (o_mv (Nv b) rfl (o_mv (Nv i) rfl ?_))
  refine n_add b i gn rfl rfl (by simp only [topOf]; omega) ?_
  refine o_mv (.row 21) rfl (o_mv (Nv b) rfl (o_mv (Nv i) rfl ?_))
  refine n_add b i gn rfl rfl (by simp only [topOf]; omega) ?_
  refine i_indexRow (swr D a b i) (b + i) gn f38_ rfl rfl rfl (by omega) ?_
  refine i_loadRow (swr D a b i) (b + i) gn f39_ rfl rfl (by omega) ?_
  refine o_mv (.row 21) rfl (o_mv (Nv a) rfl (o_mv (Nv i) rfl ?_))
  refine n_add a i gn rfl rfl (by simp only [topOf]; omega) ?_
  refine i_indexRow (swr D a b i) (a + i) gn f38_ rfl rfl rfl (by omega) ?_
  refine i_loadRow (swr D a b i) (a + i) gn f39_ rfl rfl (by omega) ?_
  refine i_indexRow (swr D a b i) (a + i) gn f38_ rfl rfl rfl (by omega) ?_
  refine i_storeRow (swr D a b i) (a + i) ((swr D a b i).getD (b + i) 0) [p1v us, v2v, r0v F, v3v, r1v ((swr D a b i).set (a + i) ((swr D a b i).getD (b + i) 0))] gn f79_ rfl rfl rfl (by first | omega | (simp only [List.length_set]; omega)) rfl ?_
  refine i_indexRow ((swr D a b i).set (a + i) ((swr D a b i).getD (b + i) 0)) (b + i) gn f38_ rfl rfl rfl (by simp only [List.length_set]; omega) ?_
  refine i_storeRow ((swr D a b i).set (a + i) ((swr D a b i).getD (b + i) 0)) (b + i) ((swr D a b i).getD (a + i) 0) [p1v us, v2v, r0v F, v3v, r1v (((swr D a b i).set (a + i) ((swr D a b i).getD (b + i) 0)).set (b + i) ((swr D a b i).getD (a + i) 0))] gn f79_ rfl rfl rfl (by first | omega | (simp only [List.length_set]; omega)) rfl ?_
  refine aops_end ⟨by kernel_rfl, ?_⟩
  refine hK3 _ (awp_region rfl (o_mv (Nv i) rfl ?_))
  refine n_add i 1 gn rfl rfl (by simp only [topOf]; omega) ?_
  refine o_as (Nv (i + 1)) rfl (aops_end ?_)
  refine ⟨_, _, ?lt, ⟨i + 1, (by omega), rfl, rfl⟩, ?wk⟩
  case lt => omega
  case wk => exact Wk.sub ⟨rfl, rfl, rfl, rfl, rfl, (by first | rfl | exact nm_int (by omega)), trivial⟩ ⟨rfl, rfl, rfl, rfl, (by first | rfl | exact row_ns (by simp) | (first | exact row_is rfl | exact row_is (by rw [show i = n by omega]))), trivial⟩
 ·refine awp_exit ?_
  exact ⟨⟨[], [p1v us, v2v, r0v F, v3v, r1v (swr D a b n)]⟩, Wk.sub trivial ⟨rfl, rfl, rfl, rfl, (by first | rfl | exact row_ns (by simp) | (first | exact row_is rfl | exact row_is (by rw [show i = n by omega]))), trivial⟩, ⟨[], trivial, rfl, fun id ob h => keep_pin h rfl, rfl⟩⟩

theorem c_roti (kf : Nat) (key : Int → Int) (hkey : ∀ x y : Int, ECalls cx 45 [.lit (.int .i64 x), .lit (.int .i64 y), .ip [.clo kf []]] (.lit (.int .i64 (cmpZ (key x) (key y))))) (D : List Int) (F : List Fal) (a m b : Nat) (ham : a < m) (hmb : m < b) (hb : b ≤ D.length) (hD : D.length ≤ 1000000) :
  RCalls cx 73 [.row 21, Nv a, Nv m, Nv b, .clo 45 [.ip [.clo kf []]]] [2, 3, 21] [v2v, r0v F, v3v, r1v D] (.tup []) [v2v, r0v F, v3v, r1v (rotF (m - a + (b - m)) D m (m - a) (b - m))] := by
 refine rcalls_of_x (X := [(2, false), (3, false), (21, true)]) (scalls_of_awpB 9009 Tryd.func73 (c := _) rfl (Nat.le_of_ble_eq_true rfl) rfl rfl rfl (fun us => ?_)) rfl
 refine awp_late ?_
 show awp cx 58 _ (lateQ cx 58 (postS cx Tryd.f73 (.tup []) [v2v, r0v F, v3v, r1v (rotF (m - a + (b - m)) D m (m - a) (b - m))] 9009 [.ref 2 0, .ref 3 0, .row 21] us)) ⟨[(0, .row 21), (1, Nv a), (2, Nv m), (3, Nv b), (4, .clo 45 [.ip [.clo kf []]])], [p1v us, v2v, r0v F, v3v, r1v D]⟩
 refine awp_seq fun K0 hK0 => awp_region rfl (o_mv (Nv m) rfl (o_mv (Nv a) rfl ?_))
 refine n_sub m a gn rfl rfl (by omega) (by simp only [topOf]; omega) ?_
 refine o_as (Nv (m - a)) rfl (aops_end (hK0 _ (awp_seq fun K1 hK1 => awp_region rfl (o_mv (Nv b) rfl (o_mv (Nv m) rfl ?_)))))
 refine n_sub b m gn rfl rfl (by omega) (by simp only [topOf]; omega) ?_
 refine o_as (Nv (b - m)) rfl (aops_end (hK1 _ (awp_seq fun K2 hK2 => ?_)))
 refine awp_block ?_
 refine awp_loopR (fun κ σ => ∃ (f : Nat), ∃ (i : Nat), ∃ (j : Nat), ∃ (X : List Int), (rotF f X m i j = rotF (m - a + (b - m)) D m (m - a) (b - m)) ∧ (X.length = D.length) ∧ (i + j ≤ f) ∧ (0 < i ∧ i ≤ m - a) ∧ (0 < j ∧ j ≤ b - m) ∧ (i + j) = κ ∧ σ = ⟨[(0, .row 21), (2, Nv m), (4, .clo 45 [.ip [.clo kf []]]), (10, Nv i), (11, Nv j)], [p1v us, v2v, r0v F, v3v, r1v X]⟩) ⟨_, _, ⟨m - a + (b - m), m - a, b - m, D, rfl, rfl, (by omega), (by omega), (by omega), rfl, rfl⟩, ?wk0⟩ ?rd0
 case wk0 =>
  exact Wk.sub ⟨rfl, rfl, rfl, (by first | rfl | exact nm_int (by omega)), (by first | rfl | exact nm_int (by omega)), trivial⟩ ⟨rfl, rfl, rfl, rfl, (by first | rfl | exact row_ns (by simp) | (first | exact row_is rfl | exact row_is ((rotF_eq (by omega) (by omega)).trans hR))), trivial⟩
 rintro κ _ ⟨f, i, j, X, hR, hl, hf, hi, hj, rfl, rfl⟩
 refine awp_seq fun K3 hK3 => awp_seq fun K4 hK4 => awp_region rfl (o_mv (Nv i) rfl (o_mv (Nv j) rfl ?_))
 refine n_neq i j gn rfl rfl ?_
 refine aops_end (hK4 _ ?_)
 refine awp_condQ (q := i ≠ j) rfl (fun h1 => ?_) (fun h1 => ?_)
 ·refine awp_skip (hK3 _ ?_)
  refine awp_block ?_
  refine awp_seq fun K5 hK5 => awp_region rfl (o_mv (Nv i) rfl (o_mv (Nv j) rfl ?_))
  refine n_gtr i j gn rfl rfl ?_
  refine aops_end (hK5 _ ?_)
  refine awp_condQ (q := j < i) rfl (fun h2 => ?_) (fun h2 => ?_)
  ·refine awp_seq fun K6 hK6 => ?_
   refine awp_regionSW 7 31 _ 82 [] _ _ _ _ _ [.row 21, Nv (m - i), Nv m, Nv j, .clo 45 [.ip [.clo kf []]]] (.tup []) [v2v, r0v F, v3v, r1v (swr X (m - i) m j), p1v us] rfl rfl rfl f84_ ?_
   refine o_mv (.row 21) rfl (o_mv (Nv m) rfl (o_mv (Nv i) rfl ?_))
   refine n_sub m i gn rfl rfl (by omega) (by simp only [topOf]; omega) ?_
   refine o_mv (Nv m) rfl (o_mv (Nv j) rfl (o_mv (.clo 45 [.ip [.clo kf []]]) rfl ?_))
   refine aops_end ⟨_, Wk.sub (σ' := ⟨[(0, .row 21), (2, Nv m), (4, .clo 45 [.ip [.clo kf []]]), (10, Nv i), (11, Nv j), (18, Nv i), (19, Nv j), (20, bp (i ≠ j)), (21, Nv i), (22, Nv j), (23, bp (j < i)), (24, .row 21), (27, Nv (m - i)), (28, Nv m), (29, Nv j), (30, .clo 45 [.ip [.clo kf []]])], [v2v, r0v F, v3v, r1v X, p1v us]⟩) ⟨rfl, rfl, rfl, rfl, rfl, rfl, rfl, rfl, rfl, rfl, rfl, rfl, rfl, rfl, rfl, rfl, trivial⟩ ⟨rfl, rfl, rfl, rfl, rfl, trivial⟩, rfl, rfl, scalls_of_r (K := [2, 3, 21]) (m := [v2v, r0v F, v3v, r1v X]) (m' := [v2v, r0v F, v3v, r1v (swr X (m - i) m j)]) (e := [p1v us]) (c_swpi kf key hkey X F (m - i) m j (by omega) (by omega) (by omega)) rfl rfl, ?_⟩
   refine hK6 _ (awp_region rfl (o_mv (Nv i) rfl (o_mv (Nv j) rfl ?_)))
   refine n_sub i j gn rfl rfl (by omega) (by simp only [topOf]; omega) ?_
   refine o_as (Nv (i - j)) rfl (aops_end ?_)
   refine ⟨_, _, ?lt, ⟨f - 1, i - j, j, swr X (m - i) m j, ((rotF_gt (by omega) (by omega)).trans hR), (swr_len _ _ _ _).trans hl, (by omega), (by omega), (by omega), rfl, rfl⟩, ?wk⟩
   case lt => omega
   case wk => exact Wk.sub ⟨rfl, rfl, rfl, (by first | rfl | exact nm_int (by omega)), rfl, trivial⟩ ⟨rfl, rfl, rfl, rfl, (by first | rfl | exact row_ns (by simp) | (first | exact row_is rfl | exact row_is ((rotF_eq (by omega) (by omega)).trans hR))), trivial⟩
  ·refine awp_seq fun K7 hK7 => ?_
   refine awp_regionSW 11 46 _ 82 [] _ _ _ _ _ [.row 21, Nv (m - i), Nv ((m + j) - i), Nv i, .clo 45 [.ip [.clo kf []]]] (.tup []) [v2v, r0v F, v3v, r1v (swr X (m - i) (m + j - i) i), p1v us] rfl rfl rfl f84_ ?_
   refine o_mv (.row 21) rfl (o_mv (Nv m) rfl (o_mv (Nv i) rfl ?_))
   refine n_sub m i gn rfl rfl (by omega) (by simp only [topOf]; omega) ?_
   refine o_mv (Nv m) rfl (o_mv (Nv j) rfl ?_)
   refine n_add m j gn rfl rfl (by simp only [topOf]; omega) ?_
   refine o_mv (Nv i) rfl ?_
   refine n_sub (m + j) i gn rfl rfl (by omega) (by simp only [topOf]; omega) ?_
   refine o_mv (Nv i) rfl (o_mv (.clo 45 [.ip [.clo kf []]]) rfl ?_)
   refine aops_end ⟨_, Wk.sub (σ' := ⟨[(0, .row 21), (2, Nv m), (4, .clo 45 [.ip [.clo kf []]]), (10, Nv i), (11, Nv j), (18, Nv i), (19, Nv j), (20, bp (i ≠ j)), (21, Nv i), (22, Nv j), (23, bp (j < i)), (35, .row 21), (38, Nv (m - i)), (43, Nv ((m + j) - i)), (44, Nv i), (45, .clo 45 [.ip [.clo kf []]])], [v2v, r0v F, v3v, r1v X, p1v us]⟩) ⟨rfl, rfl, rfl, rfl, rfl, rfl, rfl, rfl, rfl, rfl, rfl, rfl, rfl, rfl, rfl, rfl, trivial⟩ ⟨rfl, rfl, rfl, rfl, rfl, trivial⟩, rfl, rfl, scalls_of_r (K := [2, 3, 21]) (m := [v2v, r0v F, v3v, r1v X]) (m' := [v2v, r0v F, v3v, r1v (swr X (m - i) (m + j - i) i)]) (e := [p1v us]) (c_swpi kf key hkey X F (m - i) (m + j - i) i (by omega) (by omega) (by omega)) rfl rfl, ?_⟩
   refine hK7 _ (awp_region rfl (o_mv (Nv j) rfl (o_mv (Nv i) rfl ?_)))
   refine n_sub j i gn rfl rfl (by omega) (by simp only [topOf]; omega) ?_
   refine o_as (Nv (j - i)) rfl (aops_end ?_)
   refine ⟨_, _, ?lt, ⟨f - 1, i, j - i, swr X (m - i) (m + j - i) i, ((rotF_lt (by omega) (by omega)).trans hR), (swr_len _ _ _ _).trans hl, (by omega), (by omega), (by omega), rfl, rfl⟩, ?wk⟩
   case lt => omega
   case wk => exact Wk.sub ⟨rfl, rfl, rfl, rfl, (by first | rfl | exact nm_int (by omega)), trivial⟩ ⟨rfl, rfl, rfl, rfl, (by first | rfl | exact row_ns (by simp) | (first | exact row_is rfl | exact row_is ((rotF_eq (by omega) (by omega)).trans hR))), trivial⟩
 ·refine awp_exit ?_
  refine hK2 _ ?_
  refine awp_regionSW 7 57 _ 82 [] _ _ _ _ _ [.row 21, Nv (m - i), Nv m, Nv i, .clo 45 [.ip [.clo kf []]]] (.tup []) [v2v, r0v F, v3v, r1v (swr X (m - i) m i), p1v us] rfl rfl rfl f84_ ?_
  refine o_mv (.row 21) rfl (o_mv (Nv m) rfl (o_mv (Nv i) rfl ?_))
  refine n_sub m i gn rfl rfl (by omega) (by simp only [topOf]; omega) ?_
  refine o_mv (Nv m) rfl (o_mv (Nv i) rfl (o_mv (.clo 45 [.ip [.clo kf []]]) rfl ?_))
  refine aops_end ⟨_, Wk.sub (σ' := ⟨[(0, .row 21), (2, Nv m), (4, .clo 45 [.ip [.clo kf []]]), (10, Nv i), (11, Nv j), (18, Nv i), (19, Nv j), (20, bp (i ≠ j)), (50, .row 21), (53, Nv (m - i)), (54, Nv m), (55, Nv i), (56, .clo 45 [.ip [.clo kf []]])], [v2v, r0v F, v3v, r1v X, p1v us]⟩) ⟨rfl, rfl, rfl, rfl, rfl, rfl, rfl, rfl, rfl, rfl, rfl, rfl, rfl, trivial⟩ ⟨rfl, rfl, rfl, rfl, rfl, trivial⟩, rfl, rfl, scalls_of_r (K := [2, 3, 21]) (m := [v2v, r0v F, v3v, r1v X]) (m' := [v2v, r0v F, v3v, r1v (swr X (m - i) m i)]) (e := [p1v us]) (c_swpi kf key hkey X F (m - i) m i (by omega) (by omega) (by omega)) rfl rfl, ?_⟩
  exact ⟨⟨[], [p1v us, v2v, r0v F, v3v, r1v (rotF (m - a + (b - m)) D m (m - a) (b - m))]⟩, Wk.sub trivial ⟨rfl, rfl, rfl, rfl, (by first | rfl | exact row_ns (by simp) | (first | exact row_is rfl | exact row_is ((rotF_eq (by omega) (by omega)).trans hR))), trivial⟩, ⟨[], trivial, rfl, fun id ob h => keep_pin h rfl, rfl⟩⟩

theorem c_symi (kf : Nat) (key : Int → Int) (hkey : ∀ x y : Int, ECalls cx 45 [.lit (.int .i64 x), .lit (.int .i64 y), .ip [.clo kf []]] (.lit (.int .i64 (cmpZ (key x) (key y))))) (F : List Fal) : ∀ (f : Nat) (D : List Int) (a m b : Nat), b - a ≤ f → a < m → m < b → b ≤ D.length → D.length ≤ 1000000 →
  RCalls cx 63 [.row 21, Nv a, Nv m, Nv b, .clo 45 [.ip [.clo kf []]]] [2, 3, 21] [v2v, r0v F, v3v, r1v D] (.tup []) [v2v, r0v F, v3v, r1v (symF key f D a m b)] := by
 intro f
 induction f using Nat.strongRecOn
 rename_i f ih
 intro D a m b hf ham hmb hb hD
 obtain ⟨e, hfe⟩ : ∃ e, f = e + 1 := ⟨f - 1, by omega⟩
 refine rcalls_of_x (X := [(2, false), (3, false), (21, true)]) (scalls_of_awpB 9009 Tryd.func63 (c := _) rfl (Nat.le_of_ble_eq_true rfl) rfl rfl rfl (fun us => ?_)) rfl
 refine awp_late ?_
 show awp cx 220 _ (lateQ cx 220 (postS cx Tryd.f63 (.tup []) [v2v, r0v F, v3v, r1v (symF key f D a m b)] 9009 [.ref 2 0, .ref 3 0, .row 21] us)) ⟨[(0, .row 21), (1, Nv a), (2, Nv m), (3, Nv b), (4, .clo 45 [.ip [.clo kf []]])], [p1v us, v2v, r0v F, v3v, r1v D]⟩
 refine awp_seq fun K0 hK0 => awp_seq fun K1 hK1 => awp_region rfl (o_mv (Nv m) rfl (o_mv (Nv a) rfl ?_))
 refine n_sub m a gn rfl rfl (by omega) (by simp only [topOf]; omega) ?_
 refine n_eql (m - a) 1 gn rfl rfl ?_
 refine aops_end (hK1 _ ?_)
 refine awp_condQ (q := (m - a) = 1) rfl (fun h1 => ?_) (fun h1 => ?_)
 ·refine awp_seq fun K2 hK2 => awp_region rfl (o_mv (Nv m) rfl (o_as (Nv m) rfl (aops_end (hK2 _ (awp_seq fun K3 hK3 => awp_region rfl (o_mv (Nv b) rfl (o_as (Nv b) rfl (aops_end (hK3 _ ?_)))))))))
  refine awp_seq fun K4 hK4 => ?_
  refine awp_block ?_
  refine awp_loopR (fun κ σ => ∃ (i : Nat), ∃ (j : Nat), (bsr (pA key D a) i j = bsr (pA key D a) m b) ∧ (m ≤ i ∧ i ≤ j ∧ j ≤ b) ∧ (j - i) = κ ∧ σ = ⟨[(0, .row 21), (1, Nv a), (2, Nv m), (3, Nv b), (4, .clo 45 [.ip [.clo kf []]]), (10, Nv i), (11, Nv j)], [p1v us, v2v, r0v F, v3v, r1v D]⟩) ⟨_, _, ⟨m, b, rfl, (by omega), rfl, rfl⟩, ?wk0⟩ ?rd0
  case wk0 =>
   exact Wk.sub ⟨rfl, rfl, rfl, rfl, rfl, (by first | rfl | exact nm_int (by omega)), (by first | rfl | exact nm_int (by omega)), trivial⟩ ⟨rfl, rfl, rfl, rfl, rfl, trivial⟩
  rintro κ _ ⟨i, j, hbs, hi, rfl, rfl⟩
  refine awp_seq fun K5 hK5 => awp_seq fun K6 hK6 => awp_region rfl (o_mv (Nv i) rfl (o_mv (Nv j) rfl ?_))
  refine n_lss i j gn rfl rfl ?_
  refine aops_end (hK6 _ ?_)
  refine awp_condQ (q := i < j) rfl (fun h2 => ?_) (fun h2 => ?_)
  ·refine awp_skip (hK5 _ ?_)
   refine awp_block ?_
   refine awp_seq fun K7 hK7 => awp_region rfl (o_mv (Nv i) rfl (o_mv (Nv j) rfl ?_))
   refine n_add i j gn rfl rfl (by simp only [topOf]; omega) ?_
   refine n_conv (i + j) gn rfl f22_ f81_ (by simp only [topOf]; omega) ?_
   refine n_shr1 (i + j) gn rfl rfl ?_
   refine n_conv ((i + j) / 2) gn rfl f81_ f22_ (by simp only [topOf]; omega) ?_
   refine o_as (Nv ((i + j) / 2)) rfl (aops_end (hK7 _ (awp_seq fun K8 hK8 => awp_regionD rfl (o_mv (.clo 45 [.ip [.clo kf []]]) rfl (o_mv (.row 21) rfl (o_mv (Nv ((i + j) / 2)) rfl ?_))))))
   refine i_indexRow D ((i + j) / 2) gn f38_ rfl rfl rfl (by omega) ?_
   refine i_loadRow D ((i + j) / 2) gn f39_ rfl rfl (by omega) ?_
   refine o_mv (.row 21) rfl (o_mv (Nv a) rfl ?_)
   refine i_indexRow D a gn f38_ rfl rfl rfl (by omega) ?_
   refine i_loadRow D a gn f39_ rfl rfl (by omega) ?_
   refine o_callG [] [Iv (D.getD ((i + j) / 2) 0), Iv (D.getD a 0), .ip [.clo kf []]] _ (Iv (cmpZ (key (D.getD ((i + j) / 2) 0)) (key (D.getD a 0)))) [p1v us, v2v, r0v F, v3v, r1v D] gn f78_ rfl trivial rfl rfl (LeL.cons (AV.le_refl _) (LeL.cons (AV.le_refl _) (LeL.cons (AV.le_refl _) LeL.nil))) (hkey (D.getD ((i + j) / 2) 0) (D.getD a 0)) rfl ?_
   refine o_lss (a := (cmpZ (key (D.getD ((i + j) / 2) 0)) (key (D.getD a 0)))) (c := ((0 : Nat) : Int)) gn rfl rfl ?_
   refine aops_end ⟨by kernel_rfl, ?_⟩
   refine hK8 _ ?_
   refine awp_condQ (q := (cmpZ (key (D.getD ((i + j) / 2) 0)) (key (D.getD a 0))) < ((0 : Nat) : Int)) rfl (fun h3 => ?_) (fun h3 => ?_)
   ·refine awp_region rfl (o_mv (Nv ((i + j) / 2)) rfl ?_)
    refine n_add ((i + j) / 2) 1 gn rfl rfl (by simp only [topOf]; omega) ?_
    refine o_as (Nv (((i + j) / 2) + 1)) rfl (aops_end ?_)
    refine ⟨_, _, ?lt, ⟨(i + j) / 2 + 1, j, (bs_up hbs (by assumption) (pA_y (by assumption))), (by omega), rfl, rfl⟩, ?wk⟩
    case lt => omega
    case wk => exact Wk.sub ⟨rfl, rfl, rfl, rfl, rfl, (by first | rfl | exact nm_int (by omega)), rfl, trivial⟩ ⟨rfl, rfl, rfl, rfl, rfl, trivial⟩
   ·refine awp_region rfl (o_mv (Nv ((i + j) / 2)) rfl (o_as (Nv ((i + j) / 2)) rfl (aops_end ?_)))
    refine ⟨_, _, ?lt, ⟨i, (i + j) / 2, (bs_dn hbs (by assumption) (pA_n (by assumption))), (by omega), rfl, rfl⟩, ?wk⟩
    case lt => omega
    case wk => exact Wk.sub ⟨rfl, rfl, rfl, rfl, rfl, rfl, (by first | rfl | exact nm_int (by omega)), trivial⟩ ⟨rfl, rfl, rfl, rfl, rfl, trivial⟩
  ·refine awp_exit ?_
   refine hK4 _ (awp_seq fun K9 hK9 => awp_seq fun K10 hK10 => ?_)
   have hie := bs_end hbs (by assumption)
   refine awp_region rfl (o_mv (Nv a) rfl (o_as (Nv a) rfl (aops_end (hK10 _ ?_))))
   refine awp_block ?_
   refine awp_loopR (fun κ σ => ∃ (q : Nat), (a + q ≤ i - 1) ∧ (i - (a + q)) = κ ∧ σ = ⟨[(0, .row 21), (1, Nv a), (2, Nv m), (3, Nv b), (4, .clo 45 [.ip [.clo kf []]]), (10, Nv i), (13, Nv (a + q))], [p1v us, v2v, r0v F, v3v, r1v (mvR D a q)]⟩) ⟨_, _, ⟨0, (by omega), rfl, rfl⟩, ?wk1⟩ ?rd1
   case wk1 =>
    exact Wk.sub ⟨rfl, rfl, rfl, rfl, rfl, rfl, (by first | rfl | exact nm_int (by omega)), trivial⟩ ⟨rfl, rfl, rfl, rfl, (by first | rfl | exact row_ns (by simp) | (first | exact row_is rfl | exact row_is (by rw [← sym_1 hfe (by assumption) hie, show q = i - 1 - a by omega]) | exact row_is (by rw [← sym_2 hfe (by assumption) (by assumption) hie, show q = m - i by omega]) | exact row_is (sym_3 hfe (by assumption) (by assumption) hps hX1 hX2 (if_pos (by omega)).symm) | exact row_is (sym_3 hfe (by assumption) (by assumption) hps hX1 hX2 (if_neg (by omega)).symm))), trivial⟩
   rintro κ _ ⟨q, hq, rfl, rfl⟩
   have hXl := mvR_len D a q
   refine awp_seq fun K11 hK11 => awp_seq fun K12 hK12 => awp_region rfl (o_mv (Nv (a + q)) rfl (o_mv (Nv i) rfl ?_))
   refine n_sub i 1 gn rfl rfl (by omega) (by simp only [topOf]; omega) ?_
   refine n_lss (a + q) (i - 1) gn rfl rfl ?_
   refine aops_end (hK12 _ ?_)
   refine awp_condQ (q := (a + q) < (i - 1)) rfl (fun h4 => ?_) (fun h4 => ?_)
   ·refine awp_skip (hK11 _ (awp_seq fun K13 hK13 => ?_))
    refine awp_block ?_
    refine awp_regionT rfl ?_
    refine o_mv (.row 21) rfl (o_mv (Nv (a + q)) rfl (o_mv (.row 21) rfl (o_mv (Nv (a + q)) rfl ?_)))
    refine n_add (a + q) 1 gn rfl rfl (by simp only [topOf]; omega) ?_
    refine o_mv (.row 21) rfl (o_mv (Nv (a + q)) rfl ?_)
    refine n_add (a + q) 1 gn rfl rfl (by simp only [topOf]; omega) ?_
    refine i_indexRow (mvR D a q) ((a + q) + 1) gn f38_ rfl rfl rfl (by omega) ?_
    refine i_loadRow (mvR D a q) ((a + q) + 1) gn f39_ rfl rfl (by omega) ?_
    refine o_mv (.row 21) rfl (o_mv (Nv (a + q)) rfl ?_)
    refine i_indexRow (mvR D a q) (a + q) gn f38_ rfl rfl rfl (by omega) ?_
    refine i_loadRow (mvR D a q) (a + q) gn f39_ rfl rfl (by omega) ?_
    refine i_indexRow (mvR D a q) (a + q) gn f38_ rfl rfl rfl (by omega) ?_
    refine i_storeRow (mvR D a q) (a + q) ((mvR D a q).getD ((a + q) + 1) 0) [p1v us, v2v, r0v F, v3v, r1v ((mvR D a q).set (a + q) ((mvR D a q).getD ((a + q) + 1) 0))] gn f79_ rfl rfl rfl (by first | omega | (simp only [List.length_set]; omega)) rfl ?_
    refine i_indexRow ((mvR D a q).set (a + q) ((mvR D a q).getD ((a + q) + 1) 0)) ((a + q) + 1) gn f38_ rfl rfl rfl (by simp only [List.length_set]; omega) ?_
    refine i_storeRow ((mvR D a q).set (a + q) ((mvR D a q).getD ((a + q) + 1) 0)) ((a + q) + 1) ((mvR D a q).getD (a + q) 0) [p1v us, v2v, r0v F, v3v, r1v (((mvR D a q).set (a + q) ((mvR D a q).getD ((a + q) + 1) 0)).set ((a + q) + 1) ((mvR D a q).getD (a + q) 0))] gn f79_ rfl rfl rfl (by first | omega | (simp only [List.length_set]; omega)) rfl ?_
    refine aops_end ⟨by kernel_rfl, ?_⟩
    refine hK13 _ (awp_region rfl (o_mv (Nv (a + q)) rfl ?_))
    refine n_add (a + q) 1 gn rfl rfl (by simp only [topOf]; omega) ?_
    refine o_as (Nv ((a + q) + 1)) rfl (aops_end ?_)
    refine ⟨_, _, ?lt, ⟨q + 1, (by omega), rfl, rfl⟩, ?wk⟩
    case lt => omega
    case wk => exact Wk.sub ⟨rfl, rfl, rfl, rfl, rfl, rfl, (by first | rfl | exact nm_int (by omega)), trivial⟩ ⟨rfl, rfl, rfl, rfl, (by first | rfl | exact row_ns (by simp) | (first | exact row_is rfl | exact row_is (by rw [← sym_1 hfe (by assumption) hie, show q = i - 1 - a by omega]) | exact row_is (by rw [← sym_2 hfe (by assumption) (by assumption) hie, show q = m - i by omega]) | exact row_is (sym_3 hfe (by assumption) (by assumption) hps hX1 hX2 (if_pos (by omega)).symm) | exact row_is (sym_3 hfe (by assumption) (by assumption) hps hX1 hX2 (if_neg (by omega)).symm))), trivial⟩
   ·refine awp_exit ?_
    refine hK9 _ ?_
    refine awp_ret ?_
    exact ⟨⟨[], [p1v us, v2v, r0v F, v3v, r1v (symF key f D a m b)]⟩, Wk.sub trivial ⟨rfl, rfl, rfl, rfl, (by first | rfl | exact row_ns (by simp) | (first | exact row_is rfl | exact row_is (by rw [← sym_1 hfe (by assumption) hie, show q = i - 1 - a by omega]) | exact row_is (by rw [← sym_2 hfe (by assumption) (by assumption) hie, show q = m - i by omega]) | exact row_is (sym_3 hfe (by assumption) (by assumption) hps hX1 hX2 (if_pos (by omega)).symm) | exact row_is (sym_3 hfe (by assumption) (by assumption) hps hX1 hX2 (if_neg (by omega)).symm))), trivial⟩, ⟨[], trivial, rfl, fun id ob h => keep_pin h rfl, rfl⟩⟩
 ·refine awp_skip (hK0 _ (awp_seq fun K14 hK14 => awp_seq fun K15 hK15 => awp_region rfl (o_mv (Nv b) rfl (o_mv (Nv m) rfl ?_))))
  refine n_sub b m gn rfl rfl (by omega) (by simp only [topOf]; omega) ?_
  refine n_eql (b - m) 1 gn rfl rfl ?_
  refine aops_end (hK15 _ ?_)
  refine awp_condQ (q := (b - m) = 1) rfl (fun h5 => ?_) (fun h5 => ?_)
  ·refine awp_seq fun K16 hK16 => awp_region rfl (o_mv (Nv a) rfl (o_as (Nv a) rfl (aops_end (hK16 _ (awp_seq fun K17 hK17 => awp_region rfl (o_mv (Nv m) rfl (o_as (Nv m) rfl (aops_end (hK17 _ ?_)))))))))
   refine awp_seq fun K18 hK18 => ?_
   refine awp_block ?_
   refine awp_loopR (fun κ σ => ∃ (i : Nat), ∃ (j : Nat), (bsr (pB key D m) i j = bsr (pB key D m) a m) ∧ (a ≤ i ∧ i ≤ j ∧ j ≤ m) ∧ (j - i) = κ ∧ σ = ⟨[(0, .row 21), (1, Nv a), (2, Nv m), (3, Nv b), (4, .clo 45 [.ip [.clo kf []]]), (14, Nv i), (15, Nv j)], [p1v us, v2v, r0v F, v3v, r1v D]⟩) ⟨_, _, ⟨a, m, rfl, (by omega), rfl, rfl⟩, ?wk2⟩ ?rd2
   case wk2 =>
    exact Wk.sub ⟨rfl, rfl, rfl, rfl, rfl, (by first | rfl | exact nm_int (by omega)), (by first | rfl | exact nm_int (by omega)), trivial⟩ ⟨rfl, rfl, rfl, rfl, rfl, trivial⟩
   rintro κ _ ⟨i, j, hbs, hi, rfl, rfl⟩
   refine awp_seq fun K19 hK19 => awp_seq fun K20 hK20 => awp_region rfl (o_mv (Nv i) rfl (o_mv (Nv j) rfl ?_))
   refine n_lss i j gn rfl rfl ?_
   refine aops_end (hK20 _ ?_)
   refine awp_condQ (q := i < j) rfl (fun h6 => ?_) (fun h6 => ?_)
   ·refine awp_skip (hK19 _ ?_)
    refine awp_block ?_
    refine awp_seq fun K21 hK21 => awp_region rfl (o_mv (Nv i) rfl (o_mv (Nv j) rfl ?_))
    refine n_add i j gn rfl rfl (by simp only [topOf]; omega) ?_
    refine n_conv (i + j) gn rfl f22_ f81_ (by simp only [topOf]; omega) ?_
    refine n_shr1 (i + j) gn rfl rfl ?_
    refine n_conv ((i + j) / 2) gn rfl f81_ f22_ (by simp only [topOf]; omega) ?_
    refine o_as (Nv ((i + j) / 2)) rfl (aops_end (hK21 _ (awp_seq fun K22 hK22 => awp_regionD rfl (o_mv (.clo 45 [.ip [.clo kf []]]) rfl (o_mv (.row 21) rfl (o_mv (Nv m) rfl ?_))))))
    refine i_indexRow D m gn f38_ rfl rfl rfl (by omega) ?_
    refine i_loadRow D m gn f39_ rfl rfl (by omega) ?_
    refine o_mv (.row 21) rfl (o_mv (Nv ((i + j) / 2)) rfl ?_)
    refine i_indexRow D ((i + j) / 2) gn f38_ rfl rfl rfl (by omega) ?_
    refine i_loadRow D ((i + j) / 2) gn f39_ rfl rfl (by omega) ?_
    refine o_callG [] [Iv (D.getD m 0), Iv (D.getD ((i + j) / 2) 0), .ip [.clo kf []]] _ (Iv (cmpZ (key (D.getD m 0)) (key (D.getD ((i + j) / 2) 0)))) [p1v us, v2v, r0v F, v3v, r1v D] gn f78_ rfl trivial rfl rfl (LeL.cons (AV.le_refl _) (LeL.cons (AV.le_refl _) (LeL.cons (AV.le_refl _) LeL.nil))) (hkey (D.getD m 0) (D.getD ((i + j) / 2) 0)) rfl ?_
    refine o_lss (a := (cmpZ (key (D.getD m 0)) (key (D.getD ((i + j) / 2) 0)))) (c := ((0 : Nat) : Int)) gn rfl rfl ?_
    refine o_notP (q := (cmpZ (key (D.getD m 0)) (key (D.getD ((i + j) / 2) 0))) < ((0 : Nat) : Int)) gn rfl ?_
    refine aops_end ⟨by kernel_rfl, ?_⟩
    refine hK22 _ ?_
    refine awp_condQ (q := ¬ ((cmpZ (key (D.getD m 0)) (key (D.getD ((i + j) / 2) 0))) < ((0 : Nat) : Int))) rfl (fun h7 => ?_) (fun h7 => ?_)
    ·refine awp_region rfl (o_mv (Nv ((i + j) / 2)) rfl ?_)
     refine n_add ((i + j) / 2) 1 gn rfl rfl (by simp only [topOf]; omega) ?_
     refine o_as (Nv (((i + j) / 2) + 1)) rfl (aops_end ?_)
     refine ⟨_, _, ?lt, ⟨(i + j) / 2 + 1, j, (bs_up hbs (by assumption) (pB_y (by assumption))), (by omega), rfl, rfl⟩, ?wk⟩
     case lt => omega
     case wk => exact Wk.sub ⟨rfl, rfl, rfl, rfl, rfl, (by first | rfl | exact nm_int (by omega)), rfl, trivial⟩ ⟨rfl, rfl, rfl, rfl, rfl, trivial⟩
    ·refine awp_region rfl (o_mv (Nv ((i + j) / 2)) rfl (o_as (Nv ((i + j) / 2)) rfl (aops_end ?_)))
     refine ⟨_, _, ?lt, ⟨i, (i + j) / 2, (bs_dn hbs (by assumption) (pB_n (Decidable.not_not.1 (by assumption)))), (by omega), rfl, rfl⟩, ?wk⟩
     case lt => omega
     case wk => exact Wk.sub ⟨rfl, rfl, rfl, rfl, rfl, rfl, (by first | rfl | exact nm_int (by omega)), trivial⟩ ⟨rfl, rfl, rfl, rfl, rfl, trivial⟩
   ·refine awp_exit ?_
    refine hK18 _ (awp_seq fun K23 hK23 => awp_seq fun K24 hK24 => ?_)
    have hie := bs_end hbs (by assumption)
    refine awp_region rfl (o_mv (Nv m) rfl (o_as (Nv m) rfl (aops_end (hK24 _ ?_))))
    refine awp_block ?_
    refine awp_loopR (fun κ σ => ∃ (q : Nat), (q + i ≤ m) ∧ (m - q) = κ ∧ σ = ⟨[(0, .row 21), (1, Nv a), (2, Nv m), (3, Nv b), (4, .clo 45 [.ip [.clo kf []]]), (14, Nv i), (17, Nv (m - q))], [p1v us, v2v, r0v F, v3v, r1v (mvL D m q)]⟩) ⟨_, _, ⟨0, (by omega), rfl, rfl⟩, ?wk3⟩ ?rd3
    case wk3 =>
     exact Wk.sub ⟨rfl, rfl, rfl, rfl, rfl, rfl, (by first | rfl | exact nm_int (by omega)), trivial⟩ ⟨rfl, rfl, rfl, rfl, (by first | rfl | exact row_ns (by simp) | (first | exact row_is rfl | exact row_is (by rw [← sym_1 hfe (by assumption) hie, show q = i - 1 - a by omega]) | exact row_is (by rw [← sym_2 hfe (by assumption) (by assumption) hie, show q = m - i by omega]) | exact row_is (sym_3 hfe (by assumption) (by assumption) hps hX1 hX2 (if_pos (by omega)).symm) | exact row_is (sym_3 hfe (by assumption) (by assumption) hps hX1 hX2 (if_neg (by omega)).symm))), trivial⟩
    rintro κ _ ⟨q, hq, rfl, rfl⟩
    have hXl := mvL_len D m q
    refine awp_seq fun K25 hK25 => awp_seq fun K26 hK26 => awp_region rfl (o_mv (Nv (m - q)) rfl (o_mv (Nv i) rfl ?_))
    refine n_gtr (m - q) i gn rfl rfl ?_
    refine aops_end (hK26 _ ?_)
    refine awp_condQ (q := i < (m - q)) rfl (fun h8 => ?_) (fun h8 => ?_)
    ·refine awp_skip (hK25 _ (awp_seq fun K27 hK27 => ?_))
     refine awp_block ?_
     refine awp_regionT rfl ?_
     refine o_mv (.row 21) rfl (o_mv (Nv (m - q)) rfl (o_mv (.row 21) rfl (o_mv (Nv (m - q)) rfl ?_)))
     refine n_sub (m - q) 1 gn rfl rfl (by omega) (by simp only [topOf]; omega) ?_
     refine o_mv (.row 21) rfl (o_mv (Nv (m - q)) rfl ?_)
     refine n_sub (m - q) 1 gn rfl rfl (by omega) (by simp only [topOf]; omega) ?_
     refine i_indexRow (mvL D m q) ((m - q) - 1) gn f38_ rfl rfl rfl (by omega) ?_
     refine i_loadRow (mvL D m q) ((m - q) - 1) gn f39_ rfl rfl (by omega) ?_
     refine o_mv (.row 21) rfl (o_mv (Nv (m - q)) rfl ?_)
     refine i_indexRow (mvL D m q) (m - q) gn f38_ rfl rfl rfl (by omega) ?_
     refine i_loadRow (mvL D m q) (m - q) gn f39_ rfl rfl (by omega) ?_
     refine i_indexRow (mvL D m q) (m - q) gn f38_ rfl rfl rfl (by omega) ?_
     refine i_storeRow (mvL D m q) (m - q) ((mvL D m q).getD ((m - q) - 1) 0) [p1v us, v2v, r0v F, v3v, r1v ((mvL D m q).set (m - q) ((mvL D m q).getD ((m - q) - 1) 0))] gn f79_ rfl rfl rfl (by first | omega | (simp only [List.length_set]; omega)) rfl ?_
     refine i_indexRow ((mvL D m q).set (m - q) ((mvL D m q).getD ((m - q) - 1) 0)) ((m - q) - 1) gn f38_ rfl rfl rfl (by simp only [List.length_set]; omega) ?_
     refine i_storeRow ((mvL D m q).set (m - q) ((mvL D m q).getD ((m - q) - 1) 0)) ((m - q) - 1) ((mvL D m q).getD (m - q) 0) [p1v us, v2v, r0v F, v3v, r1v (((mvL D m q).set (m - q) ((mvL D m q).getD ((m - q) - 1) 0)).set ((m - q) - 1) ((mvL D m q).getD (m - q) 0))] gn f79_ rfl rfl rfl (by first | omega | (simp only [List.length_set]; omega)) rfl ?_
     refine aops_end ⟨by kernel_rfl, ?_⟩
     refine hK27 _ (awp_region rfl (o_mv (Nv (m - q)) rfl ?_))
     refine n_sub (m - q) 1 gn rfl rfl (by omega) (by simp only [topOf]; omega) ?_
     refine o_as (Nv ((m - q) - 1)) rfl (aops_end ?_)
     refine ⟨_, _, ?lt, ⟨q + 1, (by omega), rfl, rfl⟩, ?wk⟩
     case lt => omega
     case wk => exact Wk.sub ⟨rfl, rfl, rfl, rfl, rfl, rfl, (by first | rfl | exact nm_int (by omega)), trivial⟩ ⟨rfl, rfl, rfl, rfl, (by first | rfl | exact row_ns (by simp) | (first | exact row_is rfl | exact row_is (by rw [← sym_1 hfe (by assumption) hie, show q = i - 1 - a by omega]) | exact row_is (by rw [← sym_2 hfe (by assumption) (by assumption) hie, show q = m - i by omega]) | exact row_is (sym_3 hfe (by assumption) (by assumption) hps hX1 hX2 (if_pos (by omega)).symm) | exact row_is (sym_3 hfe (by assumption) (by assumption) hps hX1 hX2 (if_neg (by omega)).symm))), trivial⟩
    ·refine awp_exit ?_
     refine hK23 _ ?_
     refine awp_ret ?_
     exact ⟨⟨[], [p1v us, v2v, r0v F, v3v, r1v (symF key f D a m b)]⟩, Wk.sub trivial ⟨rfl, rfl, rfl, rfl, (by first | rfl | exact row_ns (by simp) | (first | exact row_is rfl | exact row_is (by rw [← sym_1 hfe (by assumption) hie, show q = i - 1 - a by omega]) | exact row_is (by rw [← sym_2 hfe (by assumption) (by assumption) hie, show q = m - i by omega]) | exact row_is (sym_3 hfe (by assumption) (by assumption) hps hX1 hX2 (if_pos (by omega)).symm) | exact row_is (sym_3 hfe (by assumption) (by assumption) hps hX1 hX2 (if_neg (by omega)).symm))), trivial⟩, ⟨[], trivial, rfl, fun id ob h => keep_pin h rfl, rfl⟩⟩
  ·refine awp_skip (hK14 _ (awp_seq fun K28 hK28 => awp_region rfl (o_mv (Nv a) rfl (o_mv (Nv b) rfl ?_))))
   refine n_add a b gn rfl rfl (by simp only [topOf]; omega) ?_
   refine n_conv (a + b) gn rfl f22_ f81_ (by simp only [topOf]; omega) ?_
   refine n_shr1 (a + b) gn rfl rfl ?_
   refine n_conv ((a + b) / 2) gn rfl f81_ f22_ (by simp only [topOf]; omega) ?_
   refine o_as (Nv ((a + b) / 2)) rfl (aops_end (hK28 _ (awp_seq fun K29 hK29 => awp_region rfl (o_mv (Nv ((a + b) / 2)) rfl (o_mv (Nv m) rfl ?_)))))
   refine n_add ((a + b) / 2) m gn rfl rfl (by simp only [topOf]; omega) ?_
   refine o_as (Nv (((a + b) / 2) + m)) rfl (aops_end (hK29 _ (awp_seq fun K30 hK30 => awp_region rfl (o_as (Nv 0) rfl (o_as (Nv 0) rfl (aops_end (hK30 _ ?_)))))))
   refine awp_seqJ (J := fun σ => ∃ (p : Nat), ∃ (q : Nat), (bsr (pC key D ((((a + b) / 2) + m) - 1)) p q = symS key D a m b) ∧ (a ≤ p ∧ (((a + b) / 2) + m) ≤ p + b ∧ p ≤ q ∧ q ≤ m ∧ q ≤ ((a + b) / 2)) ∧ True ∧ σ = ⟨[(0, .row 21), (1, Nv a), (2, Nv m), (3, Nv b), (4, .clo 45 [.ip [.clo kf []]]), (18, Nv ((a + b) / 2)), (19, Nv (((a + b) / 2) + m)), (20, Nv p), (21, Nv q)], [p1v us, v2v, r0v F, v3v, r1v D]⟩) ?ja4 ?jb4
   case ja4 =>
    refine awp_seq fun K31 hK31 => awp_region rfl (o_mv (Nv m) rfl (o_mv (Nv ((a + b) / 2)) rfl ?_))
    refine n_gtr m ((a + b) / 2) gn rfl rfl ?_
    refine aops_end (hK31 _ ?_)
    refine awp_condQ (q := ((a + b) / 2) < m) rfl (fun h9 => ?_) (fun h9 => ?_)
    ·refine awp_seq fun K32 hK32 => awp_region rfl (o_mv (Nv (((a + b) / 2) + m)) rfl (o_mv (Nv b) rfl ?_))
     refine n_sub (((a + b) / 2) + m) b gn rfl rfl (by omega) (by simp only [topOf]; omega) ?_
     refine o_as (Nv ((((a + b) / 2) + m) - b)) rfl (aops_end (hK32 _ (awp_region rfl (o_mv (Nv ((a + b) / 2)) rfl (o_as (Nv ((a + b) / 2)) rfl (aops_end ?_))))))
     exact ⟨_, ⟨(((a + b) / 2) + m) - b, (a + b) / 2, (symS_lo (by assumption) rfl), (by omega), trivial, rfl⟩, Wk.sub ⟨rfl, rfl, rfl, rfl, rfl, (by first | rfl | exact nm_int (by omega)), (by first | rfl | exact nm_int (by omega)), (by first | rfl | exact nm_int (by omega)), (by first | rfl | exact nm_int (by omega)), trivial⟩ ⟨rfl, rfl, rfl, rfl, rfl, trivial⟩⟩
    ·refine awp_seq fun K33 hK33 => awp_region rfl (o_mv (Nv a) rfl (o_as (Nv a) rfl (aops_end (hK33 _ (awp_region rfl (o_mv (Nv m) rfl (o_as (Nv m) rfl (aops_end ?_))))))))
     exact ⟨_, ⟨a, m, (symS_hi (by assumption)), (by omega), trivial, rfl⟩, Wk.sub ⟨rfl, rfl, rfl, rfl, rfl, (by first | rfl | exact nm_int (by omega)), (by first | rfl | exact nm_int (by omega)), (by first | rfl | exact nm_int (by omega)), (by first | rfl | exact nm_int (by omega)), trivial⟩ ⟨rfl, rfl, rfl, rfl, rfl, trivial⟩⟩
   rintro _ ⟨p, q, hbs, hpq, -, rfl⟩
   refine awp_seq fun K34 hK34 => awp_region rfl (o_mv (Nv (((a + b) / 2) + m)) rfl ?_)
   refine n_sub (((a + b) / 2) + m) 1 gn rfl rfl (by omega) (by simp only [topOf]; omega) ?_
   refine o_as (Nv ((((a + b) / 2) + m) - 1)) rfl (aops_end (hK34 _ (awp_seq fun K35 hK35 => ?_)))
   refine awp_block ?_
   refine awp_loopR (fun κ σ => ∃ (p : Nat), ∃ (q : Nat), (bsr (pC key D ((((a + b) / 2) + m) - 1)) p q = symS key D a m b) ∧ (a ≤ p ∧ (((a + b) / 2) + m) ≤ p + b ∧ p ≤ q ∧ q ≤ m ∧ q ≤ ((a + b) / 2)) ∧ (q - p) = κ ∧ σ = ⟨[(0, .row 21), (1, Nv a), (2, Nv m), (3, Nv b), (4, .clo 45 [.ip [.clo kf []]]), (18, Nv ((a + b) / 2)), (19, Nv (((a + b) / 2) + m)), (22, Nv ((((a + b) / 2) + m) - 1)), (20, Nv p), (21, Nv q)], [p1v us, v2v, r0v F, v3v, r1v D]⟩) ⟨_, _, ⟨p, q, hbs, hpq, rfl, rfl⟩, ?wk5⟩ ?rd5
   case wk5 =>
    exact Wk.sub ⟨rfl, rfl, rfl, rfl, rfl, rfl, rfl, (by first | rfl | exact nm_int (by omega)), rfl, rfl, trivial⟩ ⟨rfl, rfl, rfl, rfl, rfl, trivial⟩
   rintro κ _ ⟨p, q, hbs, hpq, rfl, rfl⟩
   refine awp_seq fun K36 hK36 => awp_seq fun K37 hK37 => awp_region rfl (o_mv (Nv p) rfl (o_mv (Nv q) rfl ?_))
   refine n_lss p q gn rfl rfl ?_
   refine aops_end (hK37 _ ?_)
   refine awp_condQ (q := p < q) rfl (fun h10 => ?_) (fun h10 => ?_)
   ·refine awp_skip (hK36 _ ?_)
    refine awp_block ?_
    refine awp_seq fun K38 hK38 => awp_region rfl (o_mv (Nv p) rfl (o_mv (Nv q) rfl ?_))
    refine n_add p q gn rfl rfl (by simp only [topOf]; omega) ?_
    refine n_conv (p + q) gn rfl f22_ f81_ (by simp only [topOf]; omega) ?_
    refine n_shr1 (p + q) gn rfl rfl ?_
    refine n_conv ((p + q) / 2) gn rfl f81_ f22_ (by simp only [topOf]; omega) ?_
    refine o_as (Nv ((p + q) / 2)) rfl (aops_end (hK38 _ (awp_seq fun K39 hK39 => awp_regionD rfl (o_mv (.clo 45 [.ip [.clo kf []]]) rfl (o_mv (.row 21) rfl (o_mv (Nv ((((a + b) / 2) + m) - 1)) rfl (o_mv (Nv ((p + q) / 2)) rfl ?_)))))))
    refine n_sub ((((a + b) / 2) + m) - 1) ((p + q) / 2) gn rfl rfl (by omega) (by simp only [topOf]; omega) ?_
    refine i_indexRow D (((((a + b) / 2) + m) - 1) - ((p + q) / 2)) gn f38_ rfl rfl rfl (by omega) ?_
    refine i_loadRow D (((((a + b) / 2) + m) - 1) - ((p + q) / 2)) gn f39_ rfl rfl (by omega) ?_
    refine o_mv (.row 21) rfl (o_mv (Nv ((p + q) / 2)) rfl ?_)
    refine i_indexRow D ((p + q) / 2) gn f38_ rfl rfl rfl (by omega) ?_
    refine i_loadRow D ((p + q) / 2) gn f39_ rfl rfl (by omega) ?_
    refine o_callG [] [Iv (D.getD (((((a + b) / 2) + m) - 1) - ((p + q) / 2)) 0), Iv (D.getD ((p + q) / 2) 0), .ip [.clo kf []]] _ (Iv (cmpZ (key (D.getD (((((a + b) / 2) + m) - 1) - ((p + q) / 2)) 0)) (key (D.getD ((p + q) / 2) 0)))) [p1v us, v2v, r0v F, v3v, r1v D] gn f78_ rfl trivial rfl rfl (LeL.cons (AV.le_refl _) (LeL.cons (AV.le_refl _) (LeL.cons (AV.le_refl _) LeL.nil))) (hkey (D.getD (((((a + b) / 2) + m) - 1) - ((p + q) / 2)) 0) (D.getD ((p + q) / 2) 0)) rfl ?_
    refine o_lss (a := (cmpZ (key (D.getD (((((a + b) / 2) + m) - 1) - ((p + q) / 2)) 0)) (key (D.getD ((p + q) / 2) 0)))) (c := ((0 : Nat) : Int)) gn rfl rfl ?_
    refine o_notP (q := (cmpZ (key (D.getD (((((a + b) / 2) + m) - 1) - ((p + q) / 2)) 0)) (key (D.getD ((p + q) / 2) 0))) < ((0 : Nat) : Int)) gn rfl ?_
    refine aops_end ⟨by kernel_rfl, ?_⟩
    refine hK39 _ ?_
    refine awp_condQ (q := ¬ ((cmpZ (key (D.getD (((((a + b) / 2) + m) - 1) - ((p + q) / 2)) 0)) (key (D.getD ((p + q) / 2) 0))) < ((0 : Nat) : Int))) rfl (fun h11 => ?_) (fun h11 => ?_)
    ·refine awp_region rfl (o_mv (Nv ((p + q) / 2)) rfl ?_)
     refine n_add ((p + q) / 2) 1 gn rfl rfl (by simp only [topOf]; omega) ?_
     refine o_as (Nv (((p + q) / 2) + 1)) rfl (aops_end ?_)
     refine ⟨_, _, ?lt, ⟨(p + q) / 2 + 1, q, (bs_up hbs (by assumption) (pC_y (by assumption))), (by omega), rfl, rfl⟩, ?wk⟩
     case lt => omega
     case wk => exact Wk.sub ⟨rfl, rfl, rfl, rfl, rfl, rfl, rfl, rfl, (by first | rfl | exact nm_int (by omega)), rfl, trivial⟩ ⟨rfl, rfl, rfl, rfl, rfl, trivial⟩
    ·refine awp_region rfl (o_mv (Nv ((p + q) / 2)) rfl (o_as (Nv ((p + q) / 2)) rfl (aops_end ?_)))
     refine ⟨_, _, ?lt, ⟨p, (p + q) / 2, (bs_dn hbs (by assumption) (pC_n (Decidable.not_not.1 (by assumption)))), (by omega), rfl, rfl⟩, ?wk⟩
     case lt => omega
     case wk => exact Wk.sub ⟨rfl, rfl, rfl, rfl, rfl, rfl, rfl, rfl, rfl, (by first | rfl | exact nm_int (by omega)), trivial⟩ ⟨rfl, rfl, rfl, rfl, rfl, trivial⟩
   ·refine awp_exit ?_
    refine hK35 _ (awp_seq fun K40 hK40 => ?_)
    have hps := (bs_end hbs (by assumption)).symm
    refine awp_region rfl (o_mv (Nv (((a + b) / 2) + m)) rfl (o_mv (Nv p) rfl ?_))
    refine n_sub (((a + b) / 2) + m) p gn rfl rfl (by omega) (by simp only [topOf]; omega) ?_
    refine o_as (Nv ((((a + b) / 2) + m) - p)) rfl (aops_end (hK40 _ ?_))
    refine awp_seqJ (J := fun σ => ∃ (X1 : List Int), (X1 = if p < m ∧ m < (((a + b) / 2) + m - p) then rotF (m - p + ((((a + b) / 2) + m - p) - m)) D m (m - p) ((((a + b) / 2) + m - p) - m) else D) ∧ (X1.length = D.length) ∧ True ∧ σ = ⟨[(0, .row 21), (1, Nv a), (2, Nv m), (3, Nv b), (4, .clo 45 [.ip [.clo kf []]]), (18, Nv ((a + b) / 2)), (20, Nv p), (24, Nv (((a + b) / 2) + m - p))], [p1v us, v2v, r0v F, v3v, r1v X1]⟩) ?ja6 ?jb6
    case ja6 =>
     refine awp_seq fun K41 hK41 => awp_region rfl (o_mv (Nv p) rfl (o_mv (Nv m) rfl ?_))
     refine n_lss p m gn rfl rfl ?_
     refine o_mv (bp (p < m)) rfl ?_
     refine o_splitP (q := p < m) 181 rfl (fun h12 => ?_) (fun h12 => ?_)
     ·refine o_move (Nv m) (Gd.yes rfl rfl (decide_eq_true h12)) rfl (o_move (Nv ((((a + b) / 2) + m) - p)) (Gd.yes rfl rfl (decide_eq_true h12)) rfl ?_)
      refine n_lss m ((((a + b) / 2) + m) - p) (Gd.yes rfl rfl (decide_eq_true h12)) rfl rfl ?_
      refine o_pickT (bp (m < ((((a + b) / 2) + m) - p))) gn rfl (decide_eq_true h12) rfl ?_
      refine aops_end (hK41 _ ?_)
      refine awp_condQ (q := m < ((((a + b) / 2) + m) - p)) rfl (fun h13 => ?_) (fun h13 => ?_)
      ·refine awp_regionSW 5 191 _ 73 [] _ _ _ _ _ [.row 21, Nv p, Nv m, Nv ((((a + b) / 2) + m) - p), .clo 45 [.ip [.clo kf []]]] (.tup []) [v2v, r0v F, v3v, r1v (rotF (m - p + ((((a + b) / 2) + m - p) - m)) D m (m - p) ((((a + b) / 2) + m - p) - m)), p1v us] rfl rfl rfl f85_ ?_
       refine o_mv (.row 21) rfl (o_mv (Nv p) rfl (o_mv (Nv m) rfl (o_mv (Nv ((((a + b) / 2) + m) - p)) rfl (o_mv (.clo 45 [.ip [.clo kf []]]) rfl ?_))))
       refine aops_end ⟨_, Wk.sub (σ' := ⟨[(0, .row 21), (1, Nv a), (2, Nv m), (3, Nv b), (4, .clo 45 [.ip [.clo kf []]]), (18, Nv ((a + b) / 2)), (19, Nv (((a + b) / 2) + m)), (22, Nv ((((a + b) / 2) + m) - 1)), (20, Nv p), (21, Nv q), (149, Nv p), (150, Nv q), (151, bp (p < q)), (175, Nv (((a + b) / 2) + m)), (176, Nv p), (177, Nv ((((a + b) / 2) + m) - p)), (24, Nv ((((a + b) / 2) + m) - p)), (178, Nv p), (179, Nv m), (180, bp (p < m)), (181, bp (p < m)), (182, Nv m), (183, Nv ((((a + b) / 2) + m) - p)), (184, bp (m < ((((a + b) / 2) + m) - p))), (185, bp (m < ((((a + b) / 2) + m) - p))), (186, .row 21), (187, Nv p), (188, Nv m), (189, Nv ((((a + b) / 2) + m) - p)), (190, .clo 45 [.ip [.clo kf []]])], [v2v, r0v F, v3v, r1v D, p1v us]⟩) ⟨rfl, rfl, rfl, rfl, rfl, rfl, rfl, rfl, rfl, rfl, rfl, rfl, rfl, rfl, rfl, rfl, rfl, rfl, rfl, rfl, rfl, rfl, rfl, rfl, rfl, rfl, rfl, rfl, rfl, rfl, trivial⟩ ⟨rfl, rfl, rfl, rfl, rfl, trivial⟩, rfl, rfl, scalls_of_r (K := [2, 3, 21]) (m := [v2v, r0v F, v3v, r1v D]) (m' := [v2v, r0v F, v3v, r1v (rotF (m - p + ((((a + b) / 2) + m - p) - m)) D m (m - p) ((((a + b) / 2) + m - p) - m))]) (e := [p1v us]) (c_roti kf key hkey D F p m (((a + b) / 2) + m - p) (by omega) (by omega) (by omega) hD) rfl rfl, ?_⟩
       exact ⟨_, ⟨rotF (m - p + ((((a + b) / 2) + m - p) - m)) D m (m - p) ((((a + b) / 2) + m - p) - m), (if_pos (by omega)).symm, rot_len _ _ _ _ _, trivial, rfl⟩, Wk.sub ⟨rfl, rfl, rfl, rfl, rfl, rfl, rfl, (by first | rfl | exact nm_int (by omega)), trivial⟩ ⟨rfl, rfl, rfl, rfl, (by first | rfl | exact row_ns (by simp) | (first | exact row_is rfl | exact row_is (by rw [← sym_1 hfe (by assumption) hie, show q = i - 1 - a by omega]) | exact row_is (by rw [← sym_2 hfe (by assumption) (by assumption) hie, show q = m - i by omega]) | exact row_is (sym_3 hfe (by assumption) (by assumption) hps hX1 hX2 (if_pos (by omega)).symm) | exact row_is (sym_3 hfe (by assumption) (by assumption) hps hX1 hX2 (if_neg (by omega)).symm))), trivial⟩⟩
      ·refine awp_skip ?_
       exact ⟨_, ⟨D, (if_neg (by omega)).symm, rfl, trivial, rfl⟩, Wk.sub ⟨rfl, rfl, rfl, rfl, rfl, rfl, rfl, (by first | rfl | exact nm_int (by omega)), trivial⟩ ⟨rfl, rfl, rfl, rfl, (by first | rfl | exact row_ns (by simp) | (first | exact row_is rfl | exact row_is (by rw [← sym_1 hfe (by assumption) hie, show q = i - 1 - a by omega]) | exact row_is (by rw [← sym_2 hfe (by assumption) (by assumption) hie, show q = m - i by omega]) | exact row_is (sym_3 hfe (by assumption) (by assumption) hps hX1 hX2 (if_pos (by omega)).symm) | exact row_is (sym_3 hfe (by assumption) (by assumption) hps hX1 hX2 (if_neg (by omega)).symm))), trivial⟩⟩
     ·refine o_skip rfl rfl (decide_eq_false h12) (o_skip rfl rfl (decide_eq_false h12) (o_skip rfl rfl (decide_eq_false h12) ?_))
      refine o_pickF Fv gn rfl (decide_eq_false h12) rfl ?_
      refine aops_end (hK41 _ ?_)
      refine awp_condB (b := false) rfl (fun hh => absurd (hh.symm.trans rfl) (by decide)) (fun _ => ?_)
      refine awp_skip ?_
      exact ⟨_, ⟨D, (if_neg (by omega)).symm, rfl, trivial, rfl⟩, Wk.sub ⟨rfl, rfl, rfl, rfl, rfl, rfl, rfl, (by first | rfl | exact nm_int (by omega)), trivial⟩ ⟨rfl, rfl, rfl, rfl, (by first | rfl | exact row_ns (by simp) | (first | exact row_is rfl | exact row_is (by rw [← sym_1 hfe (by assumption) hie, show q = i - 1 - a by omega]) | exact row_is (by rw [← sym_2 hfe (by assumption) (by assumption) hie, show q = m - i by omega]) | exact row_is (sym_3 hfe (by assumption) (by assumption) hps hX1 hX2 (if_pos (by omega)).symm) | exact row_is (sym_3 hfe (by assumption) (by assumption) hps hX1 hX2 (if_neg (by omega)).symm))), trivial⟩⟩
    rintro _ ⟨X1, hX1, hl1, -, rfl⟩
    refine awp_seqJ (J := fun σ => ∃ (X2 : List Int), (X2 = if a < p ∧ p < ((a + b) / 2) then symF key e X1 a p ((a + b) / 2) else X1) ∧ (X2.length = D.length) ∧ True ∧ σ = ⟨[(0, .row 21), (1, Nv a), (2, Nv m), (3, Nv b), (4, .clo 45 [.ip [.clo kf []]]), (18, Nv ((a + b) / 2)), (20, Nv p), (24, Nv (((a + b) / 2) + m - p))], [p1v us, v2v, r0v F, v3v, r1v X2]⟩) ?ja7 ?jb7
    case ja7 =>
     refine awp_seq fun K42 hK42 => awp_region rfl (o_mv (Nv a) rfl (o_mv (Nv p) rfl ?_))
     refine n_lss a p gn rfl rfl ?_
     refine o_mv (bp (a < p)) rfl ?_
     refine o_splitP (q := a < p) 195 rfl (fun h14 => ?_) (fun h14 => ?_)
     ·refine o_move (Nv p) (Gd.yes rfl rfl (decide_eq_true h14)) rfl (o_move (Nv ((a + b) / 2)) (Gd.yes rfl rfl (decide_eq_true h14)) rfl ?_)
      refine n_lss p ((a + b) / 2) (Gd.yes rfl rfl (decide_eq_true h14)) rfl rfl ?_
      refine o_pickT (bp (p < ((a + b) / 2))) gn rfl (decide_eq_true h14) rfl ?_
      refine aops_end (hK42 _ ?_)
      refine awp_condQ (q := p < ((a + b) / 2)) rfl (fun h15 => ?_) (fun h15 => ?_)
      ·refine awp_regionSW 5 205 _ 63 [] _ _ _ _ _ [.row 21, Nv a, Nv p, Nv ((a + b) / 2), .clo 45 [.ip [.clo kf []]]] (.tup []) [v2v, r0v F, v3v, r1v (symF key e X1 a p ((a + b) / 2)), p1v us] rfl rfl rfl f86_ ?_
       refine o_mv (.row 21) rfl (o_mv (Nv a) rfl (o_mv (Nv p) rfl (o_mv (Nv ((a + b) / 2)) rfl (o_mv (.clo 45 [.ip [.clo kf []]]) rfl ?_))))
       refine aops_end ⟨_, Wk.sub (σ' := ⟨[(0, .row 21), (1, Nv a), (2, Nv m), (3, Nv b), (4, .clo 45 [.ip [.clo kf []]]), (18, Nv ((a + b) / 2)), (20, Nv p), (24, Nv (((a + b) / 2) + m - p)), (192, Nv a), (193, Nv p), (194, bp (a < p)), (195, bp (a < p)), (196, Nv p), (197, Nv ((a + b) / 2)), (198, bp (p < ((a + b) / 2))), (199, bp (p < ((a + b) / 2))), (200, .row 21), (201, Nv a), (202, Nv p), (203, Nv ((a + b) / 2)), (204, .clo 45 [.ip [.clo kf []]])], [v2v, r0v F, v3v, r1v X1, p1v us]⟩) ⟨rfl, rfl, rfl, rfl, rfl, rfl, rfl, rfl, rfl, rfl, rfl, rfl, rfl, rfl, rfl, rfl, rfl, rfl, rfl, rfl, rfl, trivial⟩ ⟨rfl, rfl, rfl, rfl, rfl, trivial⟩, rfl, rfl, scalls_of_r (K := [2, 3, 21]) (m := [v2v, r0v F, v3v, r1v X1]) (m' := [v2v, r0v F, v3v, r1v (symF key e X1 a p ((a + b) / 2))]) (e := [p1v us]) (ih e (by omega) X1 a p ((a + b) / 2) (by omega) (by omega) (by omega) (by omega) (by omega)) rfl rfl, ?_⟩
       exact ⟨_, ⟨symF key e X1 a p ((a + b) / 2), (if_pos (by omega)).symm, (sym_len key _ _ _ _ _).trans hl1, trivial, rfl⟩, Wk.sub ⟨rfl, rfl, rfl, rfl, rfl, rfl, rfl, rfl, trivial⟩ ⟨rfl, rfl, rfl, rfl, (by first | rfl | exact row_ns (by simp) | (first | exact row_is rfl | exact row_is (by rw [← sym_1 hfe (by assumption) hie, show q = i - 1 - a by omega]) | exact row_is (by rw [← sym_2 hfe (by assumption) (by assumption) hie, show q = m - i by omega]) | exact row_is (sym_3 hfe (by assumption) (by assumption) hps hX1 hX2 (if_pos (by omega)).symm) | exact row_is (sym_3 hfe (by assumption) (by assumption) hps hX1 hX2 (if_neg (by omega)).symm))), trivial⟩⟩
      ·refine awp_skip ?_
       exact ⟨_, ⟨X1, (if_neg (by omega)).symm, hl1, trivial, rfl⟩, Wk.sub ⟨rfl, rfl, rfl, rfl, rfl, rfl, rfl, rfl, trivial⟩ ⟨rfl, rfl, rfl, rfl, (by first | rfl | exact row_ns (by simp) | (first | exact row_is rfl | exact row_is (by rw [← sym_1 hfe (by assumption) hie, show q = i - 1 - a by omega]) | exact row_is (by rw [← sym_2 hfe (by assumption) (by assumption) hie, show q = m - i by omega]) | exact row_is (sym_3 hfe (by assumption) (by assumption) hps hX1 hX2 (if_pos (by omega)).symm) | exact row_is (sym_3 hfe (by assumption) (by assumption) hps hX1 hX2 (if_neg (by omega)).symm))), trivial⟩⟩
     ·refine o_skip rfl rfl (decide_eq_false h14) (o_skip rfl rfl (decide_eq_false h14) (o_skip rfl rfl (decide_eq_false h14) ?_))
      refine o_pickF Fv gn rfl (decide_eq_false h14) rfl ?_
      refine aops_end (hK42 _ ?_)
      refine awp_condB (b := false) rfl (fun hh => absurd (hh.symm.trans rfl) (by decide)) (fun _ => ?_)
      refine awp_skip ?_
      exact ⟨_, ⟨X1, (if_neg (by omega)).symm, hl1, trivial, rfl⟩, Wk.sub ⟨rfl, rfl, rfl, rfl, rfl, rfl, rfl, rfl, trivial⟩ ⟨rfl, rfl, rfl, rfl, (by first | rfl | exact row_ns (by simp) | (first | exact row_is rfl | exact row_is (by rw [← sym_1 hfe (by assumption) hie, show q = i - 1 - a by omega]) | exact row_is (by rw [← sym_2 hfe (by assumption) (by assumption) hie, show q = m - i by omega]) | exact row_is (sym_3 hfe (by assumption) (by assumption) hps hX1 hX2 (if_pos (by omega)).symm) | exact row_is (sym_3 hfe (by assumption) (by assumption) hps hX1 hX2 (if_neg (by omega)).symm))), trivial⟩⟩
    rintro _ ⟨X2, hX2, hl2, -, rfl⟩
    refine awp_seq fun K43 hK43 => awp_region rfl (o_mv (Nv ((a + b) / 2)) rfl (o_mv (Nv (((a + b) / 2) + m - p)) rfl ?_))
    refine n_lss ((a + b) / 2) (((a + b) / 2) + m - p) gn rfl rfl ?_
    refine o_mv (bp (((a + b) / 2) < (((a + b) / 2) + m - p))) rfl ?_
    refine o_splitP (q := ((a + b) / 2) < (((a + b) / 2) + m - p)) 209 rfl (fun h16 => ?_) (fun h16 => ?_)
    ·refine o_move (Nv (((a + b) / 2) + m - p)) (Gd.yes rfl rfl (decide_eq_true h16)) rfl (o_move (Nv b) (Gd.yes rfl rfl (decide_eq_true h16)) rfl ?_)
     refine n_lss (((a + b) / 2) + m - p) b (Gd.yes rfl rfl (decide_eq_true h16)) rfl rfl ?_
     refine o_pickT (bp ((((a + b) / 2) + m - p) < b)) gn rfl (decide_eq_true h16) rfl ?_
     refine aops_end (hK43 _ ?_)
     refine awp_condQ (q := (((a + b) / 2) + m - p) < b) rfl (fun h17 => ?_) (fun h17 => ?_)
     ·refine awp_regionSW 5 219 _ 63 [] _ _ _ _ _ [.row 21, Nv ((a + b) / 2), Nv (((a + b) / 2) + m - p), Nv b, .clo 45 [.ip [.clo kf []]]] (.tup []) [v2v, r0v F, v3v, r1v (symF key e X2 ((a + b) / 2) (((a + b) / 2) + m - p) b), p1v us] rfl rfl rfl f86_ ?_
      refine o_mv (.row 21) rfl (o_mv (Nv ((a + b) / 2)) rfl (o_mv (Nv (((a + b) / 2) + m - p)) rfl (o_mv (Nv b) rfl (o_mv (.clo 45 [.ip [.clo kf []]]) rfl ?_))))
      refine aops_end ⟨_, Wk.sub (σ' := ⟨[(0, .row 21), (1, Nv a), (2, Nv m), (3, Nv b), (4, .clo 45 [.ip [.clo kf []]]), (18, Nv ((a + b) / 2)), (20, Nv p), (24, Nv (((a + b) / 2) + m - p)), (206, Nv ((a + b) / 2)), (207, Nv (((a + b) / 2) + m - p)), (208, bp (((a + b) / 2) < (((a + b) / 2) + m - p))), (209, bp (((a + b) / 2) < (((a + b) / 2) + m - p))), (210, Nv (((a + b) / 2) + m - p)), (211, Nv b), (212, bp ((((a + b) / 2) + m - p) < b)), (213, bp ((((a + b) / 2) + m - p) < b)), (214, .row 21), (215, Nv ((a + b) / 2)), (216, Nv (((a + b) / 2) + m - p)), (217, Nv b), (218, .clo 45 [.ip [.clo kf []]])], [v2v, r0v F, v3v, r1v X2, p1v us]⟩) ⟨rfl, rfl, rfl, rfl, rfl, rfl, rfl, rfl, rfl, rfl, rfl, rfl, rfl, rfl, rfl, rfl, rfl, rfl, rfl, rfl, rfl, trivial⟩ ⟨rfl, rfl, rfl, rfl, rfl, trivial⟩, rfl, rfl, scalls_of_r (K := [2, 3, 21]) (m := [v2v, r0v F, v3v, r1v X2]) (m' := [v2v, r0v F, v3v, r1v (symF key e X2 ((a + b) / 2) (((a + b) / 2) + m - p) b)]) (e := [p1v us]) (ih e (by omega) X2 ((a + b) / 2) (((a + b) / 2) + m - p) b (by omega) (by omega) (by omega) (by omega) (by omega)) rfl rfl, ?_⟩
      exact ⟨⟨[], [p1v us, v2v, r0v F, v3v, r1v (symF key f D a m b)]⟩, Wk.sub trivial ⟨rfl, rfl, rfl, rfl, (by first | rfl | exact row_ns (by simp) | (first | exact row_is rfl | exact row_is (by rw [← sym_1 hfe (by assumption) hie, show q = i - 1 - a by omega]) | exact row_is (by rw [← sym_2 hfe (by assumption) (by assumption) hie, show q = m - i by omega]) | exact row_is (sym_3 hfe (by assumption) (by assumption) hps hX1 hX2 (if_pos (by omega)).symm) | exact row_is (sym_3 hfe (by assumption) (by assumption) hps hX1 hX2 (if_neg (by omega)).symm))), trivial⟩, ⟨[], trivial, rfl, fun id ob h => keep_pin h rfl, rfl⟩⟩
     ·refine awp_skip ?_
      exact ⟨⟨[], [p1v us, v2v, r0v F, v3v, r1v (symF key f D a m b)]⟩, Wk.sub trivial ⟨rfl, rfl, rfl, rfl, (by first | rfl | exact row_ns (by simp) | (first | exact row_is rfl | exact row_is (by rw [← sym_1 hfe (by assumption) hie, show q = i - 1 - a by omega]) | exact row_is (by rw [← sym_2 hfe (by assumption) (by assumption) hie, show q = m - i by omega]) | exact row_is (sym_3 hfe (by assumption) (by assumption) hps hX1 hX2 (if_pos (by omega)).symm) | exact row_is (sym_3 hfe (by assumption) (by assumption) hps hX1 hX2 (if_neg (by omega)).symm))), trivial⟩, ⟨[], trivial, rfl, fun id ob h => keep_pin h rfl, rfl⟩⟩
    ·refine o_skip rfl rfl (decide_eq_false h16) (o_skip rfl rfl (decide_eq_false h16) (o_skip rfl rfl (decide_eq_false h16) ?_))
     refine o_pickF Fv gn rfl (decide_eq_false h16) rfl ?_
     refine aops_end (hK43 _ ?_)
     refine awp_condB (b := false) rfl (fun hh => absurd (hh.symm.trans rfl) (by decide)) (fun _ => ?_)
     refine awp_skip ?_
     exact ⟨⟨[], [p1v us, v2v, r0v F, v3v, r1v (symF key f D a m b)]⟩, Wk.sub trivial ⟨rfl, rfl, rfl, rfl, (by first | rfl | exact row_ns (by simp) | (first | exact row_is rfl | exact row_is (by rw [← sym_1 hfe (by assumption) hie, show q = i - 1 - a by omega]) | exact row_is (by rw [← sym_2 hfe (by assumption) (by assumption) hie, show q = m - i by omega]) | exact row_is (sym_3 hfe (by assumption) (by assumption) hps hX1 hX2 (if_pos (by omega)).symm) | exact row_is (sym_3 hfe (by assumption) (by assumption) hps hX1 hX2 (if_neg (by omega)).symm))), trivial⟩, ⟨[], trivial, rfl, fun id ob h => keep_pin h rfl, rfl⟩⟩

end Go.Proofs.YtjbaamfahkjhgaaDoor

namespace Go.Proofs.YtjbaamfahkjhgaaDoor
open Go Go.Ab Go.Mth
theorem f87_ : callable cx.P 53 = true := by kernel_rfl
theorem f88_ : tySc cx.P 59 = true := by kernel_rfl
theorem f89_ : callable cx.P 43 = true := by kernel_rfl
theorem f90_ : tySc cx.P 61 = true := by kernel_rfl
theorem f91_ : tyField cx.P 37 1 = some (1, 3) := by kernel_rfl
theorem f92_ : tyField cx.P 37 0 = some (0, 3) := by kernel_rfl
theorem c_isNaN (x : Int) : ECalls cx 53 [Iv x] Fv := by
 refine ecalls_of_awp Tryd.func53 (c := _) rfl (Nat.le_of_ble_eq_true rfl) ?_
 show awp cx 6 _ (postF cx Tryd.f53 _) ⟨[(0, Iv x)], []⟩
 refine awp_seq fun K0 hK0 => awp_region rfl (o_as Fv rfl (aops_end (hK0 _ (awp_seq fun K1 hK1 => awp_region rfl (o_mv (Iv x) rfl (o_mv (Iv x) rfl ?_))))))
 refine o_neq (a := x) (c := x) gn rfl rfl ?_
 refine n_as (v' := Fv) (by exact bpn (fun h => h rfl)) ?_
 refine o_as Fv rfl (aops_end (hK1 _ ?_))
 refine awp_ret ?_
 refine post_ret ⟨[Fv], ⟨AV.le_refl _, trivial⟩, rfl, ?_⟩
 rfl

theorem c_cmpInt (x y : Int) : ECalls cx 43 [Iv x, Iv y] (.lit (.int .i64 (cmpZ x y))) := by
 refine ecalls_of_awp Tryd.func43 (c := _) rfl (Nat.le_of_ble_eq_true rfl) ?_
 show awp cx 20 _ (postF cx Tryd.f43 _) ⟨[(0, Iv x), (1, Iv y)], []⟩
 refine awp_seq fun K0 hK0 => awp_region rfl (o_as (Nv 0) rfl (aops_end (hK0 _ (awp_seq fun K1 hK1 => awp_region rfl (o_mv (Iv x) rfl ?_)))))
 refine o_ct (c_isNaN _) gn f87_ rfl ?_
 refine o_as Fv rfl (aops_end (hK1 _ (awp_seq fun K2 hK2 => awp_region rfl (o_mv (Iv y) rfl ?_))))
 refine o_ct (c_isNaN _) gn f87_ rfl ?_
 refine o_as Fv rfl (aops_end (hK2 _ (awp_seq fun K3 hK3 => awp_seq fun K4 hK4 => awp_region rfl (o_mv Fv rfl (aops_end (hK4 _ ?_))))))
 refine awp_condB (b := false) rfl (fun hh => absurd (hh.symm.trans rfl) (by decide)) (fun _ => ?_)
 refine awp_skip (hK3 _ (awp_seq fun K5 hK5 => awp_seq fun K6 hK6 => awp_region rfl (o_mv Fv rfl (aops_end (hK6 _ ?_)))))
 refine awp_condB (b := false) rfl (fun hh => absurd (hh.symm.trans rfl) (by decide)) (fun _ => ?_)
 refine awp_skip (hK5 _ (awp_seq fun K7 hK7 => awp_seq fun K8 hK8 => awp_region rfl (o_mv (Iv x) rfl (o_mv (Iv y) rfl ?_))))
 refine o_lss (a := x) (c := y) gn rfl rfl ?_
 refine aops_end (hK8 _ ?_)
 refine awp_condQ (q := x < y) rfl (fun h1 => ?_) (fun h1 => ?_)
 ·refine awp_seq fun K9 hK9 => awp_region rfl (o_as (Iv (-1)) rfl (aops_end (hK9 _ ?_)))
  refine awp_ret ?_
  refine post_ret ⟨[Iv (-1)], ⟨AV.le_refl _, trivial⟩, rfl, ?_⟩
  exact congrArg (fun z => AV.lit (.int .i64 z)) (by unfold cmpZ; rw [if_pos (by assumption)]; all_goals rfl)
 ·refine awp_skip (hK7 _ (awp_seq fun K10 hK10 => awp_seq fun K11 hK11 => awp_region rfl (o_mv (Iv x) rfl (o_mv (Iv y) rfl ?_))))
  refine o_gtr (a := x) (c := y) gn rfl rfl ?_
  refine aops_end (hK11 _ ?_)
  refine awp_condQ (q := y < x) rfl (fun h2 => ?_) (fun h2 => ?_)
  ·refine awp_seq fun K12 hK12 => awp_region rfl (o_as (Nv 1) rfl (aops_end (hK12 _ ?_)))
   refine awp_ret ?_
   refine post_ret ⟨[Nv 1], ⟨AV.le_refl _, trivial⟩, rfl, ?_⟩
   exact congrArg (fun z => AV.lit (.int .i64 z)) (by unfold cmpZ; rw [if_neg (by assumption), if_pos (by assumption)]; all_goals rfl)
  ·refine awp_skip (hK10 _ (awp_seq fun K13 hK13 => awp_region rfl (o_as (Nv 0) rfl (aops_end (hK13 _ ?_)))))
   refine awp_ret ?_
   refine post_ret ⟨[Nv 0], ⟨AV.le_refl _, trivial⟩, rfl, ?_⟩
   exact congrArg (fun z => AV.lit (.int .i64 z)) (by unfold cmpZ; rw [if_neg (by assumption), if_neg (by assumption)]; all_goals rfl)

theorem c_cmpf (kf : Nat) (key : Fal → Int) (hkc : callable cx.P kf = true) (hkf : ∀ x : Fal, ECalls cx kf [falV x] (.lit (.int .i64 (key x)))) (x y : Fal) : ECalls cx 42 [falV x, falV y, .ip [.clo kf []]] (.lit (.int .i64 (cmpZ (key x) (key y)))) := by
 refine ecalls_of_awp Tryd.func42 (c := _) rfl (Nat.le_of_ble_eq_true rfl) ?_
 show awp cx 13 _ (postF cx Tryd.f42 _) ⟨[(0, falV x), (1, falV y), (2, .ip [.clo kf []])], []⟩
 refine awp_seq fun K0 hK0 => awp_region rfl ?_
 refine o_box 2 [Iv (x.steps), Iv (x.rest), Sv (x.lmul), Sv (x.ladd), Sv (x.ldiv), Sv (x.bound)] gn rfl rfl ?_
 refine o_box 3 [Iv (y.steps), Iv (y.rest), Sv (y.lmul), Sv (y.ladd), Sv (y.ldiv), Sv (y.bound)] gn rfl rfl ?_
 refine o_as (Nv 0) rfl (aops_end (hK0 _ (awp_seq fun K1 hK1 => awp_regionD rfl ?_)))
 refine o_loadIS (.clo kf []) gn f88_ rfl rfl ?_
 refine o_loadA [Iv (x.steps), Iv (x.rest), Sv (x.lmul), Sv (x.ladd), Sv (x.ldiv), Sv (x.bound)] gn f75_ rfl rfl rfl rfl rfl ?_
 refine o_callG [] [.agg [Iv (x.steps), Iv (x.rest), Sv (x.lmul), Sv (x.ladd), Sv (x.ldiv), Sv (x.bound)]] _ (Iv (key x)) [(3, .var 37 [Iv (y.steps), Iv (y.rest), Sv (y.lmul), Sv (y.ladd), Sv (y.ldiv), Sv (y.bound)]), (2, .var 37 [Iv (x.steps), Iv (x.rest), Sv (x.lmul), Sv (x.ladd), Sv (x.ldiv), Sv (x.bound)])] gn hkc rfl trivial rfl rfl (LeL.cons (AV.le_refl _) LeL.nil) (hkf x) rfl ?_
 refine o_loadIS (.clo kf []) gn f88_ rfl rfl ?_
 refine o_loadA [Iv (y.steps), Iv (y.rest), Sv (y.lmul), Sv (y.ladd), Sv (y.ldiv), Sv (y.bound)] gn f75_ rfl rfl rfl rfl rfl ?_
 refine o_callG [] [.agg [Iv (y.steps), Iv (y.rest), Sv (y.lmul), Sv (y.ladd), Sv (y.ldiv), Sv (y.bound)]] _ (Iv (key y)) [(3, .var 37 [Iv (y.steps), Iv (y.rest), Sv (y.lmul), Sv (y.ladd), Sv (y.ldiv), Sv (y.bound)]), (2, .var 37 [Iv (x.steps), Iv (x.rest), Sv (x.lmul), Sv (x.ladd), Sv (x.ldiv), Sv (x.bound)])] gn hkc rfl trivial rfl rfl (LeL.cons (AV.le_refl _) LeL.nil) (hkf y) rfl ?_
 refine o_ct (c_cmpInt (key x) (key y)) gn f89_ rfl ?_
 refine o_as (Iv (cmpZ (key x) (key y))) rfl ?_
 refine aops_end ⟨by kernel_rfl, ?_⟩
 refine hK1 _ ?_
 refine awp_ret ?_
 refine post_ret ⟨[Iv (cmpZ (key x) (key y))], ⟨AV.le_refl _, trivial⟩, rfl, ?_⟩
 rfl

theorem c_cmpi (kf : Nat) (key : Int → Int) (hkc : callable cx.P kf = true) (hkf : ∀ x : Int, ECalls cx kf [.lit (.int .i64 x)] (.lit (.int .i64 (key x)))) (x y : Int) : ECalls cx 45 [Iv x, Iv y, .ip [.clo kf []]] (.lit (.int .i64 (cmpZ (key x) (key y)))) := by
 refine ecalls_of_awp Tryd.func45 (c := _) rfl (Nat.le_of_ble_eq_true rfl) ?_
 show awp cx 13 _ (postF cx Tryd.f45 _) ⟨[(0, Iv x), (1, Iv y), (2, .ip [.clo kf []])], []⟩
 refine awp_seq fun K0 hK0 => awp_region rfl (o_as (Nv 0) rfl (aops_end (hK0 _ (awp_seq fun K1 hK1 => awp_regionD rfl ?_))))
 refine o_loadIS (.clo kf []) gn f90_ rfl rfl ?_
 refine o_mv (Iv x) rfl ?_
 refine o_callG [] [Iv x] _ (Iv (key x)) [] gn hkc rfl trivial rfl rfl (LeL.cons (AV.le_refl _) LeL.nil) (hkf x) rfl ?_
 refine o_loadIS (.clo kf []) gn f90_ rfl rfl ?_
 refine o_mv (Iv y) rfl ?_
 refine o_callG [] [Iv y] _ (Iv (key y)) [] gn hkc rfl trivial rfl rfl (LeL.cons (AV.le_refl _) LeL.nil) (hkf y) rfl ?_
 refine o_ct (c_cmpInt (key x) (key y)) gn f89_ rfl ?_
 refine o_as (Iv (cmpZ (key x) (key y))) rfl ?_
 refine aops_end ⟨by kernel_rfl, ?_⟩
 refine hK1 _ ?_
 refine awp_ret ?_
 refine post_ret ⟨[Iv (cmpZ (key x) (key y))], ⟨AV.le_refl _, trivial⟩, rfl, ?_⟩
 rfl

theorem c_key2 (x : Fal) : ECalls cx 22 [falV x] (.lit (.int .i64 x.rest)) := by
 refine ecalls_of_awp Tryd.func22 (c := _) rfl (Nat.le_of_ble_eq_true rfl) ?_
 show awp cx 5 _ (postF cx Tryd.f22 _) ⟨[(0, falV x)], []⟩
 refine awp_seq fun K0 hK0 => awp_region rfl ?_
 refine o_box 2 [Iv (x.steps), Iv (x.rest), Sv (x.lmul), Sv (x.ladd), Sv (x.ldiv), Sv (x.bound)] gn rfl rfl ?_
 refine o_as (Nv 0) rfl (aops_end (hK0 _ (awp_seq fun K1 hK1 => awp_region rfl ?_)))
 refine o_fieldRef 1 gn f91_ rfl rfl ?_
 refine o_loadS (Iv (x.rest)) gn f39_ rfl rfl rfl ?_
 refine o_as (Iv (x.rest)) rfl (aops_end (hK1 _ ?_))
 refine awp_ret ?_
 refine post_ret ⟨[Iv (x.rest)], ⟨AV.le_refl _, trivial⟩, rfl, ?_⟩
 rfl

theorem c_key3 (x : Fal) : ECalls cx 23 [falV x] (.lit (.int .i64 x.steps)) := by
 refine ecalls_of_awp Tryd.func23 (c := _) rfl (Nat.le_of_ble_eq_true rfl) ?_
 show awp cx 5 _ (postF cx Tryd.f23 _) ⟨[(0, falV x)], []⟩
 refine awp_seq fun K0 hK0 => awp_region rfl ?_
 refine o_box 2 [Iv (x.steps), Iv (x.rest), Sv (x.lmul), Sv (x.ladd), Sv (x.ldiv), Sv (x.bound)] gn rfl rfl ?_
 refine o_as (Nv 0) rfl (aops_end (hK0 _ (awp_seq fun K1 hK1 => awp_region rfl ?_)))
 refine o_fieldRef 0 gn f92_ rfl rfl ?_
 refine o_loadS (Iv (x.steps)) gn f39_ rfl rfl rfl ?_
 refine o_as (Iv (x.steps)) rfl (aops_end (hK1 _ ?_))
 refine awp_ret ?_
 refine post_ret ⟨[Iv (x.steps)], ⟨AV.le_refl _, trivial⟩, rfl, ?_⟩
 rfl

theorem c_key4 (x : Int) : ECalls cx 25 [Iv x] (.lit (.int .i64 x)) := by
 refine ecalls_of_awp Tryd.func25 (c := _) rfl (Nat.le_of_ble_eq_true rfl) ?_
 show awp cx 4 _ (postF cx Tryd.f25 _) ⟨[(0, Iv x)], []⟩
 refine awp_seq fun K0 hK0 => awp_region rfl (o_as (Nv 0) rfl (aops_end (hK0 _ (awp_seq fun K1 hK1 => awp_region rfl (o_mv (Iv x) rfl (o_as (Iv x) rfl (aops_end (hK1 _ ?_))))))))
 refine awp_ret ?_
 refine post_ret ⟨[Iv x], ⟨AV.le_refl _, trivial⟩, rfl, ?_⟩
 rfl

end Go.Proofs.YtjbaamfahkjhgaaDoor

namespace Go.Mth
section
variable {α : Type} [Inhabited α]
def bl (key : α → Int) (s : Nat) (D : List α) : Nat → List α
 | 0 => []
 | c + 1 => bl key s D c ++ srt key ((D.drop (c * s)).take s)
def fu (key : α → Int) (s : Nat) : Nat → List α → List α
 | 0, l => srt key l
 | r + 1, l => srt key (l.take s) ++ fu key s r (l.drop s)
variable {key : α → Int}
theorem bl_len {s : Nat} {D : List α} : ∀ c, c * s ≤ D.length → (bl key s D c).length = c * s
 | 0, _ => by simp [bl]
 | c + 1, h => by
  have e : (c + 1) * s = c * s + s := Nat.succ_mul c s
  rw [bl, List.length_append, bl_len c (by omega), srt_len, List.length_take, List.length_drop]
  omega
theorem fu_len {s : Nat} : ∀ (r : Nat) (l : List α), (fu key s r l).length = l.length
 | 0, l => srt_len
 | r + 1, l => by
  rw [fu, List.length_append, srt_len, fu_len r, List.length_take, List.length_drop]
  omega
theorem bl_fu {s : Nat} {D : List α} : ∀ (c r : Nat), bl key s D c ++ fu key s r (D.drop (c * s)) = fu key s (c + r) D
 | 0, r => by simp [bl]
 | c + 1, r => by
  rw [bl, List.append_assoc, show c + 1 + r = c + (r + 1) by omega, ← bl_fu c (r + 1), fu, List.drop_drop, Nat.succ_mul]
theorem bl_X {s a c : Nat} {D : List α} (ha : a = c * s) (h : a ≤ D.length) : (bl key s D c ++ D.drop a).length = D.length := by
 rw [List.length_append, bl_len c (by omega), List.length_drop]; omega
theorem inx_step {a c : Nat} {D : List α} (ha : a = c * 20) (h : a + 20 ≤ D.length) : blk key (bl key 20 D c ++ D.drop a) a (a + 20) = bl key 20 D (c + 1) ++ D.drop (a + 20) := by
 have hl : (bl key 20 D c).length = a := (bl_len c (by omega)).trans ha.symm
 have hd : (bl key 20 D c ++ D.drop a).drop (a + 20) = D.drop (a + 20) := by
  rw [List.drop_append, List.drop_of_length_le (show (bl key 20 D c).length ≤ a + 20 by omega), List.nil_append, hl, show a + 20 - a = 20 by omega, List.drop_drop]
 unfold blk
 rw [hd, List.take_left' hl, List.drop_left' hl, bl, ← ha, show a + 20 - a = 20 by omega, List.append_assoc]
theorem inx_end {a c : Nat} {D : List α} (ha : a = c * 20) (h : a ≤ D.length) : blk key (bl key 20 D c ++ D.drop a) a D.length = fu key 20 c D := by
 have hl : (bl key 20 D c).length = a := (bl_len c (by omega)).trans ha.symm
 have hX := bl_X (key := key) ha h
 have hd : (bl key 20 D c ++ D.drop a).drop D.length = [] := List.drop_of_length_le (by omega)
 have ht : (D.drop a).take (D.length - a) = D.drop a := List.take_of_length_le (by rw [List.length_drop]; omega)
 have hb := bl_fu (key := key) (s := 20) (D := D) c 0
 rw [Nat.add_zero, ← ha] at hb
 unfold blk
 rw [hd, List.take_left' hl, List.drop_left' hl, ht, List.append_nil]
 exact hb
theorem lt_mul {x y s : Nat} (h : x * s < y * s) : x < y := Nat.lt_of_mul_lt_mul_right h
theorem st_c {s d a c n : Nat} (ha : a = d * (2 * s)) (h : a + 2 * s ≤ n) (hc : n < c * s + s) : 2 * d + 2 ≤ c := by
 have e : (2 * d + 2) * s = a + 2 * s := by rw [ha, Nat.add_mul, Nat.mul_comm 2 d, Nat.mul_assoc]
 have e2 : (c + 1) * s = c * s + s := Nat.succ_mul c s
 have := lt_mul (x := 2 * d + 2) (y := c + 1) (s := s) (by omega)
 omega
theorem st_step {s d a c f : Nat} {D Y : List α} (hs : 0 < s) (ha : a = d * (2 * s)) (hY : Y = bl key (2 * s) D d ++ fu key s (c - 2 * d) (D.drop a)) (h : a + 2 * s ≤ D.length) (hc : D.length < c * s + s) (hf : 2 * s ≤ f) :
  symF key f Y a (a + s) (a + 2 * s) = bl key (2 * s) D (d + 1) ++ fu key s (c - 2 * (d + 1)) (D.drop (a + 2 * s)) := by
 have h2 := st_c ha h hc
 have hl : (bl key (2 * s) D d).length = a := (bl_len d (by omega)).trans ha.symm
 have hL : (D.drop a).length = D.length - a := List.length_drop
 have u1 : (srt key ((D.drop a).take s)).length = s := by rw [srt_len, List.length_take]; omega
 have u2 : (srt key (((D.drop a).drop s).take s)).length = s := by rw [srt_len, List.length_take, List.length_drop]; omega
 rw [hY, show c - 2 * d = (c - 2 * (d + 1)) + 1 + 1 by omega, fu, fu]
 have q := sym_ok (key := key) f (bl key (2 * s) D d) (srt key ((D.drop a).take s)) (srt key (((D.drop a).drop s).take s)) (fu key s (c - 2 * (d + 1)) (((D.drop a).drop s).drop s)) a (a + s) (a + 2 * s) (by omega) srt_srt srt_srt (by omega) (by omega) hl.symm (by omega) (by omega)
 rw [q, ← srt_app, bl, ← ha, List.append_assoc]
 congr 1
 rw [List.drop_drop, List.drop_drop, show 2 * s = s + s by omega, List.take_add, ← Nat.add_assoc, List.drop_drop]
theorem st_end1 {s d a c f : Nat} {D Y : List α} (hs : 0 < s) (ha : a = d * (2 * s)) (hY : Y = bl key (2 * s) D d ++ fu key s (c - 2 * d) (D.drop a)) (h : a + s < D.length) (h' : ¬ a + 2 * s ≤ D.length) (hc : D.length < c * s + s) (hc2 : c * s ≤ D.length) (hf : D.length - a ≤ f) :
  symF key f Y a (a + s) D.length = fu key (2 * s) d D := by
 have e0 : (2 * d + 1) * s = a + s := by rw [ha, Nat.add_mul, Nat.mul_comm 2 d, Nat.mul_assoc]; omega
 have e1 : (2 * d + 2) * s = a + 2 * s := by rw [ha, Nat.add_mul, Nat.mul_comm 2 d, Nat.mul_assoc]
 have e2 : (c + 1) * s = c * s + s := Nat.succ_mul c s
 have c1 := lt_mul (x := 2 * d + 1) (y := c + 1) (s := s) (by omega)
 have c2 := lt_mul (x := c) (y := 2 * d + 2) (s := s) (by omega)
 have hl : (bl key (2 * s) D d).length = a := (bl_len d (by omega)).trans ha.symm
 have hL : (D.drop a).length = D.length - a := List.length_drop
 have u1 : (srt key ((D.drop a).take s)).length = s := by rw [srt_len, List.length_take]; omega
 have u2 : (srt key ((D.drop a).drop s)).length = D.length - a - s := by rw [srt_len, List.length_drop]; omega
 rw [hY, show c - 2 * d = 0 + 1 by omega, fu, fu]
 have q := sym_ok (key := key) f (bl key (2 * s) D d) (srt key ((D.drop a).take s)) (srt key ((D.drop a).drop s)) [] a (a + s) D.length (by omega) srt_srt srt_srt (by omega) (by omega) hl.symm (by omega) (by omega)
 rw [List.append_nil] at q
 rw [q, ← srt_app, List.take_append_drop, List.append_nil, ← Nat.add_zero d, ← bl_fu d 0, fu, Nat.add_zero, ← ha]
theorem st_end0 {s d a c : Nat} {D Y : List α} (hs : 0 < s) (ha : a = d * (2 * s)) (hY : Y = bl key (2 * s) D d ++ fu key s (c - 2 * d) (D.drop a)) (h : ¬ a + s < D.length) (hle : a ≤ D.length) (hc : D.length < c * s + s) (hc2 : c * s ≤ D.length) :
  Y = fu key (2 * s) d D := by
 have e1 : (2 * d + 2) * s = a + 2 * s := by rw [ha, Nat.add_mul, Nat.mul_comm 2 d, Nat.mul_assoc]
 have e0 : (2 * d) * s = a := by rw [ha, Nat.mul_comm 2 d, Nat.mul_assoc]
 have c2 := lt_mul (x := c) (y := 2 * d + 2) (s := s) (by omega)
 have e2 : (c + 1) * s = c * s + s := Nat.succ_mul c s
 have c1 := lt_mul (x := 2 * d) (y := c + 1) (s := s) (by omega)
 have hL : (D.drop a).length = D.length - a := List.length_drop
 rw [hY, ← Nat.add_zero d, ← bl_fu d 0, Nat.add_zero, ← ha]
 congr 1
 rcases (show c - 2 * d = 0 ∨ c - 2 * d = 1 by omega) with e | e
 ·rw [e]; rfl
 ·rw [e]
  show srt key ((D.drop a).take s) ++ srt key ((D.drop a).drop s) = srt key (D.drop a)
  rw [show (D.drop a).drop s = [] from List.drop_of_length_le (by omega), show (D.drop a).take s = D.drop a from List.take_of_length_le (by omega)]
  simp [srt]
theorem st_fin {s c : Nat} {D : List α} (hs : 0 < s) (h : ¬ s < D.length) (hc : D.length < c * s + s) (hc2 : c * s ≤ D.length) : fu key s c D = srt key D := by
 have c2 := lt_mul (x := c) (y := 2) (s := s) (by omega)
 rcases (show c = 0 ∨ c = 1 by omega) with rfl | rfl
 ·rfl
 ·rw [fu, fu, List.drop_of_length_le (by omega), List.take_of_length_le (by omega)]
  simp [srt]
end
end Go.Mth

namespace Go.Proofs.YtjbaamfahkjhgaaDoor
open Go Go.Ab Go.Mth
theorem f93_ : callable cx.P 60 = true := by kernel_rfl
theorem f94_ : cx.P.underlying 28 = some (.slice 37) := by kernel_rfl
theorem f95_ : callable cx.P 52 = true := by kernel_rfl
theorem f96_ : callable cx.P 41 = true := by kernel_rfl
theorem f97_ : callable cx.P 62 = true := by kernel_rfl
theorem f98_ : callable cx.P 54 = true := by kernel_rfl
theorem f99_ : callable cx.P 44 = true := by kernel_rfl
theorem c_staf (kf : Nat) (key : Fal → Int) (hkey : ∀ x y : Fal, ECalls cx 42 [falV x, falV y, .ip [.clo kf []]] (.lit (.int .i64 (cmpZ (key x) (key y))))) (D : List Fal) (L : List Int) (hD : D.length ≤ 1000000) :
  RCalls cx 52 [.row 20, Nv D.length, .clo 42 [.ip [.clo kf []]]] [2, 3, 20] [v2v, r0v D, v3v, r1v L] (.tup []) [v2v, r0v (srt key D), v3v, r1v L] := by
 refine rcalls_of_x (X := [(2, false), (3, false), (20, true)]) (scalls_of_awpB 9009 Tryd.func52 (c := _) rfl (Nat.le_of_ble_eq_true rfl) rfl rfl rfl (fun us => ?_)) rfl
 refine awp_late ?_
 show awp cx 63 _ (lateQ cx 63 (postS cx Tryd.f52 (.tup []) [v2v, r0v (srt key D), v3v, r1v L] 9009 [.ref 2 0, .ref 3 0, .row 20] us)) ⟨[(0, .row 20), (1, Nv D.length), (2, .clo 42 [.ip [.clo kf []]])], [p0v us, v2v, r0v D, v3v, r1v L]⟩
 refine awp_seq fun K0 hK0 => awp_region rfl (o_as (Nv 20) rfl (aops_end (hK0 _ (awp_seq fun K1 hK1 => awp_region rfl (o_mv (Nv 20) rfl (o_as (Nv 0) rfl (o_as (Nv 20) rfl (aops_end (hK1 _ ?_)))))))))
 refine awp_seq fun K2 hK2 => ?_
 refine awp_block ?_
 refine awp_loopR (fun κ σ => ∃ (c0 : Nat), ∃ (a0 : Nat), (a0 = c0 * 20) ∧ (a0 ≤ D.length) ∧ (D.length - a0) = κ ∧ σ = ⟨[(0, .row 20), (1, Nv D.length), (2, .clo 42 [.ip [.clo kf []]]), (6, Nv 20), (7, Nv a0), (8, Nv (a0 + 20))], [p0v us, v2v, r0v (bl key 20 D c0 ++ D.drop a0), v3v, r1v L]⟩) ⟨_, _, ⟨0, 0, rfl, Nat.zero_le _, rfl, rfl⟩, ?wk0⟩ ?rd0
 case wk0 =>
  exact Wk.sub ⟨rfl, rfl, rfl, rfl, (by first | rfl | exact nm_int (by omega)), (by first | rfl | exact nm_int (by omega)), trivial⟩ ⟨rfl, rfl, (by first | rfl | exact row_ns (by simp) | (first | exact row_gs' (inx_step ha (by omega)) | exact row_gs' rfl | exact row_gs' (hX.trans (st_fin (by omega) (by omega) hc hc2)))), rfl, rfl, trivial⟩
 rintro κ _ ⟨c0, a0, ha, hle, rfl, rfl⟩
 have hXl := bl_X (key := key) ha hle
 refine awp_seq fun K3 hK3 => awp_seq fun K4 hK4 => awp_region rfl (o_mv (Nv (a0 + 20)) rfl (o_mv (Nv D.length) rfl ?_))
 refine n_leq (a0 + 20) D.length gn rfl rfl ?_
 refine aops_end (hK4 _ ?_)
 refine awp_condQ (q := (a0 + 20) ≤ D.length) rfl (fun h1 => ?_) (fun h1 => ?_)
 ·refine awp_skip (hK3 _ ?_)
  refine awp_block ?_
  refine awp_seq fun K5 hK5 => ?_
  refine awp_regionSW 4 18 _ 60 [] _ _ _ _ _ [.row 20, Nv a0, Nv (a0 + 20), .clo 42 [.ip [.clo kf []]]] (.tup []) [v2v, r0v (blk key (bl key 20 D c0 ++ D.drop a0) a0 (a0 + 20)), v3v, r1v L, p0v us] rfl rfl rfl f93_ ?_
  refine o_mv (.row 20) rfl (o_mv (Nv a0) rfl (o_mv (Nv (a0 + 20)) rfl (o_mv (.clo 42 [.ip [.clo kf []]]) rfl ?_)))
  refine aops_end ⟨_, Wk.sub (σ' := ⟨[(0, .row 20), (1, Nv D.length), (2, .clo 42 [.ip [.clo kf []]]), (6, Nv 20), (7, Nv a0), (8, Nv (a0 + 20)), (11, Nv (a0 + 20)), (12, Nv D.length), (13, bp ((a0 + 20) ≤ D.length)), (14, .row 20), (15, Nv a0), (16, Nv (a0 + 20)), (17, .clo 42 [.ip [.clo kf []]])], [v2v, r0v (bl key 20 D c0 ++ D.drop a0), v3v, r1v L, p0v us]⟩) ⟨rfl, rfl, rfl, rfl, rfl, rfl, rfl, rfl, rfl, rfl, rfl, rfl, rfl, trivial⟩ ⟨rfl, rfl, rfl, rfl, rfl, trivial⟩, rfl, rfl, scalls_of_r (K := [2, 3, 20]) (m := [v2v, r0v (bl key 20 D c0 ++ D.drop a0), v3v, r1v L]) (m' := [v2v, r0v (blk key (bl key 20 D c0 ++ D.drop a0) a0 (a0 + 20)), v3v, r1v L]) (e := [p0v us]) (c_insf kf key hkey (bl key 20 D c0 ++ D.drop a0) L a0 (a0 + 20) (by omega) (by omega) (by omega)) rfl rfl, ?_⟩
  refine hK5 _ (awp_seq fun K6 hK6 => awp_region rfl (o_mv (Nv (a0 + 20)) rfl (o_as (Nv (a0 + 20)) rfl (aops_end (hK6 _ (awp_region rfl (o_mv (Nv (a0 + 20)) rfl (o_mv (Nv 20) rfl ?_))))))))
  refine n_add (a0 + 20) 20 gn rfl rfl (by simp only [topOf]; omega) ?_
  refine o_as (Nv ((a0 + 20) + 20)) rfl (aops_end ?_)
  refine ⟨_, _, ?lt, ⟨c0 + 1, a0 + 20, (by omega), (by omega), rfl, rfl⟩, ?wk⟩
  case lt => omega
  case wk => exact Wk.sub ⟨rfl, rfl, rfl, rfl, (by first | rfl | exact nm_int (by omega)), (by first | rfl | exact nm_int (by omega)), trivial⟩ ⟨rfl, rfl, (by first | rfl | exact row_ns (by simp) | (first | exact row_gs' (inx_step ha (by omega)) | exact row_gs' rfl | exact row_gs' (hX.trans (st_fin (by omega) (by omega) hc hc2)))), rfl, rfl, trivial⟩
 ·refine awp_exit ?_
  refine hK2 _ (awp_seq fun K7 hK7 => ?_)
  refine awp_regionSW 4 27 _ 60 [] _ _ _ _ _ [.row 20, Nv a0, Nv D.length, .clo 42 [.ip [.clo kf []]]] (.tup []) [v2v, r0v (blk key (bl key 20 D c0 ++ D.drop a0) a0 D.length), v3v, r1v L, p0v us] rfl rfl rfl f93_ ?_
  refine o_mv (.row 20) rfl (o_mv (Nv a0) rfl (o_mv (Nv D.length) rfl (o_mv (.clo 42 [.ip [.clo kf []]]) rfl ?_)))
  refine aops_end ⟨_, Wk.sub (σ' := ⟨[(0, .row 20), (1, Nv D.length), (2, .clo 42 [.ip [.clo kf []]]), (6, Nv 20), (7, Nv a0), (8, Nv (a0 + 20)), (11, Nv (a0 + 20)), (12, Nv D.length), (13, bp ((a0 + 20) ≤ D.length)), (23, .row 20), (24, Nv a0), (25, Nv D.length), (26, .clo 42 [.ip [.clo kf []]])], [v2v, r0v (bl key 20 D c0 ++ D.drop a0), v3v, r1v L, p0v us]⟩) ⟨rfl, rfl, rfl, rfl, rfl, rfl, rfl, rfl, rfl, rfl, rfl, rfl, rfl, trivial⟩ ⟨rfl, rfl, rfl, rfl, rfl, trivial⟩, rfl, rfl, scalls_of_r (K := [2, 3, 20]) (m := [v2v, r0v (bl key 20 D c0 ++ D.drop a0), v3v, r1v L]) (m' := [v2v, r0v (blk key (bl key 20 D c0 ++ D.drop a0) a0 D.length), v3v, r1v L]) (e := [p0v us]) (c_insf kf key hkey (bl key 20 D c0 ++ D.drop a0) L a0 D.length (by omega) (by omega) (by omega)) rfl rfl, ?_⟩
  refine hK7 _ ?_
  refine awp_block ?_
  refine awp_loopR (fun κ σ => ∃ (s : Nat), ∃ (c : Nat), ∃ (X : List Fal), (X = fu key s c D) ∧ (D.length < c * s + s) ∧ (c * s ≤ D.length) ∧ (20 ≤ s ∧ s ≤ 2000000) ∧ (D.length - s) = κ ∧ σ = ⟨[(0, .row 20), (1, Nv D.length), (2, .clo 42 [.ip [.clo kf []]]), (6, Nv s)], [p0v us, v2v, r0v X, v3v, r1v L]⟩) ⟨_, _, ⟨20, c0, blk key (bl key 20 D c0 ++ D.drop a0) a0 D.length, inx_end ha hle, (by omega), (by omega), (by omega), rfl, rfl⟩, ?wk1⟩ ?rd1
  case wk1 =>
   exact Wk.sub ⟨rfl, rfl, rfl, (by first | rfl | exact nm_int (by omega)), trivial⟩ ⟨rfl, rfl, (by first | rfl | exact row_ns (by simp) | (first | exact row_gs' (inx_step ha (by omega)) | exact row_gs' rfl | exact row_gs' (hX.trans (st_fin (by omega) (by omega) hc hc2)))), rfl, rfl, trivial⟩
  rintro κ _ ⟨s, c, X, hX, hc, hc2, hs, rfl, rfl⟩
  refine awp_seq fun K8 hK8 => awp_seq fun K9 hK9 => awp_region rfl (o_mv (Nv s) rfl (o_mv (Nv D.length) rfl ?_))
  refine n_lss s D.length gn rfl rfl ?_
  refine aops_end (hK9 _ ?_)
  refine awp_condQ (q := s < D.length) rfl (fun h2 => ?_) (fun h2 => ?_)
  ·refine awp_skip (hK8 _ ?_)
   refine awp_block ?_
   refine awp_seq fun K10 hK10 => awp_region rfl (o_mv (Nv s) rfl ?_)
   refine n_mul 2 s gn rfl rfl (by simp only [topOf]; omega) ?_
   refine o_as (Nv 0) rfl (o_as (Nv (2 * s)) rfl (aops_end (hK10 _ (awp_seq fun K11 hK11 => ?_))))
   refine awp_block ?_
   refine awp_loopR (fun κ σ => ∃ (d : Nat), ∃ (a : Nat), ∃ (Y : List Fal), (a = d * (2 * s)) ∧ (a ≤ D.length) ∧ (Y = bl key (2 * s) D d ++ fu key s (c - 2 * d) (D.drop a)) ∧ (Y.length = D.length) ∧ (D.length - a) = κ ∧ σ = ⟨[(0, .row 20), (1, Nv D.length), (2, .clo 42 [.ip [.clo kf []]]), (6, Nv s), (7, Nv a), (8, Nv (a + 2 * s))], [p0v us, v2v, r0v Y, v3v, r1v L]⟩) ⟨_, _, ⟨0, 0, X, (Nat.zero_mul _).symm, Nat.zero_le _, hX, (by rw [hX]; exact fu_len _ _), rfl, rfl⟩, ?wk2⟩ ?rd2
   case wk2 =>
    exact Wk.sub ⟨rfl, rfl, rfl, rfl, (by first | rfl | exact nm_int (by omega)), (by first | rfl | exact nm_int (by omega)), trivial⟩ ⟨rfl, rfl, (by first | rfl | exact row_ns (by simp) | (first | exact row_gs' (inx_step ha (by omega)) | exact row_gs' rfl | exact row_gs' (hX.trans (st_fin (by omega) (by omega) hc hc2)))), rfl, rfl, trivial⟩
   rintro κ _ ⟨d, a, Y, ha, hle, hY, hl, rfl, rfl⟩
   refine awp_seq fun K12 hK12 => awp_seq fun K13 hK13 => awp_region rfl (o_mv (Nv (a + 2 * s)) rfl (o_mv (Nv D.length) rfl ?_))
   refine n_leq (a + 2 * s) D.length gn rfl rfl ?_
   refine aops_end (hK13 _ ?_)
   refine awp_condQ (q := (a + 2 * s) ≤ D.length) rfl (fun h3 => ?_) (fun h3 => ?_)
   ·refine awp_skip (hK12 _ ?_)
    refine awp_block ?_
    refine awp_seq fun K14 hK14 => ?_
    refine awp_regionSW 7 43 _ 61 [] _ _ _ _ _ [.row 20, Nv a, Nv (a + s), Nv (a + 2 * s), .clo 42 [.ip [.clo kf []]]] (.tup []) [v2v, r0v (symF key (2 * s) Y a (a + s) (a + 2 * s)), v3v, r1v L, p0v us] rfl rfl rfl f83_ ?_
    refine o_mv (.row 20) rfl (o_mv (Nv a) rfl (o_mv (Nv a) rfl (o_mv (Nv s) rfl ?_)))
    refine n_add a s gn rfl rfl (by simp only [topOf]; omega) ?_
    refine o_mv (Nv (a + 2 * s)) rfl (o_mv (.clo 42 [.ip [.clo kf []]]) rfl ?_)
    refine aops_end ⟨_, Wk.sub (σ' := ⟨[(0, .row 20), (1, Nv D.length), (2, .clo 42 [.ip [.clo kf []]]), (6, Nv s), (7, Nv a), (8, Nv (a + 2 * s)), (33, Nv (a + 2 * s)), (34, Nv D.length), (35, bp ((a + 2 * s) ≤ D.length)), (36, .row 20), (37, Nv a), (40, Nv (a + s)), (41, Nv (a + 2 * s)), (42, .clo 42 [.ip [.clo kf []]])], [v2v, r0v Y, v3v, r1v L, p0v us]⟩) ⟨rfl, rfl, rfl, rfl, rfl, rfl, rfl, rfl, rfl, rfl, rfl, rfl, rfl, rfl, trivial⟩ ⟨rfl, rfl, rfl, rfl, rfl, trivial⟩, rfl, rfl, scalls_of_r (K := [2, 3, 20]) (m := [v2v, r0v Y, v3v, r1v L]) (m' := [v2v, r0v (symF key (2 * s) Y a (a + s) (a + 2 * s)), v3v, r1v L]) (e := [p0v us]) (c_symf kf key hkey L (2 * s) Y a (a + s) (a + 2 * s) (by omega) (by omega) (by omega) (by omega) (by omega)) rfl rfl, ?_⟩
    refine hK14 _ (awp_seq fun K15 hK15 => awp_region rfl (o_mv (Nv (a + 2 * s)) rfl (o_as (Nv (a + 2 * s)) rfl (aops_end (hK15 _ (awp_region rfl (o_mv (Nv (a + 2 * s)) rfl (o_mv (Nv s) rfl ?_))))))))
    refine n_mul 2 s gn rfl rfl (by simp only [topOf]; omega) ?_
    refine n_add (a + 2 * s) (2 * s) gn rfl rfl (by simp only [topOf]; omega) ?_
    refine o_as (Nv ((a + 2 * s) + (2 * s))) rfl (aops_end ?_)
    refine ⟨_, _, ?lt, ⟨d + 1, a + 2 * s, symF key (2 * s) Y a (a + s) (a + 2 * s), (by have := Nat.add_mul d 1 (2 * s); omega), (by omega), (st_step (by omega) ha hY (by omega) hc (Nat.le_refl _)), (sym_len key _ _ _ _ _).trans hl, rfl, rfl⟩, ?wk⟩
    case lt => omega
    case wk => exact Wk.sub ⟨rfl, rfl, rfl, rfl, (by first | rfl | exact nm_int (by omega)), (by first | rfl | exact nm_int (by omega)), trivial⟩ ⟨rfl, rfl, (by first | rfl | exact row_ns (by simp) | (first | exact row_gs' (inx_step ha (by omega)) | exact row_gs' rfl | exact row_gs' (hX.trans (st_fin (by omega) (by omega) hc hc2)))), rfl, rfl, trivial⟩
   ·refine awp_exit ?_
    refine hK11 _ (awp_seq fun K16 hK16 => awp_seq fun K17 hK17 => awp_region rfl (o_mv (Nv a) rfl (o_mv (Nv s) rfl ?_)))
    refine n_add a s gn rfl rfl (by simp only [topOf]; omega) ?_
    refine o_as (Nv (a + s)) rfl (aops_end (hK17 _ (awp_seq fun K18 hK18 => awp_region rfl (o_mv (Nv (a + s)) rfl (o_mv (Nv D.length) rfl ?_)))))
    refine n_lss (a + s) D.length gn rfl rfl ?_
    refine aops_end (hK18 _ ?_)
    refine awp_condQ (q := (a + s) < D.length) rfl (fun h4 => ?_) (fun h4 => ?_)
    ·refine awp_regionSW 5 60 _ 61 [] _ _ _ _ _ [.row 20, Nv a, Nv (a + s), Nv D.length, .clo 42 [.ip [.clo kf []]]] (.tup []) [v2v, r0v (symF key (D.length - a) Y a (a + s) D.length), v3v, r1v L, p0v us] rfl rfl rfl f83_ ?_
     refine o_mv (.row 20) rfl (o_mv (Nv a) rfl (o_mv (Nv (a + s)) rfl (o_mv (Nv D.length) rfl (o_mv (.clo 42 [.ip [.clo kf []]]) rfl ?_))))
     refine aops_end ⟨_, Wk.sub (σ' := ⟨[(0, .row 20), (1, Nv D.length), (2, .clo 42 [.ip [.clo kf []]]), (6, Nv s), (7, Nv a), (8, Nv (a + 2 * s)), (33, Nv (a + 2 * s)), (34, Nv D.length), (35, bp ((a + 2 * s) ≤ D.length)), (49, Nv a), (50, Nv s), (51, Nv (a + s)), (9, Nv (a + s)), (52, Nv (a + s)), (53, Nv D.length), (54, bp ((a + s) < D.length)), (55, .row 20), (56, Nv a), (57, Nv (a + s)), (58, Nv D.length), (59, .clo 42 [.ip [.clo kf []]])], [v2v, r0v Y, v3v, r1v L, p0v us]⟩) ⟨rfl, rfl, rfl, rfl, rfl, rfl, rfl, rfl, rfl, rfl, rfl, rfl, rfl, rfl, rfl, rfl, rfl, rfl, rfl, rfl, rfl, trivial⟩ ⟨rfl, rfl, rfl, rfl, rfl, trivial⟩, rfl, rfl, scalls_of_r (K := [2, 3, 20]) (m := [v2v, r0v Y, v3v, r1v L]) (m' := [v2v, r0v (symF key (D.length - a) Y a (a + s) D.length), v3v, r1v L]) (e := [p0v us]) (c_symf kf key hkey L (D.length - a) Y a (a + s) D.length (by omega) (by omega) (by omega) (by omega) (by omega)) rfl rfl, ?_⟩
     refine hK16 _ (awp_region rfl (o_mv (Nv s) rfl ?_))
     refine n_mul s 2 gn rfl rfl (by simp only [topOf]; omega) ?_
     refine o_as (Nv (s * 2)) rfl (aops_end ?_)
     refine ⟨_, _, ?lt, ⟨2 * s, d, symF key (D.length - a) Y a (a + s) D.length, (st_end1 (by omega) ha hY (by omega) (by omega) hc hc2 (Nat.le_refl _)), (by omega), (by omega), (by omega), rfl, rfl⟩, ?wk⟩
     case lt => omega
     case wk => exact Wk.sub ⟨rfl, rfl, rfl, (by first | rfl | exact nm_int (by omega)), trivial⟩ ⟨rfl, rfl, (by first | rfl | exact row_ns (by simp) | (first | exact row_gs' (inx_step ha (by omega)) | exact row_gs' rfl | exact row_gs' (hX.trans (st_fin (by omega) (by omega) hc hc2)))), rfl, rfl, trivial⟩
    ·refine awp_skip (hK16 _ (awp_region rfl (o_mv (Nv s) rfl ?_)))
     refine n_mul s 2 gn rfl rfl (by simp only [topOf]; omega) ?_
     refine o_as (Nv (s * 2)) rfl (aops_end ?_)
     refine ⟨_, _, ?lt, ⟨2 * s, d, Y, (st_end0 (by omega) ha hY (by omega) hle hc hc2), (by omega), (by omega), (by omega), rfl, rfl⟩, ?wk⟩
     case lt => omega
     case wk => exact Wk.sub ⟨rfl, rfl, rfl, (by first | rfl | exact nm_int (by omega)), trivial⟩ ⟨rfl, rfl, (by first | rfl | exact row_ns (by simp) | (first | exact row_gs' (inx_step ha (by omega)) | exact row_gs' rfl | exact row_gs' (hX.trans (st_fin (by omega) (by omega) hc hc2)))), rfl, rfl, trivial⟩
  ·refine awp_exit ?_
   exact ⟨⟨[], [p0v us, v2v, r0v (srt key D), v3v, r1v L]⟩, Wk.sub trivial ⟨rfl, rfl, (by first | rfl | exact row_ns (by simp) | (first | exact row_gs' (inx_step ha (by omega)) | exact row_gs' rfl | exact row_gs' (hX.trans (st_fin (by omega) (by omega) hc hc2)))), rfl, rfl, trivial⟩, ⟨[], trivial, rfl, fun id ob h => keep_pin h rfl, rfl⟩⟩

theorem c_ssof (kf : Nat) (key : Fal → Int) (hkey : ∀ x y : Fal, ECalls cx 42 [falV x, falV y, .ip [.clo kf []]] (.lit (.int .i64 (cmpZ (key x) (key y))))) (D : List Fal) (L : List Int) (hD : D.length ≤ 1000000) :
  RCalls cx 41 [.row 20, .clo 42 [.ip [.clo kf []]]] [2, 3, 20] [v2v, r0v D, v3v, r1v L] (.tup []) [v2v, r0v (srt key D), v3v, r1v L] := by
 refine rcalls_of_x (X := [(2, false), (3, false), (20, true)]) (scalls_of_awpB 9009 Tryd.func41 (c := _) rfl (Nat.le_of_ble_eq_true rfl) rfl rfl rfl (fun us => ?_)) rfl
 refine awp_late ?_
 show awp cx 9 _ (lateQ cx 9 (postS cx Tryd.f41 (.tup []) [v2v, r0v (srt key D), v3v, r1v L] 9009 [.ref 2 0, .ref 3 0, .row 20] us)) ⟨[(0, .row 20), (1, .clo 42 [.ip [.clo kf []]])], [p0v us, v2v, r0v D, v3v, r1v L]⟩
 refine awp_regionSW 4 8 _ 52 [] _ _ _ _ _ [.row 20, Nv (D.length), .clo 42 [.ip [.clo kf []]]] (.tup []) [v2v, r0v (srt key D), v3v, r1v L, p0v us] rfl rfl rfl f95_ ?_
 refine o_mv (.row 20) rfl (o_mv (.row 20) rfl ?_)
 refine g_lenRow cL D cL_len gn f94_ rfl rfl ?_
 refine o_mv (.clo 42 [.ip [.clo kf []]]) rfl ?_
 refine aops_end ⟨_, Wk.sub (σ' := ⟨[(0, .row 20), (1, .clo 42 [.ip [.clo kf []]]), (4, .row 20), (6, Nv (D.length)), (7, .clo 42 [.ip [.clo kf []]])], [v2v, r0v D, v3v, r1v L, p0v us]⟩) ⟨rfl, rfl, rfl, rfl, rfl, trivial⟩ ⟨rfl, rfl, rfl, rfl, rfl, trivial⟩, rfl, rfl, scalls_of_r (K := [2, 3, 20]) (m := [v2v, r0v D, v3v, r1v L]) (m' := [v2v, r0v (srt key D), v3v, r1v L]) (e := [p0v us]) (c_staf kf key hkey D L hD) rfl rfl, ?_⟩
 exact ⟨⟨[], [p0v us, v2v, r0v (srt key D), v3v, r1v L]⟩, Wk.sub trivial ⟨rfl, rfl, rfl, rfl, rfl, trivial⟩, ⟨[], trivial, rfl, fun id ob h => keep_pin h rfl, rfl⟩⟩

theorem c_orlf (kf : Nat) (key : Fal → Int) (hkc : callable cx.P kf = true) (hkf : ∀ x : Fal, ECalls cx kf [falV x] (.lit (.int .i64 (key x)))) (D : List Fal) (L : List Int) (hD : D.length ≤ 1000000) :
  RCalls cx 21 [.row 20, .clo kf []] [2, 3, 20] [v2v, r0v D, v3v, r1v L] (.tup []) [v2v, r0v (srt key D), v3v, r1v L] := by
 refine rcalls_of_x (X := [(2, false), (3, false), (20, true)]) (scalls_of_awpB 9009 Tryd.func21 (c := _) rfl (Nat.le_of_ble_eq_true rfl) rfl rfl rfl (fun us => ?_)) rfl
 refine awp_late ?_
 show awp cx 7 _ (lateQ cx 7 (postS cx Tryd.f21 (.tup []) [v2v, r0v (srt key D), v3v, r1v L] 9009 [.ref 2 0, .ref 3 0, .row 20] us)) ⟨[(0, .row 20), (1, .clo kf [])], [p0v us, v2v, r0v D, v3v, r1v L]⟩
 refine awp_seq fun K0 hK0 => awp_region rfl ?_
 refine o_box 1001 [.clo kf []] gn rfl rfl ?_
 refine aops_end (hK0 _ ?_)
 refine awp_wk (σ' := ⟨[(0, .row 20), (1, .clo kf []), (3, .ref 1001 0)], [p0v us, v2v, r0v D, v3v, r1v L, (1001, .var 59 [.clo kf []])]⟩) (Wk.sub ⟨rfl, rfl, rfl, trivial⟩ ⟨rfl, rfl, rfl, rfl, rfl, rfl, trivial⟩) ?_
 refine awp_wk (σ' := ⟨[(0, .row 20), (1, .clo kf []), (3, .ip [.clo kf []])], [p0v us, v2v, r0v D, v3v, r1v L]⟩) (Wk.see (id := 1001) (t := 59) (cs := [.clo kf []]) rfl rfl) ?_
 refine awp_regionSW 2 6 _ 41 [] _ _ _ _ _ [.row 20, .clo 42 [.ip [.clo kf []]]] (.tup []) [v2v, r0v (srt key D), v3v, r1v L, p0v us] rfl rfl rfl f96_ ?_
 refine o_mv (.row 20) rfl ?_
 refine o_makeFunc [.ip [.clo kf []]] gn rfl ?_
 refine aops_end ⟨_, Wk.sub (σ' := ⟨[(0, .row 20), (1, .clo kf []), (3, .ip [.clo kf []]), (4, .row 20), (5, .clo 42 [.ip [.clo kf []]])], [v2v, r0v D, v3v, r1v L, p0v us]⟩) ⟨rfl, rfl, rfl, rfl, rfl, trivial⟩ ⟨rfl, rfl, rfl, rfl, rfl, trivial⟩, rfl, rfl, scalls_of_r (K := [2, 3, 20]) (m := [v2v, r0v D, v3v, r1v L]) (m' := [v2v, r0v (srt key D), v3v, r1v L]) (e := [p0v us]) (c_ssof kf key (c_cmpf kf key hkc hkf) D L hD) rfl rfl, ?_⟩
 exact ⟨⟨[], [p0v us, v2v, r0v (srt key D), v3v, r1v L]⟩, Wk.sub trivial ⟨rfl, rfl, rfl, rfl, rfl, trivial⟩, ⟨[], trivial, rfl, fun id ob h => keep_pin h rfl, rfl⟩⟩

theorem c_stai (kf : Nat) (key : Int → Int) (hkey : ∀ x y : Int, ECalls cx 45 [.lit (.int .i64 x), .lit (.int .i64 y), .ip [.clo kf []]] (.lit (.int .i64 (cmpZ (key x) (key y))))) (D : List Int) (F : List Fal) (hD : D.length ≤ 1000000) :
  RCalls cx 54 [.row 21, Nv D.length, .clo 45 [.ip [.clo kf []]]] [2, 3, 21] [v2v, r0v F, v3v, r1v D] (.tup []) [v2v, r0v F, v3v, r1v (srt key D)] := by
 refine rcalls_of_x (X := [(2, false), (3, false), (21, true)]) (scalls_of_awpB 9009 Tryd.func54 (c := _) rfl (Nat.le_of_ble_eq_true rfl) rfl rfl rfl (fun us => ?_)) rfl
 refine awp_late ?_
 show awp cx 63 _ (lateQ cx 63 (postS cx Tryd.f54 (.tup []) [v2v, r0v F, v3v, r1v (srt key D)] 9009 [.ref 2 0, .ref 3 0, .row 21] us)) ⟨[(0, .row 21), (1, Nv D.length), (2, .clo 45 [.ip [.clo kf []]])], [p1v us, v2v, r0v F, v3v, r1v D]⟩
 refine awp_seq fun K0 hK0 => awp_region rfl (o_as (Nv 20) rfl (aops_end (hK0 _ (awp_seq fun K1 hK1 => awp_region rfl (o_mv (Nv 20) rfl (o_as (Nv 0) rfl (o_as (Nv 20) rfl (aops_end (hK1 _ ?_)))))))))
 refine awp_seq fun K2 hK2 => ?_
 refine awp_block ?_
 refine awp_loopR (fun κ σ => ∃ (c0 : Nat), ∃ (a0 : Nat), (a0 = c0 * 20) ∧ (a0 ≤ D.length) ∧ (D.length - a0) = κ ∧ σ = ⟨[(0, .row 21), (1, Nv D.length), (2, .clo 45 [.ip [.clo kf []]]), (6, Nv 20), (7, Nv a0), (8, Nv (a0 + 20))], [p1v us, v2v, r0v F, v3v, r1v (bl key 20 D c0 ++ D.drop a0)]⟩) ⟨_, _, ⟨0, 0, rfl, Nat.zero_le _, rfl, rfl⟩, ?wk0⟩ ?rd0
 case wk0 =>
  exact Wk.sub ⟨rfl, rfl, rfl, rfl, (by first | rfl | exact nm_int (by omega)), (by first | rfl | exact nm_int (by omega)), trivial⟩ ⟨rfl, rfl, rfl, rfl, (by first | rfl | exact row_ns (by simp) | (first | exact row_is (inx_step ha (by omega)) | exact row_is rfl | exact row_is (hX.trans (st_fin (by omega) (by omega) hc hc2)))), trivial⟩
 rintro κ _ ⟨c0, a0, ha, hle, rfl, rfl⟩
 have hXl := bl_X (key := key) ha hle
 refine awp_seq fun K3 hK3 => awp_seq fun K4 hK4 => awp_region rfl (o_mv (Nv (a0 + 20)) rfl (o_mv (Nv D.length) rfl ?_))
 refine n_leq (a0 + 20) D.length gn rfl rfl ?_
 refine aops_end (hK4 _ ?_)
 refine awp_condQ (q := (a0 + 20) ≤ D.length) rfl (fun h1 => ?_) (fun h1 => ?_)
 ·refine awp_skip (hK3 _ ?_)
  refine awp_block ?_
  refine awp_seq fun K5 hK5 => ?_
  refine awp_regionSW 4 18 _ 62 [] _ _ _ _ _ [.row 21, Nv a0, Nv (a0 + 20), .clo 45 [.ip [.clo kf []]]] (.tup []) [v2v, r0v F, v3v, r1v (blk key (bl key 20 D c0 ++ D.drop a0) a0 (a0 + 20)), p1v us] rfl rfl rfl f97_ ?_
  refine o_mv (.row 21) rfl (o_mv (Nv a0) rfl (o_mv (Nv (a0 + 20)) rfl (o_mv (.clo 45 [.ip [.clo kf []]]) rfl ?_)))
  refine aops_end ⟨_, Wk.sub (σ' := ⟨[(0, .row 21), (1, Nv D.length), (2, .clo 45 [.ip [.clo kf []]]), (6, Nv 20), (7, Nv a0), (8, Nv (a0 + 20)), (11, Nv (a0 + 20)), (12, Nv D.length), (13, bp ((a0 + 20) ≤ D.length)), (14, .row 21), (15, Nv a0), (16, Nv (a0 + 20)), (17, .clo 45 [.ip [.clo kf []]])], [v2v, r0v F, v3v, r1v (bl key 20 D c0 ++ D.drop a0), p1v us]⟩) ⟨rfl, rfl, rfl, rfl, rfl, rfl, rfl, rfl, rfl, rfl, rfl, rfl, rfl, trivial⟩ ⟨rfl, rfl, rfl, rfl, rfl, trivial⟩, rfl, rfl, scalls_of_r (K := [2, 3, 21]) (m := [v2v, r0v F, v3v, r1v (bl key 20 D c0 ++ D.drop a0)]) (m' := [v2v, r0v F, v3v, r1v (blk key (bl key 20 D c0 ++ D.drop a0) a0 (a0 + 20))]) (e := [p1v us]) (c_insi kf key hkey (bl key 20 D c0 ++ D.drop a0) F a0 (a0 + 20) (by omega) (by omega) (by omega)) rfl rfl, ?_⟩
  refine hK5 _ (awp_seq fun K6 hK6 => awp_region rfl (o_mv (Nv (a0 + 20)) rfl (o_as (Nv (a0 + 20)) rfl (aops_end (hK6 _ (awp_region rfl (o_mv (Nv (a0 + 20)) rfl (o_mv (Nv 20) rfl ?_))))))))
  refine n_add (a0 + 20) 20 gn rfl rfl (by simp only [topOf]; omega) ?_
  refine o_as (Nv ((a0 + 20) + 20)) rfl (aops_end ?_)
  refine ⟨_, _, ?lt, ⟨c0 + 1, a0 + 20, (by omega), (by omega), rfl, rfl⟩, ?wk⟩
  case lt => omega
  case wk => exact Wk.sub ⟨rfl, rfl, rfl, rfl, (by first | rfl | exact nm_int (by omega)), (by first | rfl | exact nm_int (by omega)), trivial⟩ ⟨rfl, rfl, rfl, rfl, (by first | rfl | exact row_ns (by simp) | (first | exact row_is (inx_step ha (by omega)) | exact row_is rfl | exact row_is (hX.trans (st_fin (by omega) (by omega) hc hc2)))), trivial⟩
 ·refine awp_exit ?_
  refine hK2 _ (awp_seq fun K7 hK7 => ?_)
  refine awp_regionSW 4 27 _ 62 [] _ _ _ _ _ [.row 21, Nv a0, Nv D.length, .clo 45 [.ip [.clo kf []]]] (.tup []) [v2v, r0v F, v3v, r1v (blk key (bl key 20 D c0 ++ D.drop a0) a0 D.length), p1v us] rfl rfl rfl f97_ ?_
  refine o_mv (.row 21) rfl (o_mv (Nv a0) rfl (o_mv (Nv D.length) rfl (o_mv (.clo 45 [.ip [.clo kf []]]) rfl ?_)))
  refine aops_end ⟨_, Wk.sub (σ' := ⟨[(0, .row 21), (1, Nv D.length), (2, .clo 45 [.ip [.clo kf []]]), (6, Nv 20), (7, Nv a0), (8, Nv (a0 + 20)), (11, Nv (a0 + 20)), (12, Nv D.length), (13, bp ((a0 + 20) ≤ D.length)), (23, .row 21), (24, Nv a0), (25, Nv D.length), (26, .clo 45 [.ip [.clo kf []]])], [v2v, r0v F, v3v, r1v (bl key 20 D c0 ++ D.drop a0), p1v us]⟩) ⟨rfl, rfl, rfl, rfl, rfl, rfl, rfl, rfl, rfl, rfl, rfl, rfl, rfl, trivial⟩ ⟨rfl, rfl, rfl, rfl, rfl, trivial⟩, rfl, rfl, scalls_of_r (K := [2, 3, 21]) (m := [v2v, r0v F, v3v, r1v (bl key 20 D c0 ++ D.drop a0)]) (m' := [v2v, r0v F, v3v, r1v (blk key (bl key 20 D c0 ++ D.drop a0) a0 D.length)]) (e := [p1v us]) (c_insi kf key hkey (bl key 20 D c0 ++ D.drop a0) F a0 D.length (by omega) (by omega) (by omega)) rfl rfl, ?_⟩
  refine hK7 _ ?_
  refine awp_block ?_
  refine awp_loopR (fun κ σ => ∃ (s : Nat), ∃ (c : Nat), ∃ (X : List Int), (X = fu key s c D) ∧ (D.length < c * s + s) ∧ (c * s ≤ D.length) ∧ (20 ≤ s ∧ s ≤ 2000000) ∧ (D.length - s) = κ ∧ σ = ⟨[(0, .row 21), (1, Nv D.length), (2, .clo 45 [.ip [.clo kf []]]), (6, Nv s)], [p1v us, v2v, r0v F, v3v, r1v X]⟩) ⟨_, _, ⟨20, c0, blk key (bl key 20 D c0 ++ D.drop a0) a0 D.length, inx_end ha hle, (by omega), (by omega), (by omega), rfl, rfl⟩, ?wk1⟩ ?rd1
  case wk1 =>
   exact Wk.sub ⟨rfl, rfl, rfl, (by first | rfl | exact nm_int (by omega)), trivial⟩ ⟨rfl, rfl, rfl, rfl, (by first | rfl | exact row_ns (by simp) | (first | exact row_is (inx_step ha (by omega)) | exact row_is rfl | exact row_is (hX.trans (st_fin (by omega) (by omega) hc hc2)))), trivial⟩
  rintro κ _ ⟨s, c, X, hX, hc, hc2, hs, rfl, rfl⟩
  refine awp_seq fun K8 hK8 => awp_seq fun K9 hK9 => awp_region rfl (o_mv (Nv s) rfl (o_mv (Nv D.length) rfl ?_))
  refine n_lss s D.length gn rfl rfl ?_
  refine aops_end (hK9 _ ?_)
  refine awp_condQ (q := s < D.length) rfl (fun h2 => ?_) (fun h2 => ?_)
  ·refine awp_skip (hK8 _ ?_)
   refine awp_block ?_
   refine awp_seq fun K10 hK10 => awp_region rfl (o_mv (Nv s) rfl ?_)
   refine n_mul 2 s gn rfl rfl (by simp only [topOf]; omega) ?_
   refine o_as (Nv 0) rfl (o_as (Nv (2 * s)) rfl (aops_end (hK10 _ (awp_seq fun K11 hK11 => ?_))))
   refine awp_block ?_
   refine awp_loopR (fun κ σ => ∃ (d : Nat), ∃ (a : Nat), ∃ (Y : List Int), (a = d * (2 * s)) ∧ (a ≤ D.length) ∧ (Y = bl key (2 * s) D d ++ fu key s (c - 2 * d) (D.drop a)) ∧ (Y.length = D.length) ∧ (D.length - a) = κ ∧ σ = ⟨[(0, .row 21), (1, Nv D.length), (2, .clo 45 [.ip [.clo kf []]]), (6, Nv s), (7, Nv a), (8, Nv (a + 2 * s))], [p1v us, v2v, r0v F, v3v, r1v Y]⟩) ⟨_, _, ⟨0, 0, X, (Nat.zero_mul _).symm, Nat.zero_le _, hX, (by rw [hX]; exact fu_len _ _), rfl, rfl⟩, ?wk2⟩ ?rd2
   case wk2 =>
    exact Wk.sub ⟨rfl, rfl, rfl, rfl, (by first | rfl | exact nm_int (by omega)), (by first | rfl | exact nm_int (by omega)), trivial⟩ ⟨rfl, rfl, rfl, rfl, (by first | rfl | exact row_ns (by simp) | (first | exact row_is (inx_step ha (by omega)) | exact row_is rfl | exact row_is (hX.trans (st_fin (by omega) (by omega) hc hc2)))), trivial⟩
   rintro κ _ ⟨d, a, Y, ha, hle, hY, hl, rfl, rfl⟩
   refine awp_seq fun K12 hK12 => awp_seq fun K13 hK13 => awp_region rfl (o_mv (Nv (a + 2 * s)) rfl (o_mv (Nv D.length) rfl ?_))
   refine n_leq (a + 2 * s) D.length gn rfl rfl ?_
   refine aops_end (hK13 _ ?_)
   refine awp_condQ (q := (a + 2 * s) ≤ D.length) rfl (fun h3 => ?_) (fun h3 => ?_)
   ·refine awp_skip (hK12 _ ?_)
    refine awp_block ?_
    refine awp_seq fun K14 hK14 => ?_
    refine awp_regionSW 7 43 _ 63 [] _ _ _ _ _ [.row 21, Nv a, Nv (a + s), Nv (a + 2 * s), .clo 45 [.ip [.clo kf []]]] (.tup []) [v2v, r0v F, v3v, r1v (symF key (2 * s) Y a (a + s) (a + 2 * s)), p1v us] rfl rfl rfl f86_ ?_
    refine o_mv (.row 21) rfl (o_mv (Nv a) rfl (o_mv (Nv a) rfl (o_mv (Nv s) rfl ?_)))
    refine n_add a s gn rfl rfl (by simp only [topOf]; omega) ?_
    refine o_mv (Nv (a + 2 * s)) rfl (o_mv (.clo 45 [.ip [.clo kf []]]) rfl ?_)
    refine aops_end ⟨_, Wk.sub (σ' := ⟨[(0, .row 21), (1, Nv D.length), (2, .clo 45 [.ip [.clo kf []]]), (6, Nv s), (7, Nv a), (8, Nv (a + 2 * s)), (33, Nv (a + 2 * s)), (34, Nv D.length), (35, bp ((a + 2 * s) ≤ D.length)), (36, .row 21), (37, Nv a), (40, Nv (a + s)), (41, Nv (a + 2 * s)), (42, .clo 45 [.ip [.clo kf []]])], [v2v, r0v F, v3v, r1v Y, p1v us]⟩) ⟨rfl, rfl, rfl, rfl, rfl, rfl, rfl, rfl, rfl, rfl, rfl, rfl, rfl, rfl, trivial⟩ ⟨rfl, rfl, rfl, rfl, rfl, trivial⟩, rfl, rfl, scalls_of_r (K := [2, 3, 21]) (m := [v2v, r0v F, v3v, r1v Y]) (m' := [v2v, r0v F, v3v, r1v (symF key (2 * s) Y a (a + s) (a + 2 * s))]) (e := [p1v us]) (c_symi kf key hkey F (2 * s) Y a (a + s) (a + 2 * s) (by omega) (by omega) (by omega) (by omega) (by omega)) rfl rfl, ?_⟩
    refine hK14 _ (awp_seq fun K15 hK15 => awp_region rfl (o_mv (Nv (a + 2 * s)) rfl (o_as (Nv (a + 2 * s)) rfl (aops_end (hK15 _ (awp_region rfl (o_mv (Nv (a + 2 * s)) rfl (o_mv (Nv s) rfl ?_))))))))
    refine n_mul 2 s gn rfl rfl (by simp only [topOf]; omega) ?_
    refine n_add (a + 2 * s) (2 * s) gn rfl rfl (by simp only [topOf]; omega) ?_
    refine o_as (Nv ((a + 2 * s) + (2 * s))) rfl (aops_end ?_)
    refine ⟨_, _, ?lt, ⟨d + 1, a + 2 * s, symF key (2 * s) Y a (a + s) (a + 2 * s), (by have := Nat.add_mul d 1 (2 * s); omega), (by omega), (st_step (by omega) ha hY (by omega) hc (Nat.le_refl _)), (sym_len key _ _ _ _ _).trans hl, rfl, rfl⟩, ?wk⟩
    case lt => omega
    case wk => exact Wk.sub ⟨rfl, rfl, rfl, rfl, (by first | rfl | exact nm_int (by omega)), (by first | rfl | exact nm_int (by omega)), trivial⟩ ⟨rfl, rfl, rfl, rfl, (by first | rfl | exact row_ns (by simp) | (first | exact row_is (inx_step ha (by omega)) | exact row_is rfl | exact row_is (hX.trans (st_fin (by omega) (by omega) hc hc2)))), trivial⟩
   ·refine awp_exit ?_
    refine hK11 _ (awp_seq fun K16 hK16 => awp_seq fun K17 hK17 => awp_region rfl (o_mv (Nv a) rfl (o_mv (Nv s) rfl ?_)))
    refine n_add a s gn rfl rfl (by simp only [topOf]; omega) ?_
    refine o_as (Nv (a + s)) rfl (aops_end (hK17 _ (awp_seq fun K18 hK18 => awp_region rfl (o_mv (Nv (a + s)) rfl (o_mv (Nv D.length) rfl ?_)))))
    refine n_lss (a + s) D.length gn rfl rfl ?_
    refine aops_end (hK18 _ ?_)
    refine awp_condQ (q := (a + s) < D.length) rfl (fun h4 => ?_) (fun h4 => ?_)
    ·refine awp_regionSW 5 60 _ 63 [] _ _ _ _ _ [.row 21, Nv a, Nv (a + s), Nv D.length, .clo 45 [.ip [.clo kf []]]] (.tup []) [v2v, r0v F, v3v, r1v (symF key (D.length - a) Y a (a + s) D.length), p1v us] rfl rfl rfl f86_ ?_
     refine o_mv (.row 21) rfl (o_mv (Nv a) rfl (o_mv (Nv (a + s)) rfl (o_mv (Nv D.length) rfl (o_mv (.clo 45 [.ip [.clo kf []]]) rfl ?_))))
     refine aops_end ⟨_, Wk.sub (σ' := ⟨[(0, .row 21), (1, Nv D.length), (2, .clo 45 [.ip [.clo kf []]]), (6, Nv s), (7, Nv a), (8, Nv (a + 2 * s)), (33, Nv (a + 2 * s)), (34, Nv D.length), (35, bp ((a + 2 * s) ≤ D.length)), (49, Nv a), (50, Nv s), (51, Nv (a + s)), (9, Nv (a + s)), (52, Nv (a + s)), (53, Nv D.length), (54, bp ((a + s) < D.length)), (55, .row 21), (56, Nv a), (57, Nv (a + s)), (58, Nv D.length), (59, .clo 45 [.ip [.clo kf []]])], [v2v, r0v F, v3v, r1v Y, p1v us]⟩) ⟨rfl, rfl, rfl, rfl, rfl, rfl, rfl, rfl, rfl, rfl, rfl, rfl, rfl, rfl, rfl, rfl, rfl, rfl, rfl, rfl, rfl, trivial⟩ ⟨rfl, rfl, rfl, rfl, rfl, trivial⟩, rfl, rfl, scalls_of_r (K := [2, 3, 21]) (m := [v2v, r0v F, v3v, r1v Y]) (m' := [v2v, r0v F, v3v, r1v (symF key (D.length - a) Y a (a + s) D.length)]) (e := [p1v us]) (c_symi kf key hkey F (D.length - a) Y a (a + s) D.length (by omega) (by omega) (by omega) (by omega) (by omega)) rfl rfl, ?_⟩
     refine hK16 _ (awp_region rfl (o_mv (Nv s) rfl ?_))
     refine n_mul s 2 gn rfl rfl (by simp only [topOf]; omega) ?_
     refine o_as (Nv (s * 2)) rfl (aops_end ?_)
     refine ⟨_, _, ?lt, ⟨2 * s, d, symF key (D.length - a) Y a (a + s) D.length, (st_end1 (by omega) ha hY (by omega) (by omega) hc hc2 (Nat.le_refl _)), (by omega), (by omega), (by omega), rfl, rfl⟩, ?wk⟩
     case lt => omega
     case wk => exact Wk.sub ⟨rfl, rfl, rfl, (by first | rfl | exact nm_int (by omega)), trivial⟩ ⟨rfl, rfl, rfl, rfl, (by first | rfl | exact row_ns (by simp) | (first | exact row_is (inx_step ha (by omega)) | exact row_is rfl | exact row_is (hX.trans (st_fin (by omega) (by omega) hc hc2)))), trivial⟩
    ·refine awp_skip (hK16 _ (awp_region rfl (o_mv (Nv s) rfl ?_)))
     refine n_mul s 2 gn rfl rfl (by simp only [topOf]; omega) ?_
     refine o_as (Nv (s * 2)) rfl (aops_end ?_)
     refine ⟨_, _, ?lt, ⟨2 * s, d, Y, (st_end0 (by omega) ha hY (by omega) hle hc hc2), (by omega), (by omega), (by omega), rfl, rfl⟩, ?wk⟩
     case lt => omega
     case wk => exact Wk.sub ⟨rfl, rfl, rfl, (by first | rfl | exact nm_int (by omega)), trivial⟩ ⟨rfl, rfl, rfl, rfl, (by first | rfl | exact row_ns (by simp) | (first | exact row_is (inx_step ha (by omega)) | exact row_is rfl | exact row_is (hX.trans (st_fin (by omega) (by omega) hc hc2)))), trivial⟩
  ·refine awp_exit ?_
   exact ⟨⟨[], [p1v us, v2v, r0v F, v3v, r1v (srt key D)]⟩, Wk.sub trivial ⟨rfl, rfl, rfl, rfl, (by first | rfl | exact row_ns (by simp) | (first | exact row_is (inx_step ha (by omega)) | exact row_is rfl | exact row_is (hX.trans (st_fin (by omega) (by omega) hc hc2)))), trivial⟩, ⟨[], trivial, rfl, fun id ob h => keep_pin h rfl, rfl⟩⟩

theorem c_ssoi (kf : Nat) (key : Int → Int) (hkey : ∀ x y : Int, ECalls cx 45 [.lit (.int .i64 x), .lit (.int .i64 y), .ip [.clo kf []]] (.lit (.int .i64 (cmpZ (key x) (key y))))) (D : List Int) (F : List Fal) (hD : D.length ≤ 1000000) :
  RCalls cx 44 [.row 21, .clo 45 [.ip [.clo kf []]]] [2, 3, 21] [v2v, r0v F, v3v, r1v D] (.tup []) [v2v, r0v F, v3v, r1v (srt key D)] := by
 refine rcalls_of_x (X := [(2, false), (3, false), (21, true)]) (scalls_of_awpB 9009 Tryd.func44 (c := _) rfl (Nat.le_of_ble_eq_true rfl) rfl rfl rfl (fun us => ?_)) rfl
 refine awp_late ?_
 show awp cx 9 _ (lateQ cx 9 (postS cx Tryd.f44 (.tup []) [v2v, r0v F, v3v, r1v (srt key D)] 9009 [.ref 2 0, .ref 3 0, .row 21] us)) ⟨[(0, .row 21), (1, .clo 45 [.ip [.clo kf []]])], [p1v us, v2v, r0v F, v3v, r1v D]⟩
 refine awp_regionSW 4 8 _ 54 [] _ _ _ _ _ [.row 21, Nv (D.length), .clo 45 [.ip [.clo kf []]]] (.tup []) [v2v, r0v F, v3v, r1v (srt key D), p1v us] rfl rfl rfl f98_ ?_
 refine o_mv (.row 21) rfl (o_mv (.row 21) rfl ?_)
 refine o_lenRow (D.length) gn f37_ rfl rfl (by simp [is]) ?_
 refine o_mv (.clo 45 [.ip [.clo kf []]]) rfl ?_
 refine aops_end ⟨_, Wk.sub (σ' := ⟨[(0, .row 21), (1, .clo 45 [.ip [.clo kf []]]), (4, .row 21), (6, Nv (D.length)), (7, .clo 45 [.ip [.clo kf []]])], [v2v, r0v F, v3v, r1v D, p1v us]⟩) ⟨rfl, rfl, rfl, rfl, rfl, trivial⟩ ⟨rfl, rfl, rfl, rfl, rfl, trivial⟩, rfl, rfl, scalls_of_r (K := [2, 3, 21]) (m := [v2v, r0v F, v3v, r1v D]) (m' := [v2v, r0v F, v3v, r1v (srt key D)]) (e := [p1v us]) (c_stai kf key hkey D F hD) rfl rfl, ?_⟩
 exact ⟨⟨[], [p1v us, v2v, r0v F, v3v, r1v (srt key D)]⟩, Wk.sub trivial ⟨rfl, rfl, rfl, rfl, rfl, trivial⟩, ⟨[], trivial, rfl, fun id ob h => keep_pin h rfl, rfl⟩⟩

theorem c_orli (kf : Nat) (key : Int → Int) (hkc : callable cx.P kf = true) (hkf : ∀ x : Int, ECalls cx kf [.lit (.int .i64 x)] (.lit (.int .i64 (key x)))) (D : List Int) (F : List Fal) (hD : D.length ≤ 1000000) :
  RCalls cx 24 [.row 21, .clo kf []] [2, 3, 21] [v2v, r0v F, v3v, r1v D] (.tup []) [v2v, r0v F, v3v, r1v (srt key D)] := by
 refine rcalls_of_x (X := [(2, false), (3, false), (21, true)]) (scalls_of_awpB 9009 Tryd.func24 (c := _) rfl (Nat.le_of_ble_eq_true rfl) rfl rfl rfl (fun us => ?_)) rfl
 refine awp_late ?_
 show awp cx 7 _ (lateQ cx 7 (postS cx Tryd.f24 (.tup []) [v2v, r0v F, v3v, r1v (srt key D)] 9009 [.ref 2 0, .ref 3 0, .row 21] us)) ⟨[(0, .row 21), (1, .clo kf [])], [p1v us, v2v, r0v F, v3v, r1v D]⟩
 refine awp_seq fun K0 hK0 => awp_region rfl ?_
 refine o_box 1001 [.clo kf []] gn rfl rfl ?_
 refine aops_end (hK0 _ ?_)
 refine awp_wk (σ' := ⟨[(0, .row 21), (1, .clo kf []), (3, .ref 1001 0)], [p1v us, v2v, r0v F, v3v, r1v D, (1001, .var 61 [.clo kf []])]⟩) (Wk.sub ⟨rfl, rfl, rfl, trivial⟩ ⟨rfl, rfl, rfl, rfl, rfl, rfl, trivial⟩) ?_
 refine awp_wk (σ' := ⟨[(0, .row 21), (1, .clo kf []), (3, .ip [.clo kf []])], [p1v us, v2v, r0v F, v3v, r1v D]⟩) (Wk.see (id := 1001) (t := 61) (cs := [.clo kf []]) rfl rfl) ?_
 refine awp_regionSW 2 6 _ 44 [] _ _ _ _ _ [.row 21, .clo 45 [.ip [.clo kf []]]] (.tup []) [v2v, r0v F, v3v, r1v (srt key D), p1v us] rfl rfl rfl f99_ ?_
 refine o_mv (.row 21) rfl ?_
 refine o_makeFunc [.ip [.clo kf []]] gn rfl ?_
 refine aops_end ⟨_, Wk.sub (σ' := ⟨[(0, .row 21), (1, .clo kf []), (3, .ip [.clo kf []]), (4, .row 21), (5, .clo 45 [.ip [.clo kf []]])], [v2v, r0v F, v3v, r1v D, p1v us]⟩) ⟨rfl, rfl, rfl, rfl, rfl, trivial⟩ ⟨rfl, rfl, rfl, rfl, rfl, trivial⟩, rfl, rfl, scalls_of_r (K := [2, 3, 21]) (m := [v2v, r0v F, v3v, r1v D]) (m' := [v2v, r0v F, v3v, r1v (srt key D)]) (e := [p1v us]) (c_ssoi kf key (c_cmpi kf key hkc hkf) D F hD) rfl rfl, ?_⟩
 exact ⟨⟨[], [p1v us, v2v, r0v F, v3v, r1v (srt key D)]⟩, Wk.sub trivial ⟨rfl, rfl, rfl, rfl, rfl, trivial⟩, ⟨[], trivial, rfl, fun id ob h => keep_pin h rfl, rfl⟩⟩

end Go.Proofs.YtjbaamfahkjhgaaDoor

