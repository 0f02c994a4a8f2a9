/- The rules by which Go code is read at the level of values: states as lists, code, loops, functions. Over any program. -/
import Derived.Test.YtkngglpnejdicaaDoorAb9
import Derived.Deep.LoopGhost
import Derived.Scope
set_option linter.unusedVariables false
set_option linter.unusedSimpArgs false
namespace Go.Ab
open Go.RowKit

/-- A state, written out. -/
structure St where
  slots : List (Nat × AV)
  objs : List (Nat × AO)

def look : List (Nat × AV) → Nat → AV
  | [], _ => .any
  | (j, v) :: r, i => bif Nat.beq j i then v else look r i
def lookO : List (Nat × AO) → Nat → Option AO
  | [], _ => none
  | (j, v) :: r, i => bif Nat.beq j i then some v else lookO r i
def delO : List (Nat × AO) → Nat → List (Nat × AO)
  | [], _ => []
  | (j, v) :: r, i => bif Nat.beq j i then delO r i else (j, v) :: delO r i
def putO (l : List (Nat × AO)) (i : Nat) : Option AO → List (Nat × AO)
  | some o => (i, o) :: delO l i
  | none => delO l i
def appU : List (Nat × Option AO) → List (Nat × AO) → List (Nat × AO)
  | [], l => l
  | (i, o) :: r, l => putO (appU r l) i o
def St.sem (σ : St) : SS := ⟨look σ.slots, lookO σ.objs⟩
def St.ev (σ : St) : Operand → AV
  | .tmp t => look σ.slots t
  | .const v => .lit v
  | .global g => .lit (.pointer (some ⟨g, 0, none⟩))
  | .func f => .clo f []
def St.app (σ : St) (dst : Option Nat) (e : Eff) : St := ⟨match dst with | some d => (d, e.val) :: σ.slots | none => σ.slots, appU e.upd σ.objs⟩
def St.freshB (σ : St) (id : Nat) : Bool := σ.slots.all (fun p => !p.2.has id) && σ.objs.all fun p => !Nat.beq p.1 id && !p.2.has id

theorem ev_sem (σ : St) (x : Operand) : σ.sem.ev x = σ.ev x := by cases x <;> rfl
theorem lookO_del (l : List (Nat × AO)) (i j : Nat) : lookO (delO l i) j = if j = i then none else lookO l j := by
  induction l with
  | nil => simp [delO, lookO]
  | cons p l ih =>
    obtain ⟨k, v⟩ := p
    simp only [delO]
    cases hb : Nat.beq k i with
    | true =>
      have := Nat.eq_of_beq_eq_true hb
      subst this
      simp only [cond_true, ih, lookO]
      by_cases hj : j = k
      · simp [hj]
      · simp [hj, beq_ne (fun e => hj e.symm)]
    | false =>
      have hne := Nat.ne_of_beq_eq_false hb
      simp only [cond_false, lookO, ih]
      cases hb2 : Nat.beq k j with
      | true =>
        have := Nat.eq_of_beq_eq_true hb2
        subst this
        simp [hne]
      | false => simp
theorem lookO_put (l : List (Nat × AO)) (i j : Nat) (o : Option AO) : lookO (putO l i o) j = if j = i then o else lookO l j := by
  cases o with
  | none => simp [putO, lookO_del]
  | some o =>
    simp only [putO, lookO]
    cases hb : Nat.beq i j with
    | true => have := Nat.eq_of_beq_eq_true hb; subst this; simp
    | false =>
      have hne := Nat.ne_of_beq_eq_false hb
      have hne' : ¬ j = i := fun e => hne e.symm
      simp only [cond_false, lookO_del, hne', if_false]
theorem lookO_app (u : List (Nat × Option AO)) (l : List (Nat × AO)) (j : Nat) : lookO (appU u l) j = match lkU u j with | some o => o | none => lookO l j := by
  induction u with
  | nil => rfl
  | cons p u ih =>
    obtain ⟨i, o⟩ := p
    simp only [appU, lookO_put, lkU]
    by_cases hj : j = i
    · subst hj; simp
    · simp [hj, beq_ne (fun e => hj e.symm), ih]
theorem sem_app (σ : St) (dst : Option Nat) (e : Eff) : (σ.app dst e).sem = σ.sem.app dst e := by
  unfold St.app St.sem SS.app
  congr 1
  · funext i
    cases dst with
    | none => simp
    | some d =>
      simp only [look, Option.some.injEq]
      cases hb : Nat.beq d i with
      | true => simp [Nat.eq_of_beq_eq_true hb]
      | false => simp [Nat.ne_of_beq_eq_false hb]
  · funext j
    exact lookO_app e.upd σ.objs j
theorem look_has {l : List (Nat × AV)} {id : Nat} (h : l.all (fun p => !p.2.has id) = true) (i : Nat) : (look l i).has id = false := by
  induction l with
  | nil => rfl
  | cons p l ih =>
    obtain ⟨j, v⟩ := p
    simp only [List.all_cons, Bool.and_eq_true, Bool.not_eq_true'] at h
    simp only [look]
    cases Nat.beq j i with
    | true => exact h.1
    | false => exact ih h.2
theorem fresh_sem {σ : St} {id : Nat} (h : σ.freshB id = true) : σ.sem.Fresh id := by
  simp only [St.freshB, Bool.and_eq_true] at h
  refine ⟨?_, look_has h.1, ?_⟩
  · have : ∀ (l : List (Nat × AO)), l.all (fun p => !Nat.beq p.1 id && !p.2.has id) = true → lookO l id = none := by
      intro l
      induction l with
      | nil => intro _; rfl
      | cons p l ih =>
        intro h
        simp only [List.all_cons, Bool.and_eq_true, Bool.not_eq_true'] at h
        simp only [lookO, h.1.1, cond_false]
        exact ih h.2
    exact this _ h.2
  · have : ∀ (l : List (Nat × AO)), l.all (fun p => !Nat.beq p.1 id && !p.2.has id) = true → ∀ i o, lookO l i = some o → o.has id = false := by
      intro l
      induction l with
      | nil => intro _ i o hi; simp [lookO] at hi
      | cons p l ih =>
        intro h i o hi
        simp only [List.all_cons, Bool.and_eq_true, Bool.not_eq_true'] at h
        simp only [lookO] at hi
        cases hb : Nat.beq p.1 i with
        | true => rw [hb] at hi; simp at hi; subst hi; exact h.1.2
        | false => rw [hb] at hi; exact ih h.2 i o hi
    exact this _ h.2

/-! ### Regions -/
def aops (C : Ctx) (ops : Array Oper) (σ : St) (os : List Oper) (K : List Eff → St → Prop) : Prop := ∃ es σ', Trace C ops σ.sem os es σ'.sem ∧ K es σ'
section
variable {C : Ctx} {ops : Array Oper} {σ : St} {os : List Oper} {o : Oper} {K : List Eff → St → Prop}
theorem aops_nil (h : K [] σ) : aops C ops σ [] K := ⟨[], σ, .nil _, h⟩
theorem aops_step {e : Eff} (hg : o.guard = none) (hs : Step C σ.sem o e) (hf : e.fresh.all σ.freshB = true) (k : aops C ops (σ.app o.dst e) os fun es σ' => K (e :: es) σ') : aops C ops σ (o :: os) K := by
  obtain ⟨es, σ', ht, hk⟩ := k
  rw [sem_app] at ht
  exact ⟨e :: es, σ', .cons (.run hg hs) (fun id hid => fresh_sem (List.all_eq_true.1 hf id hid)) ht, hk⟩
/-- A guarded operation whose guard says yes. -/
theorem aops_stepG {e : Eff} {j d : Nat} {want b : Bool} (hg : o.guard = some (j, want)) (hd : (ops[j]?).bind (·.dst) = some d) (hb : look σ.slots d = .lit (.bool b)) (hbw : b = want)
    (hs : Step C σ.sem o e) (hf : e.fresh.all σ.freshB = true) (k : aops C ops (σ.app o.dst e) os fun es σ' => K (e :: es) σ') : aops C ops σ (o :: os) K := by
  obtain ⟨es, σ', ht, hk⟩ := k
  rw [sem_app] at ht
  subst hbw
  exact ⟨e :: es, σ', .cons (.runG j b d hg hd hb hs) (fun id hid => fresh_sem (List.all_eq_true.1 hf id hid)) ht, hk⟩
/-- A guarded operation whose guard says no. -/
theorem aops_skipG {j d : Nat} {want : Bool} {u : Value} (hg : o.guard = some (j, want)) (hd : (ops[j]?).bind (·.dst) = some d) (hb : look σ.slots d = .lit u) (hu : u ≠ .bool want)
    (k : aops C ops (σ.app o.dst { val := .lit undef }) os fun es σ' => K ({ val := .lit undef } :: es) σ') : aops C ops σ (o :: os) K := by
  obtain ⟨es, σ', ht, hk⟩ := k
  rw [sem_app] at ht
  exact ⟨_, σ', .cons (.skip j want u d hg hd hb hu) (fun id hid => by simp at hid) ht, hk⟩
/-- Both ways. -/
theorem aops_split (b : Bool) (h1 : b = true → aops C ops σ os K) (h2 : b = false → aops C ops σ os K) : aops C ops σ os K := by
  cases b
  · exact h2 rfl
  · exact h1 rfl
end

/-! ### Code, in any frame -/
section
variable {P : Program} {Q : Exit → Act → World → Prop} {a : Act} {w : World}
theorem wpA_mono {c : Code} {Q' : Exit → Act → World → Prop} (h : c.wpA P Q a w) (hq : ∀ e a w, Q e a w → Q' e a w) : c.wpA P Q' a w := fun r => wpIn_mono (h r) hq
theorem wpA_skip (h : Q .normal a w) : Code.skip.wpA P Q a w := fun r => wpIn_skip h
theorem wpA_ret (h : Q .ret a w) : Code.ret.wpA P Q a w := fun r => wpIn_ret h
theorem wpA_exit {id : Nat} (h : Q (.exit id) a w) : (Code.exit id).wpA P Q a w := fun r => wpIn_exit h
theorem wpA_seq {x y : Code} (h : x.wpA P (fun e a w => match e with | .normal => y.wpA P Q a w | e => Q e a w) a w) : (Code.seq x y).wpA P Q a w := fun r => wpIn_seq (wpIn_mono (h r) fun e a w hp => by
  cases e with
  | normal => exact hp r
  | _ => exact hp)
theorem wpA_cond_split {c : Operand} {x y : Code} {t : Bool} (hc : a.eval c = .bool t) (ht : t = true → x.wpA P Q a w) (hf : t = false → y.wpA P Q a w) : (Code.cond c x y).wpA P Q a w := fun r => wpIn_cond_split hc (fun h => ht h r) (fun h => hf h r)
theorem wpA_loop_ghost {c : Code} (I : Nat → Act → World → Prop) (n₀ : Nat) (h₀ : I n₀ a w) (round : ∀ n a w, I n a w → c.wpA P (fun e a' w' => match e with | .normal => ∃ n', n' < n ∧ I n' a' w' | e => Q e a' w') a w) : (Code.loop c).wpA P Q a w := fun r => by
  refine wpIn_loop (fun a w => ∃ n, I n a w) (fun a w => leastOf (fun n => I n a w)) ⟨n₀, h₀⟩ ?_
  intro a w hI
  refine wpIn_mono (round _ a w (leastOf_spec hI).1 r) ?_
  intro e a' w' hq
  cases e with
  | normal =>
    obtain ⟨n', hlt, hI'⟩ := hq
    exact show (∃ n, I n a' w') ∧ leastOf (fun n => I n a' w') < leastOf (fun n => I n a w) from ⟨⟨n', hI'⟩, Nat.lt_of_le_of_lt ((leastOf_spec ⟨n', hI'⟩).2 n' hI') hlt⟩
  | _ => exact hq
theorem wpA_block {id : Nat} {c : Code} (h : c.wpA P (Exit.inBlock id Q) a w) : (Code.block id c).wpA P Q a w := fun r => wpIn_block (h r)
end

/-! ### Code -/
/-- Behind the code e, in the state σ, Q holds: whatever frame and world stand for the state. -/
def Post (C : Ctx) (n : Nat) (w0 : World) (H : Heap) (Q : Exit → St → Prop) (e : Exit) (a : Act) (w : World) : Prop := ∃ σ' H' L', Ext w0.heap.size H H' ∧ Rep C n w0 H' L' (St.sem σ') a w ∧ Q e σ'
def awp (C : Ctx) (n : Nat) (c : Code) (Q : Exit → St → Prop) (σ : St) : Prop :=
  ∀ w0 H L a w, Rep C n w0 H L σ.sem a w → c.wpA C.P (Post C n w0 H Q) a w
/-- A state may be told as another one. -/
def Wk (C : Ctx) (n : Nat) (σ σ' : St) : Prop := ∀ w0 H L a w, Rep C n w0 H L σ.sem a w → ∃ H' L', Ext w0.heap.size H H' ∧ Rep C n w0 H' L' σ'.sem a w
def thenK (K : St → Prop) (Q : Exit → St → Prop) : Exit → St → Prop
  | .normal, σ => K σ
  | e, σ => Q e σ
def inBlk (id : Nat) (Q : Exit → St → Prop) : Exit → St → Prop
  | .exit i, σ => bif Nat.beq i id then Q .normal σ else Q (.exit i) σ
  | e, σ => Q e σ

section
variable {C : Ctx} {n : Nat} {Q : Exit → St → Prop} {σ : St}
theorem Post.ext {w0 : World} {H H' : Heap} {e : Exit} {a : Act} {w : World} (hx : Ext w0.heap.size H H') (h : Post C n w0 H' Q e a w) : Post C n w0 H Q e a w := by
  obtain ⟨σ', H2, L', h1, h2⟩ := h
  exact ⟨σ', H2, L', hx.trans h1, h2⟩
theorem awp_mono {c : Code} {Q' : Exit → St → Prop} (h : awp C n c Q' σ) (hq : ∀ e σ, Q' e σ → Q e σ) : awp C n c Q σ := fun w0 H L a w hr =>
  wpA_mono (h w0 H L a w hr) fun e a w ⟨σ', H', L', h1, h2, h3⟩ => ⟨σ', H', L', h1, h2, hq _ _ h3⟩
theorem awp_wk {c : Code} {σ' : St} (hw : Wk C n σ σ') (h : awp C n c Q σ') : awp C n c Q σ := fun w0 H L a w hr => by
  obtain ⟨H', L', hx, hr'⟩ := hw w0 H L a w hr
  exact wpA_mono (h w0 H' L' a w hr') fun e a w hp => hp.ext hx
theorem awp_skip (h : Q .normal σ) : awp C n .skip Q σ := fun w0 H L a w hr => wpA_skip ⟨σ, H, L, Ext.refl _ _, hr, h⟩
theorem awp_ret (h : Q .ret σ) : awp C n .ret Q σ := fun w0 H L a w hr => wpA_ret ⟨σ, H, L, Ext.refl _ _, hr, h⟩
theorem awp_exit {id : Nat} (h : Q (.exit id) σ) : awp C n (.exit id) Q σ := fun w0 H L a w hr => wpA_exit ⟨σ, H, L, Ext.refl _ _, hr, h⟩
theorem awp_seq {x y : Code} (h : ∀ K : St → Prop, (∀ σ, awp C n y Q σ → K σ) → awp C n x (thenK K Q) σ) : awp C n (.seq x y) Q σ := fun w0 H L a w hr => by
  refine wpA_seq (wpA_mono (h _ (fun _ h => h) w0 H L a w hr) fun e a w hp => ?_)
  obtain ⟨σ', H', L', hx, hr', hq⟩ := hp
  cases e with
  | normal => exact wpA_mono (hq w0 H' L' a w hr') fun e a w hp => hp.ext hx
  | _ => exact ⟨σ', H', L', hx, hr', hq⟩
theorem awp_cond {c : Operand} {x y : Code} {b : Bool} (hc : σ.ev c = .lit (.bool b)) (ht : b = true → awp C n x Q σ) (hf : b = false → awp C n y Q σ) : awp C n (.cond c x y) Q σ := fun w0 H L a w hr => by
  have he := hr.ev c
  rw [ev_sem, hc] at he
  simp only [RepV] at he
  exact wpA_cond_split he (fun h => ht h w0 H L a w hr) (fun h => hf h w0 H L a w hr)
theorem awp_condP {c : Operand} {x y : Code} {p : Prop} [Decidable p] (hc : σ.ev c = .lit (.bool (decide p))) (ht : p → awp C n x Q σ) (hf : ¬ p → awp C n y Q σ) : awp C n (.cond c x y) Q σ :=
  awp_cond hc (fun h => ht (of_decide_eq_true h)) (fun h => hf (of_decide_eq_false h))
theorem awp_block {id : Nat} {c : Code} (h : awp C n c (inBlk id Q) σ) : awp C n (.block id c) Q σ := fun w0 H L a w hr => by
  refine wpA_block (wpA_mono (h w0 H L a w hr) fun e a w hp => ?_)
  obtain ⟨σ', H', L', hx, hr', hq⟩ := hp
  cases e with
  | exit i =>
    simp only [Exit.inBlock]
    simp only [inBlk] at hq
    by_cases hi : i = id
    · subst hi
      simp at hq
      simp only [if_true]
      exact ⟨σ', H', L', hx, hr', hq⟩
    · simp only [beq_ne hi, cond_false] at hq
      simp only [hi, if_false]
      exact ⟨σ', H', L', hx, hr', hq⟩
  | _ => exact ⟨σ', H', L', hx, hr', hq⟩
theorem awp_loop {c : Code} {γ : Type} (I : γ → St) (μ : γ → Nat) (g0 : γ) (h0 : Wk C n σ (I g0)) (round : ∀ g, awp C n c (thenK (fun σ' => ∃ g', μ g' < μ g ∧ Wk C n σ' (I g')) Q) (I g)) : awp C n (.loop c) Q σ := fun w0 H L a w hr => by
  obtain ⟨H1, L1, hx1, hr1⟩ := h0 w0 H L a w hr
  refine wpA_loop_ghost (fun k a w => ∃ g H' L', μ g = k ∧ Ext w0.heap.size H H' ∧ Rep C n w0 H' L' (I g).sem a w) (μ g0) ⟨g0, H1, L1, rfl, hx1, hr1⟩ ?_
  rintro k a w ⟨g, H', L', rfl, hx, hr⟩
  refine wpA_mono (round g w0 H' L' a w hr) fun e a w hp => ?_
  obtain ⟨σ', H2, L2, hx2, hr2, hq⟩ := hp
  cases e with
  | normal =>
    obtain ⟨g', hlt, hwk⟩ := hq
    obtain ⟨H3, L3, hx3, hr3⟩ := hwk w0 H2 L2 a w hr2
    exact ⟨μ g', hlt, g', H3, L3, rfl, (hx.trans hx2).trans hx3, hr3⟩
  | _ => exact ⟨σ', H2, L2, hx.trans hx2, hr2, hq⟩

def dstsB (n : Nat) (ops : List Oper) : Bool := ops.all fun o => match o.dst with
  | some d => Nat.blt d n
  | none => true
theorem dsts_spec {n : Nat} {ops : List Oper} (h : dstsB n ops = true) : ∀ o ∈ ops, ∀ d, o.dst = some d → d < n := by
  intro o ho d hd
  have := List.all_eq_true.1 h o ho
  rw [hd] at this
  simp only [Nat.blt_eq] at this
  exact this
theorem awp_region {id : Nat} {ops : Array Oper} (hd : dstsB n ops.toList = true) (h : aops C ops σ ops.toList fun _ σ' => Q .normal σ') : awp C n (.region id ops false) Q σ := fun w0 H L a w hr => by
  obtain ⟨es, σ', ht, hq⟩ := h
  exact region_lex ht hr (dsts_spec hd) fun a' w' H' L' hx hr' => ⟨σ', H', L', hx, hr', hq⟩
theorem awp_regionD {id : Nat} {ops : Array Oper} (hd : dstsB n ops.toList = true) (h : aops C ops σ ops.toList fun es σ' => (drawB ops es && es.all fun e => e.fresh.all σ.freshB) = true ∧ Q .normal σ') : awp C n (.region id ops true) Q σ := fun w0 H L a w hr => by
  obtain ⟨es, σ', ht, hb, hq⟩ := h
  simp only [Bool.and_eq_true] at hb
  exact region_any C.mixed ht hb.1 (fun e he id hid => fresh_sem (List.all_eq_true.1 (List.all_eq_true.1 hb.2 e he) id hid)) hr (dsts_spec hd) fun a' w' H' L' hx hr' => ⟨σ', H', L', hx, hr', hq⟩

/-! ### States told otherwise -/
theorem Wk.refl (σ : St) : Wk C n σ σ := fun w0 H L a w hr => ⟨H, L, Ext.refl _ _, hr⟩
theorem Wk.trans {σ1 σ2 σ3 : St} (h : Wk C n σ1 σ2) (k : Wk C n σ2 σ3) : Wk C n σ1 σ3 := fun w0 H L a w hr => by
  obtain ⟨H', L', hx, hr'⟩ := h w0 H L a w hr
  obtain ⟨H2, L2, hx2, hr2⟩ := k w0 H' L' a w hr'
  exact ⟨H2, L2, hx.trans hx2, hr2⟩
def subS (σ : St) : List (Nat × AV) → Prop
  | [] => True
  | (i, v) :: r => look σ.slots i = v ∧ subS σ r
def subO (σ : St) : List (Nat × AO) → Prop
  | [] => True
  | (i, v) :: r => lookO σ.objs i = some v ∧ subO σ r
theorem look_mem {l : List (Nat × AV)} {i : Nat} : look l i = .any ∨ (i, look l i) ∈ l := by
  induction l with
  | nil => exact .inl rfl
  | cons p l ih =>
    obtain ⟨j, v⟩ := p
    simp only [look]
    cases hb : Nat.beq j i with
    | true => have := Nat.eq_of_beq_eq_true hb; subst this; simp
    | false => rcases ih with h | h <;> simp [h]
theorem lookO_mem {l : List (Nat × AO)} {i : Nat} {o : AO} (h : lookO l i = some o) : (i, o) ∈ l := by
  induction l with
  | nil => simp [lookO] at h
  | cons p l ih =>
    obtain ⟨j, v⟩ := p
    simp only [lookO] at h
    cases hb : Nat.beq j i with
    | true => have := Nat.eq_of_beq_eq_true hb; subst this; rw [hb] at h; simp at h; simp [h]
    | false => rw [hb] at h; simp [ih h]
theorem subS_mem {σ : St} {l : List (Nat × AV)} (h : subS σ l) {i : Nat} {v : AV} (hm : (i, v) ∈ l) : look σ.slots i = v := by
  induction l with
  | nil => cases hm
  | cons p l ih =>
    obtain ⟨j, u⟩ := p
    obtain ⟨h1, h2⟩ := h
    rcases List.mem_cons.1 hm with e | e
    · cases e; exact h1
    · exact ih h2 e
theorem subO_mem {σ : St} {l : List (Nat × AO)} (h : subO σ l) {i : Nat} {v : AO} (hm : (i, v) ∈ l) : lookO σ.objs i = some v := by
  induction l with
  | nil => cases hm
  | cons p l ih =>
    obtain ⟨j, u⟩ := p
    obtain ⟨h1, h2⟩ := h
    rcases List.mem_cons.1 hm with e | e
    · cases e; exact h1
    · exact ih h2 e
theorem Wk.sub {σ σ' : St} (hs : subS σ σ'.slots) (ho : subO σ σ'.objs) : Wk C n σ σ' := fun w0 H L a w hr => by
  have hr' := hr.fewer (μ := lookO σ'.objs) (fun i o hi => subO_mem ho (lookO_mem hi))
  refine ⟨H, L, Ext.refl _ _, ⟨hr'.glob, hr'.heap, hr'.size, fun i => ?_, hr'.objs, hr'.apart, hr'.below, hr'.defers⟩⟩
  rcases look_mem (l := σ'.slots) (i := i) with h | h
  · show RepV H (look σ'.slots i) L _
    rw [h]
    simp [RepV]
  · have := hr.slot i
    show RepV H (look σ'.slots i) L _
    rw [← subS_mem hs h]
    exact this
end
end Go.Ab
