/- Part 1: a logic of frames and held blocks over the kit's wp, and plain models of the document's functions. No condition beyond those that each theorem states. -/
import Derived.WalkKit
import Derived.KernelRfl
import Derived.LoopN
import Derived.OrdersHeld
import Derived.Laws.StructEq
import Derived.ChangeKeysEq
import Derived.Test.YtfcijboaamelfaaProg
set_option linter.unusedVariables false
/-
 The core of a small program logic over the kit's 'wp': frames and heaps as lists of facts.
-/
set_option linter.unusedSimpArgs false
namespace Go.GL

/-! ### 1. Frames -/
theorem nbeq_false {a b : Nat} (h : a ≠ b) : Nat.beq a b = false := by
 cases hb : Nat.beq a b with
 | false => rfl
 | true => exact absurd (Nat.eq_of_beq_eq_true hb) h
abbrev Frm := List (Nat × Value)
def look : Frm → Nat → Option Value
 | [], _ => none
 | (d, v) :: F, k => bif Nat.beq d k then some v else look F k
def ev (F : Frm) : Operand → Option Value
 | .tmp d => look F d
 | .const v => some v
 | .global g => some (.pointer (some ⟨g, 0, none⟩))
 | .func f => some (.func (.func f) #[] #[])
structure Fr (t : Array Value) (n : Nat) (F : Frm) : Prop where
 size : t.size = n
 get : ∀ d v, look F d = some v → t[d]? = some v

theorem Fr.eval {t : Array Value} {n : Nat} {F : Frm} (h : Fr t n F) {ds : List Deferred} {x : Operand} {v : Value} (hx : ev F x = some v) : Act.eval ⟨t, ds⟩ x = v := by
 cases x with
 | tmp d =>
  have := h.get d v hx
  simp only [Act.eval, Array.getD_eq_getD_getElem?]
  simp [this]
 | const c => simpa [ev, Act.eval] using hx
 | global g => simpa [ev, Act.eval] using hx
 | func f => simpa [ev, Act.eval] using hx

theorem Fr.put {t : Array Value} {n : Nat} {F : Frm} (h : Fr t n F) (d : Nat) (hd : d < n) (v : Value) : Fr (t.setIfInBounds d v) n ((d, v) :: F) := by
 refine ⟨by simp [h.size], fun k u hk => ?_⟩
 simp only [look] at hk
 by_cases e : d = k
 ·subst e
  simp only [Nat.beq_refl, cond_true, Option.some.injEq] at hk
  subst hk
  rw [Array.getElem?_setIfInBounds]
  simp [h.size, hd]
 ·have : Nat.beq d k = false := nbeq_false e
  rw [this, cond_false] at hk
  rw [Array.getElem?_setIfInBounds, if_neg e]
  exact h.get k u hk

/-- The frame F' says no more than F. -/
def Sub : Frm → Frm → Prop
 | [], _ => True
 | (d, v) :: F', F => look F d = some v ∧ Sub F' F
theorem Sub.look {F' F : Frm} (h : Sub F' F) {d : Nat} {v : Value} (hl : look F' d = some v) : look F d = some v := by
 induction F' with
 | nil => simp [GL.look] at hl
 | cons p F' ih =>
  obtain ⟨e, u⟩ := p
  obtain ⟨h1, h2⟩ := h
  simp only [GL.look] at hl
  by_cases he : e = d
  ·subst he
   simp only [Nat.beq_refl, cond_true, Option.some.injEq] at hl
   exact hl ▸ h1
  ·have : Nat.beq e d = false := nbeq_false he
   rw [this, cond_false] at hl
   exact ih h2 hl
theorem Fr.sub {t : Array Value} {n : Nat} {F F' : Frm} (h : Fr t n F) (hs : Sub F' F) : Fr t n F' := ⟨h.size, fun d v hl => h.get d v (hs.look hl)⟩

/-! ### 2. Heaps -/
abbrev Chunk := Nat × Obj
structure Wd (w0 w : World) (L : List Chunk) : Prop where
 os : w.os = w0.os
 tape : w.tape = w0.tape
 output : w.output = w0.output
 size : w0.heap.size ≤ w.heap.size
 nd : (L.map (·.1)).Nodup
 has : ∀ c ∈ L, w.heap[c.1]? = some c.2
 dr : w0.drawn ≤ w.drawn

theorem Wd.lt {w0 w : World} {L : List Chunk} (h : Wd w0 w L) {c : Chunk} (hc : c ∈ L) : c.1 < w.heap.size := (Array.getElem?_eq_some_iff.1 (h.has c hc)).1
theorem Wd.fresh {w0 w : World} {L : List Chunk} (h : Wd w0 w L) : w.heap.size ∉ L.map (·.1) := by
 intro hm
 obtain ⟨c, hc, e⟩ := List.mem_map.1 hm
 have := h.lt hc
 omega
theorem Wd.alloc {w0 w : World} {L : List Chunk} (h : Wd w0 w L) (o : Obj) : Wd w0 (w.alloc o) ((w.heap.size, o) :: L) := by
 refine ⟨h.os, h.tape, h.output, by have := h.size; rw [World.size_alloc]; omega, ?_, ?_, h.dr⟩
 ·simp only [List.map_cons, List.nodup_cons]
  exact ⟨h.fresh, h.nd⟩
 ·intro c hc
  rcases List.mem_cons.1 hc with rfl | hc
  ·show (w.heap.push o)[w.heap.size]? = some o
   simp
  ·have := h.lt hc
   show (w.heap.push o)[c.1]? = some c.2
   rw [Array.getElem?_push, if_neg (by omega)]
   exact h.has c hc
theorem Wd.drawn {w0 w : World} {L : List Chunk} (h : Wd w0 w L) (n : Nat) (hn : w.drawn ≤ n) : Wd w0 { w with drawn := n } L := ⟨h.os, h.tape, h.output, h.size, h.nd, h.has, Nat.le_trans h.dr hn⟩
theorem Wd.perm {w0 w : World} {L L' : List Chunk} (h : Wd w0 w L) (hp : L.Perm L') : Wd w0 w L' :=
 ⟨h.os, h.tape, h.output, h.size, (hp.map (·.1)).nodup_iff.1 h.nd, fun c hc => h.has c (hp.mem_iff.2 hc), h.dr⟩
theorem Wd.drop {w0 w : World} {L L' : List Chunk} (h : Wd w0 w (L ++ L')) : Wd w0 w L' := by
 refine ⟨h.os, h.tape, h.output, h.size, ?_, fun c hc => h.has c (by simp [hc]), h.dr⟩
 have := h.nd
 rw [List.map_append] at this
 exact (List.nodup_append.1 this).2.1
/-- Setting the object of the first block. -/
theorem Wd.setObj {w0 w : World} {b : Nat} {o : Obj} {L : List Chunk} (h : Wd w0 w ((b, o) :: L)) (o' : Obj) (heap' : Array Obj) (hsz : heap'.size = w.heap.size) (hb : heap'[b]? = some o') (hne : ∀ k, k ≠ b → heap'[k]? = w.heap[k]?) :
  Wd w0 { w with heap := heap' } ((b, o') :: L) := by
 have hnd := h.nd
 simp only [List.map_cons, List.nodup_cons] at hnd
 refine ⟨h.os, h.tape, h.output, by simpa [hsz] using h.size, by simpa using hnd, ?_, h.dr⟩
 intro c hc
 rcases List.mem_cons.1 hc with rfl | hc
 ·exact hb
 ·have hcb : c.1 ≠ b := fun e => hnd.1 (List.mem_map.2 ⟨c, hc, e⟩)
  exact (hne c.1 hcb).trans (h.has c (List.mem_cons_of_mem _ hc))

/-- What is held: a word on a list of chunks. -/
abbrev Asrt := List Chunk → Prop
inductive Seps : List Asrt → List Chunk → Prop
 | nil : Seps [] []
 | cons {a : Asrt} {c cs : List Chunk} {A : List Asrt} : a c → Seps A cs → Seps (a :: A) (c ++ cs)
def St (w0 w : World) (A : List Asrt) (I : List Chunk) : Prop := ∃ cs, Seps A cs ∧ Wd w0 w (cs ++ I)

theorem Seps.cons_inv {a : Asrt} {A : List Asrt} {cs : List Chunk} (h : Seps (a :: A) cs) : ∃ c cs', cs = c ++ cs' ∧ a c ∧ Seps A cs' := by
 cases h with
 | cons h1 h2 => exact ⟨_, _, rfl, h1, h2⟩
theorem Seps.append {A B : List Asrt} {c1 c2 : List Chunk} (h1 : Seps A c1) (h2 : Seps B c2) : Seps (A ++ B) (c1 ++ c2) := by
 induction h1 with
 | nil => simpa
 | cons ha _ ih => rw [List.cons_append, List.append_assoc]; exact .cons ha ih
theorem Seps.perm {A B : List Asrt} (hp : A.Perm B) : ∀ {cs : List Chunk}, Seps A cs → ∃ cs', Seps B cs' ∧ cs.Perm cs' := by
 induction hp with
 | nil => intro cs h; exact ⟨cs, h, .refl _⟩
 | cons a _ ih =>
  intro cs h
  obtain ⟨c, cs', rfl, ha, hr⟩ := h.cons_inv
  obtain ⟨cs2, h2, hp⟩ := ih hr
  exact ⟨c ++ cs2, .cons ha h2, hp.append_left c⟩
 | swap a b l =>
  intro cs h
  obtain ⟨c, cs', rfl, ha, hr⟩ := h.cons_inv
  obtain ⟨d, cs2, rfl, hb, hr⟩ := hr.cons_inv
  refine ⟨d ++ (c ++ cs2), .cons hb (.cons ha hr), ?_⟩
  rw [← List.append_assoc, ← List.append_assoc]
  exact List.Perm.append_right _ List.perm_append_comm
 | trans _ _ ih1 ih2 =>
  intro cs h
  obtain ⟨c1, h1, p1⟩ := ih1 h
  obtain ⟨c2, h2, p2⟩ := ih2 h1
  exact ⟨c2, h2, p1.trans p2⟩
theorem St.perm {w0 w : World} {A B : List Asrt} {I : List Chunk} (h : St w0 w A I) (hp : A.Perm B) : St w0 w B I := by
 obtain ⟨cs, hs, hw⟩ := h
 obtain ⟨cs', hs', hp'⟩ := hs.perm hp
 exact ⟨cs', hs', hw.perm (hp'.append_right I)⟩
theorem St.drawn {w0 w : World} {A : List Asrt} {I : List Chunk} (h : St w0 w A I) (n : Nat) (hn : w.drawn ≤ n) : St w0 { w with drawn := n } A I := let ⟨cs, hs, hw⟩ := h; ⟨cs, hs, hw.drawn n hn⟩
theorem St.drew {w0 w : World} {A : List Asrt} {I : List Chunk} (h : St w0 w A I) : St w0 w.drew A I := h.drawn _ (Nat.le_succ _)
theorem St.drop {w0 w : World} {a : Asrt} {A : List Asrt} {I : List Chunk} (h : St w0 w (a :: A) I) : St w0 w A I := by
 obtain ⟨cs, hs, hw⟩ := h
 obtain ⟨c, cs', rfl, ha, hr⟩ := hs.cons_inv
 exact ⟨cs', hr, by rw [List.append_assoc] at hw; exact hw.drop⟩
theorem St.weaken {w0 w : World} {a b : Asrt} {A : List Asrt} {I : List Chunk} (h : St w0 w (a :: A) I) (hab : ∀ c, a c → b c) : St w0 w (b :: A) I := by
 obtain ⟨cs, hs, hw⟩ := h
 obtain ⟨c, cs', rfl, ha, hr⟩ := hs.cons_inv
 exact ⟨c ++ cs', .cons (hab c ha) hr, hw⟩

/-- One block. -/
def Pt (b : Nat) (o : Obj) : Asrt := fun c => c = [(b, o)]
/-- One block of cells. -/
def Box (b : Nat) (cells : List Value) (T : TypeId) : Asrt := Pt b (.cells cells.toArray T (0, 0))

theorem St.alloc {w0 w : World} {A : List Asrt} {I : List Chunk} (h : St w0 w A I) (o : Obj) : St w0 (w.alloc o) (Pt w.heap.size o :: A) I := by
 obtain ⟨cs, hs, hw⟩ := h
 exact ⟨[(w.heap.size, o)] ++ cs, .cons rfl hs, by simpa using hw.alloc o⟩
theorem St.at {w0 w : World} {b : Nat} {o : Obj} {A : List Asrt} {I : List Chunk} (h : St w0 w (Pt b o :: A) I) : w.heap[b]? = some o := by
 obtain ⟨cs, hs, hw⟩ := h
 obtain ⟨c, cs', rfl, rfl, hr⟩ := hs.cons_inv
 exact hw.has (b, o) (by simp)
theorem St.set {w0 w : World} {b : Nat} {o : Obj} {A : List Asrt} {I : List Chunk} (h : St w0 w (Pt b o :: A) I) (o' : Obj) (heap' : Array Obj) (hsz : heap'.size = w.heap.size) (hb : heap'[b]? = some o') (hne : ∀ k, k ≠ b → heap'[k]? = w.heap[k]?) :
  St w0 { w with heap := heap' } (Pt b o' :: A) I := by
 obtain ⟨cs, hs, hw⟩ := h
 obtain ⟨c, cs', rfl, rfl, hr⟩ := hs.cons_inv
 exact ⟨[(b, o')] ++ cs', .cons rfl hr, by simpa using Wd.setObj (by simpa using hw) o' heap' hsz hb hne⟩
/-- What will not be written any more. -/
theorem St.freeze {w0 w : World} {b : Nat} {o : Obj} {A : List Asrt} {I : List Chunk} (h : St w0 w (Pt b o :: A) I) : St w0 w A ((b, o) :: I) := by
 obtain ⟨cs, hs, hw⟩ := h
 obtain ⟨c, cs', rfl, rfl, hr⟩ := hs.cons_inv
 refine ⟨cs', hr, hw.perm ?_⟩
 simpa using (List.perm_middle (l₁ := cs') (a := (b, o)) (l₂ := I)).symm
theorem St.inI {w0 w : World} {A : List Asrt} {I : List Chunk} (h : St w0 w A I) {c : Chunk} (hc : c ∈ I) : w.heap[c.1]? = some c.2 := by
 obtain ⟨cs, hs, hw⟩ := h
 exact hw.has c (by simp [hc])

/-! ### 3. The judgement -/
def Tri (w0 : World) (n : Nat) (F : Frm) (A : List Asrt) (I : List Chunk) (K : Act → World → Prop) : Prop := ∀ t w, Fr t n F → St w0 w A I → K ⟨t, []⟩ w

section
variable {w0 : World} {n : Nat} {F : Frm} {A : List Asrt} {I : List Chunk} {P : Program} {Q : Exit → Act → World → Prop}

theorem tri_sub {F' : Frm} {K : Act → World → Prop} (hs : Sub F' F) (h : Tri w0 n F' A I K) : Tri w0 n F A I K := fun t w hf hst => h t w (hf.sub hs) hst
theorem tri_perm {B : List Asrt} {K : Act → World → Prop} (hp : A.Perm B) (h : Tri w0 n F B I K) : Tri w0 n F A I K := fun t w hf hst => h t w hf (hst.perm hp)
theorem tri_pull3 {a b c d : Asrt} {K : Act → World → Prop} (hh : Tri w0 n F (d :: a :: b :: c :: A) I K) : Tri w0 n F (a :: b :: c :: d :: A) I K := tri_perm (B := d :: a :: b :: c :: A) (by simpa using (List.perm_middle (l₁ := [a, b, c]) (a := d) (l₂ := A))) hh
theorem tri_drop {a : Asrt} {K : Act → World → Prop} (h : Tri w0 n F A I K) : Tri w0 n F (a :: A) I K := fun t w hf hst => h t w hf hst.drop
theorem tri_weaken {a b : Asrt} {K : Act → World → Prop} (hab : ∀ c, a c → b c) (h : Tri w0 n F (b :: A) I K) : Tri w0 n F (a :: A) I K := fun t w hf hst => h t w hf (hst.weaken hab)
theorem tri_freeze {b : Nat} {o : Obj} {K : Act → World → Prop} (h : Tri w0 n F A ((b, o) :: I) K) : Tri w0 n F (Pt b o :: A) I K := fun t w hf hst => h t w hf hst.freeze
theorem tri_freezeBox {b : Nat} {cs : List Value} {T : TypeId} {K : Act → World → Prop} (h : Tri w0 n F A ((b, .cells cs.toArray T (0, 0)) :: I) K) : Tri w0 n F (Box b cs T :: A) I K := tri_freeze h

/-! #### code -/
theorem tri_seq {x y : Code} (h : Tri w0 n F A I (Code.wp P x (Exit.then (Code.wp P y Q) Q))) : Tri w0 n F A I (Code.wp P (.seq x y) Q) := fun t w hf hs => wp_seq (h t w hf hs)
theorem tri_skip (h : Tri w0 n F A I (Q .normal)) : Tri w0 n F A I (Code.wp P .skip Q) := fun t w hf hs => wp_skip (h t w hf hs)
theorem tri_exit {id : Nat} (h : Tri w0 n F A I (Q (.exit id))) : Tri w0 n F A I (Code.wp P (.exit id) Q) := fun t w hf hs => wp_exit (h t w hf hs)
theorem tri_ret (h : Tri w0 n F A I (Q .ret)) : Tri w0 n F A I (Code.wp P .ret Q) := fun t w hf hs => wp_ret (h t w hf hs)
theorem tri_block {id : Nat} {c : Code} (h : Tri w0 n F A I (Code.wp P c (Exit.inBlock id Q))) : Tri w0 n F A I (Code.wp P (.block id c) Q) := fun t w hf hs => wp_block (h t w hf hs)
theorem tri_region {id : Nat} {l : List Oper} (h : Tri w0 n F A I (wpList P l.toArray Q l)) : Tri w0 n F A I (Code.wp P (.region id l.toArray false) Q) := fun t w hf hs => wp_region_lit (h t w hf hs)
theorem tri_nil {ops : Array Oper} (h : Tri w0 n F A I (Q .normal)) : Tri w0 n F A I (wpList P ops Q []) := h
theorem tri_then {K : Act → World → Prop} (h : Tri w0 n F A I K) : Tri w0 n F A I (Exit.then K Q .normal) := h
theorem tri_then_exit {K : Act → World → Prop} {id : Nat} (h : Tri w0 n F A I (Q (.exit id))) : Tri w0 n F A I (Exit.then K Q (.exit id)) := h
theorem tri_then_ret {K : Act → World → Prop} (h : Tri w0 n F A I (Q .ret)) : Tri w0 n F A I (Exit.then K Q .ret) := h
theorem tri_inBlock {id : Nat} (h : Tri w0 n F A I (Q .normal)) : Tri w0 n F A I (Exit.inBlock id Q .normal) := h
theorem tri_inBlock_ret {id : Nat} (h : Tri w0 n F A I (Q .ret)) : Tri w0 n F A I (Exit.inBlock id Q .ret) := h
theorem tri_inBlock_hit {id id' : Nat} (he : Nat.beq id' id = true) (h : Tri w0 n F A I (Q .normal)) : Tri w0 n F A I (Exit.inBlock id Q (.exit id')) := by
 have : id' = id := Nat.eq_of_beq_eq_true he
 subst this
 intro t w hf hs
 simp only [Exit.inBlock, if_true]
 exact h t w hf hs
theorem tri_cond {c : Operand} {x y : Code} {b : Bool} (hc : ev F c = some (.bool b)) (ht : b = true → Tri w0 n F A I (Code.wp P x Q)) (hf : b = false → Tri w0 n F A I (Code.wp P y Q)) : Tri w0 n F A I (Code.wp P (.cond c x y) Q) :=
 fun t w hfr hs => wp_cond_split (hfr.eval hc) (fun h => ht h t w hfr hs) (fun h => hf h t w hfr hs)
theorem tri_cond_true {c : Operand} {x y : Code} (hc : ev F c = some (.bool true)) (ht : Tri w0 n F A I (Code.wp P x Q)) : Tri w0 n F A I (Code.wp P (.cond c x y) Q) := tri_cond hc (fun _ => ht) (by simp)
theorem tri_cond_false {c : Operand} {x y : Code} (hc : ev F c = some (.bool false)) (hf : Tri w0 n F A I (Code.wp P y Q)) : Tri w0 n F A I (Code.wp P (.cond c x y) Q) := tri_cond hc (by simp) (fun _ => hf)
theorem tri_cond_dec {c : Operand} {x y : Code} {p : Prop} [Decidable p] (hc : ev F c = some (.bool (decide p))) (ht : p → Tri w0 n F A I (Code.wp P x Q)) (hf : ¬ p → Tri w0 n F A I (Code.wp P y Q)) : Tri w0 n F A I (Code.wp P (.cond c x y) Q) :=
 tri_cond hc (fun h => ht (of_decide_eq_true h)) (fun h => hf (of_decide_eq_false h))

/-- A loop, by what holds at a round's head; K: the next rounds. -/
theorem tri_rounds {c : Code} (m : Nat) (h : Tri w0 n F A I (Code.rounds P c Q m)) : Tri w0 n F A I (Code.wp P (.loop c) Q) := fun t w hf hs => wp_loop_rounds m (h t w hf hs)
theorem tri_round {c : Code} {m : Nat} (h : Tri w0 n F A I (Code.wp P c (Exit.then (Code.rounds P c Q m) Q))) : Tri w0 n F A I (Code.rounds P c Q (m + 1)) := h
theorem loop_ind {G : Type} (μ : G → Nat) (pre : G → Prop) (Fg : G → Frm) (Ag : G → List Asrt) (Ig : G → List Chunk) {c : Code}
  (round : ∀ g, pre g → ∀ K : Act → World → Prop, (∀ g', pre g' → μ g' < μ g → Tri w0 n (Fg g') (Ag g') (Ig g') K) → Tri w0 n (Fg g) (Ag g) (Ig g) (Code.wp P c (Exit.then K Q))) (g : G) (hg : pre g) :
  Tri w0 n (Fg g) (Ag g) (Ig g) (Code.wp P (.loop c) Q) := by
 have key : ∀ m g, pre g → μ g < m → Tri w0 n (Fg g) (Ag g) (Ig g) (Code.rounds P c Q m) := by
  intro m
  induction m with
  | zero => intro g _ h; omega
  | succ m ih => intro g hg hm; exact tri_round (round g hg _ fun g' hg' hlt => ih g' hg' (by omega))
 exact tri_rounds (μ g + 1) (key _ g hg (by omega))

/-- A cut: behind the piece of code one of these states. -/
def cutQ (w0 : World) (n : Nat) (C : Frm → List Asrt → List Chunk → Prop) (Q : Exit → Act → World → Prop) : Exit → Act → World → Prop
 | .normal, a, w => ∃ F' A' I', C F' A' I' ∧ Fr a.tmps n F' ∧ a.defers = [] ∧ St w0 w A' I'
 | e, a, w => Q e a w
theorem tri_cut {c : Code} (C : Frm → List Asrt → List Chunk → Prop) (h : Tri w0 n F A I (Code.wp P c (cutQ w0 n C Q))) (k : ∀ F' A' I', C F' A' I' → Tri w0 n F' A' I' (Q .normal)) : Tri w0 n F A I (Code.wp P c Q) := by
 intro t w hf hs
 refine Code.wp_mono ?_ (h t w hf hs)
 intro e a w q
 cases e with
 | normal =>
  obtain ⟨F', A', I', hC, hF, hd, hS⟩ := q
  obtain ⟨t', ds⟩ := a
  simp only at hd hF
  subst hd
  exact k F' A' I' hC t' w hF hS
 | _ => exact q
theorem tri_cutEnd {C : Frm → List Asrt → List Chunk → Prop} (F' : Frm) (hC : C F' A I) (hs : Sub F' F) : Tri w0 n F A I (cutQ w0 n C Q .normal) := fun t w hf hst => ⟨F', A, I, hC, hf.sub hs, rfl, hst⟩
/-- For looking alone. -/
def Dbg (F : Frm) (A : List Asrt) (I : List Chunk) : Prop := ∀ w0 n K, Tri w0 n F A I K
/-! #### calls -/
/-- What a call comes to. -/
def FnC (P : Program) (f : FuncId) (args : Array Value) (A : List Asrt) (I : List Chunk) (R : Value → List Asrt → List Chunk → Prop) : Prop :=
 ∀ w0 w, St w0 w A I → Calls P f args w fun e w' => ∃ v A' I', e = .returned v ∧ R v A' I' ∧ St w0 w' A' I'
theorem FnC.mono {f : FuncId} {args : Array Value} {R R' : Value → List Asrt → List Chunk → Prop} (h : FnC P f args A I R) (hr : ∀ v A' I', R v A' I' → R' v A' I') : FnC P f args A I R' :=
 fun w0 w hs => (h w0 w hs).mono fun e w' ⟨v, A', I', he, hR, hS⟩ => ⟨v, A', I', he, hr _ _ _ hR, hS⟩
theorem FnC.perm {f : FuncId} {args : Array Value} {B : List Asrt} {R : Value → List Asrt → List Chunk → Prop} (h : FnC P f args B I R) (hp : A.Perm B) : FnC P f args A I R :=
 fun w0 w hs => h w0 w (hs.perm hp)

/-- The post of a body. -/
def Ends (P : Program) (fn : Func) (w0 : World) (R : Value → List Asrt → List Chunk → Prop) : Exit → Act → World → Prop :=
 bodyPost P fn fun e w' => ∃ v A' I', e = .returned v ∧ R v A' I' ∧ St w0 w' A' I'

/-- The first slots. -/
def argF : List Value → Nat → Frm
 | [], _ => []
 | v :: l, k => (k, v) :: argF l (k + 1)
theorem fr_of_args : ∀ (l : List Value) (t : Array Value) (k : Nat), (∀ i v, l[i]? = some v → t[k + i]? = some v) → ∀ d v, look (argF l k) d = some v → t[d]? = some v
 | [], t, k, h, d, v, hl => by simp [argF, look] at hl
 | x :: l, t, k, h, d, v, hl => by
  simp only [argF, look] at hl
  by_cases e : k = d
  ·subst e
   simp only [Nat.beq_refl, cond_true, Option.some.injEq] at hl
   subst hl
   simpa using h 0 x (by simp)
  ·rw [nbeq_false e, cond_false] at hl
   exact fr_of_args l t (k + 1) (fun i v hi => by have := h (i + 1) v (by simpa using hi); rwa [show k + (i + 1) = k + 1 + i by omega] at this) d v hl

/-- Into a function: its arguments stand in the first slots; the others hold nothing that is known. -/
theorem fn_enter {f : FuncId} {fn : Func} {c : Code} {args : List Value} {R : Value → List Asrt → List Chunk → Prop} {m : Nat} (hf : P.funcs[f]? = some fn) (hb : fn.body = some c) (hn : fn.ntmps = m) (hle : Nat.ble args.length m = true)
  (h : ∀ w0, Tri w0 m (argF args 0) A I (Code.wp P c (Ends P fn w0 R))) : FnC P f args.toArray A I R := by
 intro w0 w hs
 have hle' := Nat.le_of_ble_eq_true hle
 refine calls_of_wp hf hb (h w0 _ w ⟨?_, ?_⟩ hs)
 ·simp only [Array.size_append, Array.size_replicate, List.size_toArray, hn]; omega
 ·refine fr_of_args args _ 0 (fun i v hi => ?_)
  have hlt : i < args.length := (List.getElem?_eq_some_iff.1 hi).1
  rw [Nat.zero_add, Array.getElem?_append, if_pos (by simpa using hlt)]
  simpa using hi
section
variable {f : FuncId} {fn : Func} {c : Code} {R : Value → List Asrt → List Chunk → Prop} {m : Nat} (hf : P.funcs[f]? = some fn) (hb : fn.body = some c) (hn : fn.ntmps = m)
include hf hb hn
theorem fn_enter0 (hle : Nat.ble 0 m = true) (h : ∀ w0, Tri w0 m [] A I (Code.wp P c (Ends P fn w0 R))) : FnC P f [].toArray A I R := fn_enter hf hb hn hle h
theorem fn_enter1 {a : Value} (hle : Nat.ble 1 m = true) (h : ∀ w0, Tri w0 m [(0, a)] A I (Code.wp P c (Ends P fn w0 R))) : FnC P f [a].toArray A I R := fn_enter (args := [a]) hf hb hn hle h
theorem fn_enter2 {a b : Value} (hle : Nat.ble 2 m = true) (h : ∀ w0, Tri w0 m [(0, a), (1, b)] A I (Code.wp P c (Ends P fn w0 R))) : FnC P f [a, b].toArray A I R := fn_enter (args := [a, b]) hf hb hn hle h
theorem fn_enter3 {a b d : Value} (hle : Nat.ble 3 m = true) (h : ∀ w0, Tri w0 m [(0, a), (1, b), (2, d)] A I (Code.wp P c (Ends P fn w0 R))) : FnC P f [a, b, d].toArray A I R := fn_enter (args := [a, b, d]) hf hb hn hle h
theorem fn_enter4 {a b d e : Value} (hle : Nat.ble 4 m = true) (h : ∀ w0, Tri w0 m [(0, a), (1, b), (2, d), (3, e)] A I (Code.wp P c (Ends P fn w0 R))) : FnC P f [a, b, d, e].toArray A I R := fn_enter (args := [a, b, d, e]) hf hb hn hle h
end
end
end Go.GL


set_option linter.unusedSimpArgs false
namespace Go.GL

/-- What is known of a type. -/
class TyI (P : Program) (t : TypeId) (d : outParam TypeDesc) (s b : outParam Nat) (z : outParam (List Value)) : Prop where
 und : P.underlying t = some d
 inf : ∃ v, (P.info? t).map (fun i => (i.size, i.bytes, i.zero)) = some (s, b, some v) ∧ v.cells.toList = z
 zl : z.length = s
/-- What is known of a field. -/
class FldI (P : Program) (t : TypeId) (i : Nat) (off ft : outParam Nat) : Prop where
 h : ∃ fs f, P.underlying t = some (.struct fs) ∧ fs[i]? = some f ∧ f.offset = off ∧ f.type = ft
/-- What is known of a function. -/
class FnI (P : Program) (f : FuncId) : Prop where
 fn : ∃ fn, P.funcs[f]? = some fn ∧ (fn.name == "runtime.NumGoroutine") = false ∧ fn.body.isNone = false

section
variable {P : Program} {t : TypeId} {d : TypeDesc} {s b : Nat} {z : List Value}
theorem TyI.info [h : TyI P t d s b z] : ∃ i v, P.info? t = some i ∧ i.size = s ∧ i.bytes = b ∧ i.zero = some v ∧ v.cells.toList = z := by
 obtain ⟨v, this, hv⟩ := h.inf
 cases hi : P.info? t with
 | none => simp [hi] at this
 | some i => exact ⟨i, v, rfl, by simp [hi] at this; exact this.1, by simp [hi] at this; exact this.2.1, by simp [hi] at this; exact this.2.2, hv⟩
theorem run_und [h : TyI P t d s b z] (w : World) : (underlying t).run P w = .ok d w := run_underlying h.und w
theorem run_tyinfo [h : TyI P t d s b z] (w : World) : ∃ i v, (typeInfo t).run P w = .ok i w ∧ i.size = s ∧ i.bytes = b ∧ i.zero = some v ∧ v.cells.toList = z := by
 obtain ⟨i, v, h1, h2⟩ := h.info
 exact ⟨i, v, by simp [typeInfo, h1], h2⟩
theorem run_size [h : TyI P t d s b z] (w : World) : (sizeOf t).run P w = .ok s w := by
 obtain ⟨i, v, h1, h2, _⟩ := run_tyinfo (P := P) (t := t) w
 simp [sizeOf, h1, h2]
theorem run_bytes [h : TyI P t d s b z] (w : World) : ∃ i, (typeInfo t).run P w = .ok i w ∧ i.bytes = b := by
 obtain ⟨i, v, h1, h2, h3, _⟩ := run_tyinfo (P := P) (t := t) w
 exact ⟨i, h1, h3⟩
theorem run_zero [h : TyI P t d s b z] (w : World) : ∃ v, (zeroValue t).run P w = .ok v w ∧ v.cells.toList = z := by
 obtain ⟨i, v, h1, h2, h3, h4, h5⟩ := run_tyinfo (P := P) (t := t) w
 exact ⟨v, by simp [zeroValue, h1, h4], h5⟩
/-- Is it a struct or an array? -/
def isA : TypeDesc → Bool | .struct _ | .array _ _ => true | _ => false
theorem run_isA [h : TyI P t d s b z] (w : World) : (isAgg t).run P w = .ok (isA d) w := by
 unfold isAgg
 rw [Sem.run_bind, run_und w]
 cases d <;> rfl
end

theorem beqd (a b : Int) : (a == b) = decide (a = b) := by rw [Bool.eq_iff_iff]; simp
def putF : Option Tmp → Value → Frm → Frm
 | some d, v, F => (d, v) :: F
 | none, _, F => F
/-- The slot that is written is one. -/
def dOk (n : Nat) (o : Oper) : Bool := match o.dst with | some d => Nat.blt d n | none => true
theorem Fr.putF {t : Array Value} {n : Nat} {F : Frm} (h : Fr t n F) {o : Oper} (hd : dOk n o = true) (v : Value) : Fr (Act.put ⟨t, []⟩ o.dst v).tmps n (putF o.dst v F) := by
 unfold dOk at hd
 cases ho : o.dst with
 | none => exact h
 | some d => rw [ho] at hd; exact h.put d (Nat.le_of_ble_eq_true hd) v
theorem act_put (t : Array Value) (dst : Option Tmp) (v : Value) : Act.put ⟨t, []⟩ dst v = ⟨(Act.put ⟨t, []⟩ dst v).tmps, []⟩ := by cases dst <;> rfl

section
variable (P : Program) (w0 : World) (n : Nat)
/-- The operation tells v and turns nothing. -/
def OpV (o : Oper) (F : Frm) (A : List Asrt) (I : List Chunk) (v : Value) : Prop :=
 ∀ t w, Fr t n F → St w0 w A I → (execOp (Act.eval ⟨t, []⟩) o).run P w = .ok (.value v) w
/-- What the operation does. -/
def OpG (o : Oper) (F : Frm) (A : List Asrt) (I : List Chunk) (G : Value → List Asrt → List Chunk → Prop) : Prop :=
 ∀ t w (K : Act → World → Prop) (Q : Exit → Act → World → Prop), Fr t n F → St w0 w A I →
  (∀ w' v A' I', G v A' I' → St w0 w' A' I' → K (Act.put ⟨t, []⟩ o.dst v) w') → o.wp P ⟨t, []⟩ w K Q
end

section
variable {w0 : World} {n : Nat} {F : Frm} {A : List Asrt} {I : List Chunk} {P : Program} {Q : Exit → Act → World → Prop}
variable {ops : Array Oper} {rest : List Oper} {d : Nat} {dst : Option Tmp} {ty : TypeId} {pos : String} {af : Array Edge} {gd : Option (Nat × Bool)} {o : Oper}

theorem OpV.toG {v : Value} (h : OpV P w0 n o F A I v) : OpG P w0 n o F A I (fun v' A' I' => v' = v ∧ A = A' ∧ I = I') := by
 intro t w K Q hf hs hk
 unfold Oper.wp
 rw [h t w hf hs, Oper.upon_value]
 exact hk w v A I ⟨rfl, rfl, rfl⟩ hs
theorem OpG.mono {G G' : Value → List Asrt → List Chunk → Prop} (h : OpG P w0 n o F A I G) (hg : ∀ v A' I', G v A' I' → G' v A' I') : OpG P w0 n o F A I G' :=
 fun t w K Q hf hs hk => h t w K Q hf hs fun w' v A' I' hG hs' => hk w' v A' I' (hg _ _ _ hG) hs'
/-- By the run alone. -/
theorem opg_run {G : Value → List Asrt → List Chunk → Prop}
  (hrun : ∀ t w, Fr t n F → St w0 w A I → ∃ v w' A' I', (execOp (Act.eval ⟨t, []⟩) o).run P w = .ok (.value v) w' ∧ G v A' I' ∧ St w0 w' A' I') : OpG P w0 n o F A I G := by
 intro t w K Q hf hs hk
 obtain ⟨v, w', A', I', hr, hG, hs'⟩ := hrun t w hf hs
 unfold Oper.wp
 rw [hr, Oper.upon_value]
 exact hk w' v A' I' hG hs'
theorem opg_unit {G : Value → List Asrt → List Chunk → Prop}
  (hrun : ∀ t w, Fr t n F → St w0 w A I → ∃ w' A' I', (execOp (Act.eval ⟨t, []⟩) o).run P w = .ok .skip w' ∧ G undef A' I' ∧ St w0 w' A' I') : OpG P w0 n o F A I G := by
 intro t w K Q hf hs hk
 obtain ⟨w', A', I', hr, hG, hs'⟩ := hrun t w hf hs
 unfold Oper.wp
 rw [hr, Oper.upon_skip]
 exact hk w' undef A' I' hG hs'

/-! ### In a region of fixed order -/
theorem tri_v {op : Op} {v : Value} (hop : OpV P w0 n ⟨some d, op, ty, pos, af, none⟩ F A I v) (hn : Nat.blt d n = true) (k : Tri w0 n ((d, v) :: F) A I (wpList P ops Q rest)) : Tri w0 n F A I (wpList P ops Q (⟨some d, op, ty, pos, af, none⟩ :: rest)) := by
 intro t w hf hs
 refine wpList_plain rfl fun K hK => ?_
 unfold Oper.wp
 rw [hop t w hf hs, Oper.upon_value]
 exact hK _ _ (k _ _ (hf.put d (Nat.le_of_ble_eq_true hn) v) hs)
theorem tri_g {G : Value → List Asrt → List Chunk → Prop} {op : Op} (hop : OpG P w0 n ⟨dst, op, ty, pos, af, none⟩ F A I G) (hn : dOk n ⟨dst, op, ty, pos, af, none⟩ = true)
  (k : ∀ v A' I', G v A' I' → Tri w0 n (putF dst v F) A' I' (wpList P ops Q rest)) : Tri w0 n F A I (wpList P ops Q (⟨dst, op, ty, pos, af, none⟩ :: rest)) := by
 intro t w hf hs
 refine wpList_plain rfl fun K hK => ?_
 refine hop t w K Q hf hs fun w' v A' I' hG hs' => ?_
 rw [act_put]
 exact hK _ _ (k v A' I' hG _ _ (hf.putF (o := ⟨dst, op, ty, pos, af, none⟩) hn v) hs')

/-! #### guards -/
theorem yielded_of {t : Array Value} (hf : Fr t n F) {j dj : Nat} {b : Bool} (hj : (ops[j]?).bind (·.dst) = some dj) (hv : look F dj = some (.bool b)) : yielded ops t j = some b := by
 unfold yielded
 rw [hj, Option.bind_some, hf.get dj _ hv]
theorem tri_guard_run {op : Op} {j dj : Nat} {b c : Bool} (hj : (ops[j]?).bind (·.dst) = some dj) (hv : look F dj = some (.bool b)) (hbc : (b == c) = true)
  (k : Tri w0 n F A I (wpList P ops Q (⟨dst, op, ty, pos, af, none⟩ :: rest))) : Tri w0 n F A I (wpList P ops Q (⟨dst, op, ty, pos, af, some (j, c)⟩ :: rest)) := by
 intro t w hf hs
 have hy := yielded_of (ops := ops) hf hj hv
 have hbc' : b = c := by simpa using hbc
 subst hbc'
 have := k t w hf hs
 unfold wpList at this ⊢
 rw [if_pos (by simp [Region.wanted])] at this
 rw [if_pos (by simp [Region.wanted, hy])]
 exact this
theorem tri_guard_skip {op : Op} {j dj : Nat} {b c : Bool} (hj : (ops[j]?).bind (·.dst) = some dj) (hv : look F dj = some (.bool b)) (hbc : (b == c) = false) (hn : dOk n ⟨dst, op, ty, pos, af, none⟩ = true)
  (k : Tri w0 n (putF dst undef F) A I (wpList P ops Q rest)) : Tri w0 n F A I (wpList P ops Q (⟨dst, op, ty, pos, af, some (j, c)⟩ :: rest)) := by
 intro t w hf hs
 have hy := yielded_of (ops := ops) hf hj hv
 unfold wpList
 rw [if_neg (by simp [Region.wanted, hy]; simpa using hbc), act_put]
 exact k _ _ (hf.putF (o := ⟨dst, op, ty, pos, af, none⟩) hn undef) hs
/-- A slot's bool is decided. -/
theorem fr_bool {t : Array Value} (hfr : Fr t n F) {dj : Nat} {b : Bool} (hv : look F dj = some (.bool b)) : Fr t n ((dj, .bool b) :: F) := by
 refine ⟨hfr.size, fun k v hk => ?_⟩
 simp only [look] at hk
 by_cases e : dj = k
 ·subst e
  simp only [Nat.beq_refl, cond_true, Option.some.injEq] at hk
  exact hfr.get _ _ (hk ▸ hv)
 ·rw [nbeq_false e, cond_false] at hk
  exact hfr.get _ _ hk
theorem tri_bool {K : Act → World → Prop} (dj : Nat) {b : Bool} (hv : look F dj = some (.bool b)) (ht : b = true → Tri w0 n ((dj, .bool true) :: F) A I K) (hf : b = false → Tri w0 n ((dj, .bool false) :: F) A I K) : Tri w0 n F A I K := by
 intro t w hfr hs
 have key := fr_bool hfr hv
 cases b
 ·exact hf rfl t w key hs
 ·exact ht rfl t w key hs
theorem tri_bool_dec {K : Act → World → Prop} (dj : Nat) {p : Prop} [Decidable p] (hv : look F dj = some (.bool (decide p))) (ht : p → Tri w0 n ((dj, .bool true) :: F) A I K) (hf : ¬ p → Tri w0 n ((dj, .bool false) :: F) A I K) : Tri w0 n F A I K :=
 tri_bool dj hv (fun h => ht (of_decide_eq_true h)) (fun h => hf (of_decide_eq_false h))

/-! ### Plain operations -/
theorem opv_move {x : Operand} {v : Value} (hx : ev F x = some v) : OpV P w0 n ⟨dst, .move x, ty, pos, af, gd⟩ F A I v := fun t w hf hs => by simp [execOp, hf.eval hx]
theorem opv_assign {x : Operand} {v : Value} (hx : ev F x = some v) : OpV P w0 n ⟨dst, .assign x, ty, pos, af, gd⟩ F A I v := fun t w hf hs => by simp [execOp, hf.eval hx]
theorem opv_pick_t {c x y : Operand} {v : Value} (hc : ev F c = some (.bool true)) (hx : ev F x = some v) : OpV P w0 n ⟨dst, .pick c x y, ty, pos, af, gd⟩ F A I v := fun t w hf hs => by simp [execOp, hf.eval hx, hf.eval hc, asBool]
theorem opv_pick_f {c x y : Operand} {v : Value} (hc : ev F c = some (.bool false)) (hy : ev F y = some v) : OpV P w0 n ⟨dst, .pick c x y, ty, pos, af, gd⟩ F A I v := fun t w hf hs => by simp [execOp, hf.eval hy, hf.eval hc, asBool]
theorem opv_pick {c x y : Operand} {b : Bool} {v u : Value} (hc : ev F c = some (.bool b)) (hx : ev F x = some v) (hy : ev F y = some u) : OpV P w0 n ⟨dst, .pick c x y, ty, pos, af, gd⟩ F A I (bif b then v else u) :=
 fun t w hf hs => by cases b <;> simp [execOp, hf.eval hx, hf.eval hy, hf.eval hc, asBool]
/-- A bool that is told in whatever case. -/
theorem opv_pick_bool {c x y : Operand} {b p q : Bool} (hc : ev F c = some (.bool b)) (hx : ev F x = some (.bool p)) (hy : ev F y = some (.bool q)) : OpV P w0 n ⟨dst, .pick c x y, ty, pos, af, gd⟩ F A I (.bool (bif b then p else q)) :=
 fun t w hf hs => by cases b <;> simp [execOp, hf.eval hx, hf.eval hy, hf.eval hc, asBool]
section ints
variable {x y : Operand} {kd : IntKind} {a b z : Int} {xt yt : TypeId}
theorem opv_add (hx : ev F x = some (.int kd a)) (hy : ev F y = some (.int kd b)) (hz : kd.wrap (a + b) = z) : OpV P w0 n ⟨dst, .binOp .add xt x y yt, ty, pos, af, gd⟩ F A I (.int kd z) :=
 fun t w hf hs => by simp [execOp, hf.eval hx, hf.eval hy, eqGuard_add, binOp_add, Op.intArith, hz]
theorem opv_sub (hx : ev F x = some (.int kd a)) (hy : ev F y = some (.int kd b)) (hz : kd.wrap (a - b) = z) : OpV P w0 n ⟨dst, .binOp .sub xt x y yt, ty, pos, af, gd⟩ F A I (.int kd z) :=
 fun t w hf hs => by simp [execOp, hf.eval hx, hf.eval hy, eqGuard_sub, binOp_sub, Op.intArith, hz]
theorem opv_mul (hx : ev F x = some (.int kd a)) (hy : ev F y = some (.int kd b)) (hz : kd.wrap (a * b) = z) : OpV P w0 n ⟨dst, .binOp .mul xt x y yt, ty, pos, af, gd⟩ F A I (.int kd z) :=
 fun t w hf hs => by simp [execOp, hf.eval hx, hf.eval hy, eqGuard_mul, binOp_mul, Op.intArith, hz]
theorem opv_quo (hx : ev F x = some (.int kd a)) (hy : ev F y = some (.int kd b)) (hb : b ≠ 0) (hz : kd.wrap (a.tdiv b) = z) : OpV P w0 n ⟨dst, .binOp .quo xt x y yt, ty, pos, af, gd⟩ F A I (.int kd z) :=
 fun t w hf hs => by simp [execOp, hf.eval hx, hf.eval hy, eqGuard_quo, binOp_quo, Op.intDiv, hb, hz]
theorem opv_rem (hx : ev F x = some (.int kd a)) (hy : ev F y = some (.int kd b)) (hb : b ≠ 0) (hz : a.tmod b = z) : OpV P w0 n ⟨dst, .binOp .rem xt x y yt, ty, pos, af, gd⟩ F A I (.int kd z) :=
 fun t w hf hs => by simp [execOp, hf.eval hx, hf.eval hy, eqGuard_rem, binOp_rem, Op.intDiv, hb, hz]
theorem opv_eql (hx : ev F x = some (.int kd a)) (hy : ev F y = some (.int kd b)) : OpV P w0 n ⟨dst, .binOp .eql xt x y yt, ty, pos, af, gd⟩ F A I (.bool (decide (a = b))) :=
 fun t w hf hs => by simp [execOp, hf.eval hx, hf.eval hy, eqGuard_at_int, binOp_eql, beqd]
theorem opv_neq (hx : ev F x = some (.int kd a)) (hy : ev F y = some (.int kd b)) : OpV P w0 n ⟨dst, .binOp .neq xt x y yt, ty, pos, af, gd⟩ F A I (.bool (decide (a ≠ b))) :=
 fun t w hf hs => by simp [execOp, hf.eval hx, hf.eval hy, eqGuard_at_int, binOp_neq, bne, beqd]
theorem opv_lss (hx : ev F x = some (.int kd a)) (hy : ev F y = some (.int kd b)) : OpV P w0 n ⟨dst, .binOp .lss xt x y yt, ty, pos, af, gd⟩ F A I (.bool (decide (a < b))) :=
 fun t w hf hs => by simp [execOp, hf.eval hx, hf.eval hy, eqGuard_at_int, binOp_lss]
theorem opv_leq (hx : ev F x = some (.int kd a)) (hy : ev F y = some (.int kd b)) : OpV P w0 n ⟨dst, .binOp .leq xt x y yt, ty, pos, af, gd⟩ F A I (.bool (decide (a ≤ b))) :=
 fun t w hf hs => by simp [execOp, hf.eval hx, hf.eval hy, eqGuard_at_int, binOp_leq]
theorem opv_gtr (hx : ev F x = some (.int kd a)) (hy : ev F y = some (.int kd b)) : OpV P w0 n ⟨dst, .binOp .gtr xt x y yt, ty, pos, af, gd⟩ F A I (.bool (decide (b < a))) :=
 fun t w hf hs => by simp [execOp, hf.eval hx, hf.eval hy, eqGuard_at_int, binOp_gtr]
theorem opv_geq (hx : ev F x = some (.int kd a)) (hy : ev F y = some (.int kd b)) : OpV P w0 n ⟨dst, .binOp .geq xt x y yt, ty, pos, af, gd⟩ F A I (.bool (decide (b ≤ a))) :=
 fun t w hf hs => by simp [execOp, hf.eval hx, hf.eval hy, eqGuard_at_int, binOp_geq]
theorem opv_neg (hx : ev F x = some (.int kd a)) (hz : kd.wrap (0 - a) = z) : OpV P w0 n ⟨dst, .unOp .neg xt x, ty, pos, af, gd⟩ F A I (.int kd z) :=
 fun t w hf hs => by simp only [execOp, hf.eval hx, Op.unary, Op.intArith, hz, Sem.run_bind, Sem.run_pure, Result.andThen_ok]
theorem opv_shl {yk : IntKind} (hx : ev F x = some (.int kd a)) (hy : ev F y = some (.int yk b)) (hb : 0 ≤ b) (hz : kd.wrap (a * 2 ^ (min b.toNat kd.bits)) = z) : OpV P w0 n ⟨dst, .binOp .shl xt x y yt, ty, pos, af, gd⟩ F A I (.int kd z) :=
 fun t w hf hs => by
  have hb' : ¬ b < 0 := by omega
  simp [execOp, hf.eval hx, hf.eval hy, eqGuard_shl, binOp_shl, Op.shift, hb', hz]
theorem opv_min2 {ci : Array TypeId} (hx : ev F x = some (.int kd a)) (hy : ev F y = some (.int kd b)) : OpV P w0 n ⟨dst, .call ⟨.builtin .min, #[x, y], ci⟩, ty, pos, af, gd⟩ F A I (.int kd (if b < a then b else a)) :=
 fun t w hf hs => by simp [execOp, resolve, invoke, builtin, hf.eval hx, hf.eval hy, Builtin.min_, Builtin.min2]
end ints
theorem opv_not {x : Operand} {b : Bool} {xt : TypeId} (hx : ev F x = some (.bool b)) : OpV P w0 n ⟨dst, .unOp .not xt x, ty, pos, af, gd⟩ F A I (.bool (!b)) := fun t w hf hs => by simp [execOp, hf.eval hx, Op.unary]
theorem opv_extract {x : Operand} {vs : List Value} {i : Nat} {v : Value} (hx : ev F x = some (.tuple vs.toArray)) (hi : vs[i]? = some v) : OpV P w0 n ⟨dst, .extract x i, ty, pos, af, gd⟩ F A I v := fun t w hf hs => by simp [execOp, hf.eval hx, Instr.extract, hi]
theorem opv_nilCheck {x : Operand} {a : Addr} (hx : ev F x = some (.pointer (some a))) : OpV P w0 n ⟨dst, .nilCheck x, ty, pos, af, gd⟩ F A I (.pointer (some a)) := fun t w hf hs => by simp [execOp, hf.eval hx]

/-! ### Calls -/
theorem evs {t : Array Value} (hf : Fr t n F) : ∀ {xs : List Operand} {vs : List Value}, xs.map (ev F) = vs.map some → xs.toArray.map (Act.eval ⟨t, []⟩) = vs.toArray := by
 intro xs
 induction xs with
 | nil => intro vs h; cases vs <;> simp_all
 | cons x xs ih =>
  intro vs h
  cases vs with
  | nil => simp at h
  | cons v vs =>
   simp only [List.map_cons, List.cons.injEq] at h
   have := ih h.2
   simp only [List.map_toArray, List.map_cons, hf.eval h.1] at this ⊢
   have := congrArg Array.toList this
   simp at this
   simp [this]
theorem opg_call {f : FuncId} {xs : List Operand} {vs : List Value} {ats : Array TypeId} {R : Value → List Asrt → List Chunk → Prop} [hfi : FnI P f] (hxs : xs.map (ev F) = vs.map some) (hc : FnC P f vs.toArray A I R) :
  OpG P w0 n ⟨dst, .call ⟨.value (.func f), xs.toArray, ats⟩, ty, pos, af, gd⟩ F A I R := by
 intro t w K Q hf hs hk
 obtain ⟨fn, h1, h2, h3⟩ := hfi.fn
 have hrun : (execOp (Act.eval ⟨t, []⟩) ⟨dst, .call ⟨.value (.func f), xs.toArray, ats⟩, ty, pos, af, gd⟩).run P w = .ok (.enter f vs.toArray) w := by
  simp only [execOp, resolve, Act.eval, Deferred.ofValue, evs hf hxs, Sem.run_bind, Sem.run_pure, Result.andThen_ok, invoke, callFunc, run_program, h1, h2, h3, Array.append_empty, Array.empty_append]
  rfl
 unfold Oper.wp
 rw [hrun, Oper.upon_enter]
 refine (hc w0 w hs).mono ?_
 rintro e w' ⟨v, A', I', rfl, hR, hs'⟩
 exact hk w' v A' I' hR hs'
/-- A call of a function value. -/
theorem opg_callv {f : FuncId} {x : Operand} {fi ca : List Value} {xs : List Operand} {vs : List Value} {ats : Array TypeId} {R : Value → List Asrt → List Chunk → Prop} [hfi : FnI P f] (hx : ev F x = some (.func (.func f) fi.toArray ca.toArray)) (hxs : xs.map (ev F) = vs.map some) (hc : FnC P f (fi ++ vs ++ ca).toArray A I R) :
  OpG P w0 n ⟨dst, .call ⟨.value x, xs.toArray, ats⟩, ty, pos, af, gd⟩ F A I R := by
 intro t w K Q hf hs hk
 obtain ⟨fn, h1, h2, h3⟩ := hfi.fn
 have hrun : (execOp (Act.eval ⟨t, []⟩) ⟨dst, .call ⟨.value x, xs.toArray, ats⟩, ty, pos, af, gd⟩).run P w = .ok (.enter f (fi ++ vs ++ ca).toArray) w := by
  have hl : fi.toArray ++ vs.toArray ++ ca.toArray = (fi ++ vs ++ ca).toArray := by simp
  simp only [execOp, resolve, hf.eval hx, Deferred.ofValue, evs hf hxs, Sem.run_bind, Sem.run_pure, Result.andThen_ok, invoke, callFunc, run_program, h1, h2, h3, hl]
  rfl
 unfold Oper.wp
 rw [hrun, Oper.upon_enter]
 refine (hc w0 w hs).mono ?_
 rintro e w' ⟨v, A', I', rfl, hR, hs'⟩
 exact hk w' v A' I' hR hs'

/-! ### A region that draws its order -/
/-- A panic looks at no slot. -/
class QP (Q : Exit → Act → World → Prop) : Prop where
 h : ∀ c (a a' : Act) w, a.defers = a'.defers → Q (.panic c) a w → Q (.panic c) a' w
instance qp_ends {fn : Func} {R : Value → List Asrt → List Chunk → Prop} : QP (Ends P fn w0 R) := ⟨by
 intro c a a' w h hq
 exact ⟨h ▸ hq.1, hq.2⟩⟩
instance qp_then {K : Act → World → Prop} [h : QP Q] : QP (Exit.then K Q) := ⟨h.h⟩
instance qp_cut {C : Frm → List Asrt → List Chunk → Prop} [h : QP Q] : QP (cutQ w0 n C Q) := ⟨h.h⟩
instance qp_inBlock {id : Nat} [h : QP Q] : QP (Exit.inBlock id Q) := ⟨h.h⟩
/-- What lies at the end of what is held. -/
class Suf (A B : List Asrt) : Prop where
 h : ∃ Am, A = Am ++ B
instance (priority := high) sufRefl {B : List Asrt} : Suf B B := ⟨[], rfl⟩
instance (priority := low) sufCons {a : Asrt} {A B : List Asrt} [h : Suf A B] : Suf (a :: A) B := ⟨let ⟨Am, e⟩ := h.h; ⟨a :: Am, by rw [e]; rfl⟩⟩

/-- In the middle of a region: 'ord' says what is to be taken next (no more than a remark). -/
def TriH (P : Program) (w0 : World) (n : Nat) (ops : Array Oper) (Q : Exit → Act → World → Prop) (B : List Asrt) (J : List Chunk) (ord : List Nat) (listed : Array Bool) (F : Frm) (A : List Asrt) (I : List Chunk) : Prop :=
 ∀ t w, Fr t n F → St w0 w A I → St w0 w B J → wpAnyH P .any ops Q (fun w => St w0 w B J) ord.length listed ⟨t, []⟩ w

theorem St.suffix {w : World} {Am B : List Asrt} (h : St w0 w (Am ++ B) I) : St w0 w B I := by
 induction Am with
 | nil => exact h
 | cons a Am ih => exact ih h.drop
theorem Wd.sub {w : World} {cs I J : List Chunk} (h : Wd w0 w (cs ++ I)) (hs : J ⊆ I) (hn : (J.map (·.1)).Nodup) : Wd w0 w (cs ++ J) := by
 refine ⟨h.os, h.tape, h.output, h.size, ?_, ?_, h.dr⟩
 ·have hnd := h.nd
  rw [List.map_append, List.nodup_append] at hnd ⊢
  refine ⟨hnd.1, hn, fun a ha b hb => hnd.2.2 a ha b ?_⟩
  obtain ⟨c, hc, rfl⟩ := List.mem_map.1 hb
  exact List.mem_map.2 ⟨c, hs hc, rfl⟩
 ·intro c hc
  rcases List.mem_append.1 hc with hc | hc
  ·exact h.has c (by simp [hc])
  ·exact h.has c (by simp [hs hc])
theorem St.sub {w : World} {J : List Chunk} (h : St w0 w A I) (hs : J ⊆ I) (hn : (J.map (·.1)).Nodup) : St w0 w A J :=
 let ⟨cs, h1, h2⟩ := h; ⟨cs, h1, h2.sub hs hn⟩
theorem St.nodupI {w : World} (h : St w0 w A I) : (I.map (·.1)).Nodup := by
 obtain ⟨cs, _, hw⟩ := h
 have := hw.nd
 rw [List.map_append, List.nodup_append] at this
 exact this.2.1

theorem tri_draw {id : Nat} {l : List Oper} (ord : List Nat) (hl : ord.length = l.length) (Am : List Asrt) {B : List Asrt} (hA : A = Am ++ B) (hm : P.follows .mixedOrders = true)
  (h : TriH P w0 n l.toArray Q B I ord (List.replicate l.length false).toArray F A I) : Tri w0 n F A I (Code.wp P (.region id l.toArray true) Q) := by
 subst hA
 intro t w hf hs
 refine wp_region_held (S := fun w => St w0 w B I) hm ?_
 have := h t _ hf (hs.drawn (w.drawn + 1) (Nat.le_succ _)) (hs.drawn (w.drawn + 1) (Nat.le_succ _)).suffix
 rw [hl] at this
 simpa using this

theorem th_take {B : List Asrt} {J : List Chunk} {i : Nat} {ord : List Nat} {listed : Array Bool} {op : Op} {v : Value} (ho : ops[i]? = some ⟨some d, op, ty, pos, af, none⟩) (hn : Nat.blt d n = true)
  (hfree : (Region.noSelect ops && Region.free .any ops listed i && (Region.ready .any ops listed).contains i) = true) [hQ : QP Q]
  (hop : OpV P w0 n ⟨some d, op, ty, pos, af, none⟩ F B J v) (k : TriH P w0 n ops Q B J ord (listed.setIfInBounds i true) ((d, v) :: F) A I) : TriH P w0 n ops Q B J (i :: ord) listed F A I := by
 simp only [Bool.and_eq_true] at hfree
 intro t w hf hs hS
 refine wpAnyH_take (v := v) ho hfree.1.1 hfree.1.2 hfree.2 (fun c a w h => hQ.h c _ _ w (by cases a; rfl) h) (.inl ⟨by simp [Region.wanted], fun w' hw' => hop t w' hf hw'⟩) hS ?_
 exact k _ _ (hf.put d (Nat.le_of_ble_eq_true hn) v) hs hS
theorem th_take_g {B : List Asrt} {J : List Chunk} {i j dj : Nat} {b c : Bool} {ord : List Nat} {listed : Array Bool} {op : Op} {v : Value} (ho : ops[i]? = some ⟨some d, op, ty, pos, af, some (j, c)⟩) (hn : Nat.blt d n = true)
  (hj : (ops[j]?).bind (·.dst) = some dj) (hv : look F dj = some (.bool b)) (hbc : (b == c) = true)
  (hfree : (Region.noSelect ops && Region.free .any ops listed i && (Region.ready .any ops listed).contains i) = true) [hQ : QP Q]
  (hop : OpV P w0 n ⟨some d, op, ty, pos, af, none⟩ F B J v) (k : TriH P w0 n ops Q B J ord (listed.setIfInBounds i true) ((d, v) :: F) A I) : TriH P w0 n ops Q B J (i :: ord) listed F A I := by
 simp only [Bool.and_eq_true] at hfree
 have hbc' : b = c := by simpa using hbc
 subst hbc'
 intro t w hf hs hS
 refine wpAnyH_take (v := v) ho hfree.1.1 hfree.1.2 hfree.2 (fun c a w h => hQ.h c _ _ w (by cases a; rfl) h) (.inl ⟨by simp [Region.wanted, yielded_of (ops := ops) hf hj hv], fun w' hw' => hop t w' hf hw'⟩) hS ?_
 exact k _ _ (hf.put d (Nat.le_of_ble_eq_true hn) v) hs hS
theorem th_skip {B : List Asrt} {J : List Chunk} {i j dj : Nat} {b c : Bool} {ord : List Nat} {listed : Array Bool} {op : Op} (ho : ops[i]? = some ⟨some d, op, ty, pos, af, some (j, c)⟩) (hn : Nat.blt d n = true)
  (hj : (ops[j]?).bind (·.dst) = some dj) (hv : look F dj = some (.bool b)) (hbc : (b == c) = false)
  (hfree : (Region.noSelect ops && Region.free .any ops listed i && (Region.ready .any ops listed).contains i) = true) [hQ : QP Q]
  (k : TriH P w0 n ops Q B J ord (listed.setIfInBounds i true) ((d, undef) :: F) A I) : TriH P w0 n ops Q B J (i :: ord) listed F A I := by
 simp only [Bool.and_eq_true] at hfree
 intro t w hf hs hS
 refine wpAnyH_take (v := undef) ho hfree.1.1 hfree.1.2 hfree.2 (fun c a w h => hQ.h c _ _ w (by cases a; rfl) h) (.inr ⟨by simp [Region.wanted, yielded_of (ops := ops) hf hj hv]; simpa using hbc, rfl⟩) hS ?_
 exact k _ _ (hf.put d (Nat.le_of_ble_eq_true hn) undef) hs hS
theorem th_bool {B : List Asrt} {J : List Chunk} {ord : List Nat} {listed : Array Bool} (dj : Nat) {b : Bool} (hv : look F dj = some (.bool b)) (ht : b = true → TriH P w0 n ops Q B J ord listed ((dj, .bool true) :: F) A I) (hf : b = false → TriH P w0 n ops Q B J ord listed ((dj, .bool false) :: F) A I) : TriH P w0 n ops Q B J ord listed F A I := by
 intro t w hfr hs hS
 have key := fr_bool hfr hv
 cases b
 ·exact hf rfl t w key hs hS
 ·exact ht rfl t w key hs hS
theorem th_bool_dec {B : List Asrt} {J : List Chunk} {ord : List Nat} {listed : Array Bool} (dj : Nat) {p : Prop} [Decidable p] (hv : look F dj = some (.bool (decide p))) (ht : p → TriH P w0 n ops Q B J ord listed ((dj, .bool true) :: F) A I) (hf : ¬ p → TriH P w0 n ops Q B J ord listed ((dj, .bool false) :: F) A I) : TriH P w0 n ops Q B J ord listed F A I :=
 th_bool dj hv (fun h => ht (of_decide_eq_true h)) (fun h => hf (of_decide_eq_false h))
def DbgH (F : Frm) (A B : List Asrt) (I J : List Chunk) : Prop := ∀ P w0 n ops Q ord listed, TriH P w0 n ops Q B J ord listed F A I
theorem th_split {B : List Asrt} {J : List Chunk} {i j dj : Nat} {c : Bool} {ord : List Nat} {listed : Array Bool} {op : Op} {p : Prop} [Decidable p] (ho : ops[i]? = some ⟨dst, op, ty, pos, af, some (j, c)⟩) (hj : (ops[j]?).bind (·.dst) = some dj) (hv : look F dj = some (.bool (decide p)))
  (ht : p → TriH P w0 n ops Q B J (i :: ord) listed ((dj, .bool true) :: F) A I) (hf : ¬ p → TriH P w0 n ops Q B J (i :: ord) listed ((dj, .bool false) :: F) A I) : TriH P w0 n ops Q B J (i :: ord) listed F A I :=
 th_bool_dec dj hv ht hf
theorem tri_split {op : Op} {j dj : Nat} {c : Bool} {p : Prop} [Decidable p] (hj : (ops[j]?).bind (·.dst) = some dj) (hv : look F dj = some (.bool (decide p)))
  (ht : p → Tri w0 n ((dj, .bool true) :: F) A I (wpList P ops Q (⟨dst, op, ty, pos, af, some (j, c)⟩ :: rest))) (hf : ¬ p → Tri w0 n ((dj, .bool false) :: F) A I (wpList P ops Q (⟨dst, op, ty, pos, af, some (j, c)⟩ :: rest))) : Tri w0 n F A I (wpList P ops Q (⟨dst, op, ty, pos, af, some (j, c)⟩ :: rest)) :=
 tri_bool_dec dj hv ht hf
theorem tri_true {op : Op} {j dj : Nat} {c : Bool} {p : Prop} [Decidable p] (hj : (ops[j]?).bind (·.dst) = some dj) (hv : look F dj = some (.bool (decide p))) (hp : p)
  (ht : Tri w0 n ((dj, .bool true) :: F) A I (wpList P ops Q (⟨dst, op, ty, pos, af, some (j, c)⟩ :: rest))) : Tri w0 n F A I (wpList P ops Q (⟨dst, op, ty, pos, af, some (j, c)⟩ :: rest)) :=
 tri_bool_dec dj hv (fun _ => ht) (fun h => absurd hp h)
theorem tri_false {op : Op} {j dj : Nat} {c : Bool} {p : Prop} [Decidable p] (hj : (ops[j]?).bind (·.dst) = some dj) (hv : look F dj = some (.bool (decide p))) (hp : ¬ p)
  (ht : Tri w0 n ((dj, .bool false) :: F) A I (wpList P ops Q (⟨dst, op, ty, pos, af, some (j, c)⟩ :: rest))) : Tri w0 n F A I (wpList P ops Q (⟨dst, op, ty, pos, af, some (j, c)⟩ :: rest)) :=
 tri_bool_dec dj hv (fun h => absurd h hp) (fun _ => ht)
theorem tri_cond_is {c : Operand} {x y : Code} {p : Prop} [Decidable p] (hc : ev F c = some (.bool (decide p))) (hp : p) (ht : Tri w0 n F A I (Code.wp P x Q)) : Tri w0 n F A I (Code.wp P (.cond c x y) Q) :=
 tri_cond_dec hc (fun _ => ht) (fun h => absurd hp h)
theorem tri_cond_not {c : Operand} {x y : Code} {p : Prop} [Decidable p] (hc : ev F c = some (.bool (decide p))) (hp : ¬ p) (hf : Tri w0 n F A I (Code.wp P y Q)) : Tri w0 n F A I (Code.wp P (.cond c x y) Q) :=
 tri_cond_dec hc (fun h => absurd h hp) (fun _ => hf)
theorem th_done {B : List Asrt} {J : List Chunk} {listed : Array Bool} (hr : Region.ready .any ops listed = []) (k : Tri w0 n F A I (Q .normal)) : TriH P w0 n ops Q B J [] listed F A I :=
 fun t w hf hs hS => wpAnyH_done hr (k t w hf hs) _
/-- One step that turns the world. -/
def Step (P : Program) (w0 : World) (n : Nat) (ops : Array Oper) (Q : Exit → Act → World → Prop) (B : List Asrt) (J : List Chunk) (i : Nat) (ord : List Nat) (listed : Array Bool) (F : Frm) (A : List Asrt) (I : List Chunk) : Prop :=
 ∀ t w, Fr t n F → St w0 w A I → St w0 w B J → wpOp P ops Q i (fun a' w' => St w0 w' B J ∧ wpAnyH P .any ops Q (fun w => St w0 w B J) ord.length (listed.setIfInBounds i true) a' w') ⟨t, []⟩ w
theorem step_m {B : List Asrt} {J : List Chunk} {i : Nat} {ord : List Nat} {listed : Array Bool} {op : Op} {G : Value → List Asrt → List Chunk → Prop} (ho : ops[i]? = some ⟨dst, op, ty, pos, af, none⟩) (hn : dOk n ⟨dst, op, ty, pos, af, none⟩ = true)
  (hop : OpG P w0 n ⟨dst, op, ty, pos, af, none⟩ F A I G) (k : ∀ v A' I', G v A' I' → (∃ Am, A' = Am ++ B) ∧ J ⊆ I' ∧ TriH P w0 n ops Q B J ord (listed.setIfInBounds i true) (putF dst v F) A' I') : Step P w0 n ops Q B J i ord listed F A I := by
 intro t w hf hs hS
 unfold wpOp
 simp only [ho]
 rw [if_pos (by simp [Region.wanted])]
 refine .inl (hop t w _ Q hf hs fun w' v A' I' hG hs' => ?_)
 obtain ⟨⟨Am, rfl⟩, hJ, hk⟩ := k v A' I' hG
 have hS' : St w0 w' B J := hs'.suffix.sub hJ hS.nodupI
 refine ⟨hS', ?_⟩
 rw [act_put]
 exact hk _ _ (hf.putF (o := ⟨dst, op, ty, pos, af, none⟩) hn v) hs' hS'
theorem step_mg {B : List Asrt} {J : List Chunk} {i j dj : Nat} {b c : Bool} {ord : List Nat} {listed : Array Bool} {op : Op} {G : Value → List Asrt → List Chunk → Prop} (ho : ops[i]? = some ⟨dst, op, ty, pos, af, some (j, c)⟩) (hn : dOk n ⟨dst, op, ty, pos, af, some (j, c)⟩ = true)
  (hj : (ops[j]?).bind (·.dst) = some dj) (hv : look F dj = some (.bool b)) (hbc : (b == c) = true)
  (hop : OpG P w0 n ⟨dst, op, ty, pos, af, some (j, c)⟩ F A I G) (k : ∀ v A' I', G v A' I' → (∃ Am, A' = Am ++ B) ∧ J ⊆ I' ∧ TriH P w0 n ops Q B J ord (listed.setIfInBounds i true) (putF dst v F) A' I') : Step P w0 n ops Q B J i ord listed F A I := by
 have hbc' : b = c := by simpa using hbc
 subst hbc'
 intro t w hf hs hS
 unfold wpOp
 simp only [ho]
 rw [if_pos (by simp [Region.wanted, yielded_of (ops := ops) hf hj hv])]
 refine .inl (hop t w _ Q hf hs fun w' v A' I' hG hs' => ?_)
 obtain ⟨⟨Am, rfl⟩, hJ, hk⟩ := k v A' I' hG
 have hS' : St w0 w' B J := hs'.suffix.sub hJ hS.nodupI
 refine ⟨hS', ?_⟩
 rw [act_put]
 exact hk _ _ (hf.putF (o := ⟨dst, op, ty, pos, af, some (j, b)⟩) hn v) hs' hS'
theorem step_skip {B : List Asrt} {J : List Chunk} {i j dj : Nat} {b c : Bool} {ord : List Nat} {listed : Array Bool} {op : Op} (ho : ops[i]? = some ⟨dst, op, ty, pos, af, some (j, c)⟩) (hn : dOk n ⟨dst, op, ty, pos, af, some (j, c)⟩ = true)
  (hj : (ops[j]?).bind (·.dst) = some dj) (hv : look F dj = some (.bool b)) (hbc : (b == c) = false)
  (k : TriH P w0 n ops Q B J ord (listed.setIfInBounds i true) (putF dst undef F) A I) : Step P w0 n ops Q B J i ord listed F A I := by
 intro t w hf hs hS
 unfold wpOp
 simp only [ho]
 rw [if_neg (by simp [Region.wanted, yielded_of (ops := ops) hf hj hv]; simpa using hbc)]
 refine ⟨hS, ?_⟩
 rw [act_put]
 exact k _ _ (hf.putF (o := ⟨dst, op, ty, pos, af, some (j, c)⟩) hn undef) hs hS
/-- One alone may come up next. -/
theorem th_one {B : List Asrt} {J : List Chunk} {i : Nat} {ord : List Nat} {listed : Array Bool} (hr : Region.ready .any ops listed = [i]) (h : Step P w0 n ops Q B J i ord listed F A I) : TriH P w0 n ops Q B J (i :: ord) listed F A I := by
 intro t w hf hs hS
 refine wpAnyH_all hr (by simp) fun j hj => ?_
 have : j = i := by simpa using hj
 subst this
 exact h t w hf hs hS
/-- One of two. -/
theorem th_two {B : List Asrt} {J : List Chunk} {i j : Nat} {ord : List Nat} (ord2 : List Nat) {listed : Array Bool} (hr : Region.ready .any ops listed = [i, j]) (hl : ord2.length = ord.length) (h : Step P w0 n ops Q B J i ord listed F A I) (h2 : Step P w0 n ops Q B J j ord2 listed F A I) : TriH P w0 n ops Q B J (i :: ord) listed F A I := by
 intro t w hf hs hS
 refine wpAnyH_all hr (by simp) fun k hk => ?_
 rcases List.mem_cons.1 hk with rfl | hk
 ·exact h t w hf hs hS
 ·have : k = j := by simpa using hk
  subst this
  have := h2 t w hf hs hS
  rw [hl] at this
  exact this
end
end Go.GL


set_option linter.unusedSimpArgs false
namespace Go.GL

/-! ### 1. Lists that are told whole -/
/-- n cells from off on. -/
def tk : List Value → Nat → Nat → Option (List Value)
 | _, 0, 0 => some []
 | c :: cs, 0, n + 1 => match tk cs 0 n with | some r => some (c :: r) | none => none
 | [], 0, _ + 1 => none
 | _ :: cs, k + 1, n => tk cs k n
 | [], _ + 1, _ => none
theorem tk_spec : ∀ {cs : List Value} {off n : Nat} {vs : List Value}, tk cs off n = some vs → vs.length = n ∧ ∀ j, j < n → cs[off + j]? = vs[j]?
 | cs, 0, 0, vs, h => by
  have : vs = [] := by cases cs <;> (simp [tk] at h; exact h)
  subst this; simp
 | c :: cs, 0, n + 1, vs, h => by
  simp only [tk] at h
  split at h
  ·rename_i r hr
   simp only [Option.some.injEq] at h
   subst h
   obtain ⟨h1, h2⟩ := tk_spec hr
   refine ⟨by simp [h1], fun j hj => ?_⟩
   cases j with
   | zero => simp
   | succ j => have := h2 j (by omega); simpa using this
  ·simp at h
 | [], 0, n + 1, vs, h => by simp [tk] at h
 | c :: cs, k + 1, n, vs, h => by
  have h' : tk cs k n = some vs := by cases n <;> simpa [tk] using h
  obtain ⟨h1, h2⟩ := tk_spec h'
  refine ⟨h1, fun j hj => ?_⟩
  have := h2 j hj
  rw [show k + 1 + j = (k + j) + 1 by omega]
  simpa using this
 | [], k + 1, n, vs, h => by cases n <;> simp [tk] at h
/-- The cells with others in their place from off on. -/
def ov : List Value → List Value → Option (List Value)
 | cs, [] => some cs
 | _ :: cs, v :: vs => match ov cs vs with | some r => some (v :: r) | none => none
 | [], _ :: _ => none
def spl : List Value → Nat → List Value → Option (List Value)
 | cs, 0, vs => ov cs vs
 | c :: cs, k + 1, vs => match spl cs k vs with | some r => some (c :: r) | none => none
 | [], _ + 1, _ => none
theorem ov_spec : ∀ {cs vs r : List Value}, ov cs vs = some r → vs.length ≤ cs.length ∧ r = vs ++ cs.drop vs.length
 | cs, [], r, h => by cases cs <;> simp_all [ov]
 | c :: cs, v :: vs, r, h => by
  simp only [ov] at h
  split at h
  ·rename_i r' hr
   obtain ⟨h1, h2⟩ := ov_spec hr
   simp only [Option.some.injEq] at h
   subst h
   exact ⟨by simp; omega, by simp [h2]⟩
  ·simp at h
 | [], v :: vs, r, h => by simp [ov] at h
theorem spl_spec : ∀ {cs vs r : List Value} {off : Nat}, spl cs off vs = some r → off + vs.length ≤ cs.length ∧ r = cs.take off ++ vs ++ cs.drop (off + vs.length)
 | cs, vs, r, 0, h => by
  have h' : ov cs vs = some r := by cases cs <;> simpa [spl] using h
  obtain ⟨h1, h2⟩ := ov_spec h'
  exact ⟨by omega, by simp [h2]⟩
 | c :: cs, vs, r, k + 1, h => by
  simp only [spl] at h
  split at h
  ·rename_i r' hr
   obtain ⟨h1, h2⟩ := spl_spec hr
   simp only [Option.some.injEq] at h
   subst h
   exact ⟨by simp; omega, by simp [h2, show k + 1 + vs.length = (k + vs.length) + 1 by omega]⟩
  ·simp at h
 | [], vs, r, k + 1, h => by simp [spl] at h

/-! ### 2. Runs over a block of cells -/
abbrev pt (b off : Nat) : Value := .pointer (some ⟨b, off, none⟩)
theorem add_pt (b off k : Nat) : (⟨b, off, none⟩ : Addr).add k = ⟨b, off + k, none⟩ := by unfold Addr.add; split <;> simp_all
section
variable {P : Program} {w : World} {b : Nat} {cs : Array Value} {T : TypeId} {fz : Nat × Nat}
theorem cell_at (h : w.heap[b]? = some (.cells cs T fz)) (j : Nat) : w.cell? ⟨b, j, none⟩ = cs[j]? := by simp [World.cell?, h]
theorem run_load_at (h : w.heap[b]? = some (.cells cs T fz)) {j : Nat} {v : Value} (hv : cs[j]? = some v) : (load ⟨b, j, none⟩).run P w = .ok v w := by
 rw [run_load, cell_at h, hv]
theorem run_loadCells_at (h : w.heap[b]? = some (.cells cs T fz)) {off : Nat} {vs : List Value} (hv : ∀ j, j < vs.length → cs[off + j]? = vs[j]?) : (loadCells ⟨b, off, none⟩ vs.length).run P w = .ok vs.toArray w := by
 refine run_loadCells_list w _ vs fun j v hj => ?_
 have hlt := (List.getElem?_eq_some_iff.1 hj).1
 rw [add_pt, cell_at h, hv j hlt, hj]
section
variable {t : TypeId} {d : TypeDesc} {s by_ : Nat} {z : List Value}
theorem run_loadVar1 [TyI P t d s by_ z] (hd : isA d = false) (h : w.heap[b]? = some (.cells cs T fz)) {j : Nat} {v : Value} (hv : cs[j]? = some v) : (loadVar t ⟨b, j, none⟩).run P w = .ok v w := by
 unfold loadVar
 rw [Sem.run_bind, run_isA w, hd, Result.andThen_ok]
 exact run_load_at h hv
theorem run_loadVarA [TyI P t d s by_ z] (hd : isA d = true) (h : w.heap[b]? = some (.cells cs T fz)) {off : Nat} {vs : List Value} (hl : vs.length = s) (hv : ∀ j, j < s → cs[off + j]? = vs[j]?) : (loadVar t ⟨b, off, none⟩).run P w = .ok (.agg vs.toArray) w := by
 unfold loadVar
 subst hl
 rw [Sem.run_bind, run_isA w, hd, Result.andThen_ok]
 simp [run_size (P := P) (t := t), run_loadCells_at h hv]
end
/-- Stores, one by one. -/
theorem run_storeCells_at' (off : Nat) : ∀ (vs : List Value) (i : Nat) (cs : Array Value) (w : World), w.heap[b]? = some (.cells cs T (0, 0)) → off + i + vs.length ≤ cs.size → (∀ v ∈ vs, v.oneCell' = true) →
  ∃ w', (storeCells ⟨b, off, none⟩ vs i).run P w = .ok () w' ∧ w'.os = w.os ∧ w'.tape = w.tape ∧ w'.output = w.output ∧ w'.drawn = w.drawn ∧ w'.heap.size = w.heap.size ∧ w'.heap[b]? = some (.cells (cs.toList.take (off + i) ++ vs ++ cs.toList.drop (off + i + vs.length)).toArray T (0, 0)) ∧ ∀ k, k ≠ b → w'.heap[k]? = w.heap[k]?
 | [], i, cs, w, h, _, _ => ⟨w, by simp [storeCells], rfl, rfl, rfl, rfl, rfl, by simpa using h, fun _ _ => rfl⟩
 | v :: vs, i, cs, w, h, hle, h1 => by
  simp only [List.length_cons] at hle
  have hlt : off + i < cs.size := by omega
  have hb : b < w.heap.size := (Array.getElem?_eq_some_iff.1 h).1
  have hcell : w.cell? ⟨b, off + i, none⟩ = some cs[off + i] := by rw [cell_at h]; simp [hlt]
  have hfz : w.frozen? ⟨b, off + i, none⟩ = false := by simp [World.frozen?, h]
  have hheap : (w.setCell ⟨b, off + i, none⟩ v).heap[b]? = some (.cells (cs.setIfInBounds (off + i) v) T (0, 0)) := by
   simp [World.setCell, Array.getElem?_modify, h]
  obtain ⟨w', hr, ho, ht, hout, hdr, hsz, hb', hne⟩ := run_storeCells_at' off vs (i + 1) (cs.setIfInBounds (off + i) v) (w.setCell ⟨b, off + i, none⟩ v) hheap (by simp; omega) (fun u hu => h1 u (by simp [hu]))
  refine ⟨w', ?_, ho, ht, hout, hdr, by rw [hsz]; simp, ?_, fun k hk => ?_⟩
  ·simp only [storeCells, Sem.run_bind, add_pt]
   rw [run_store _ _ _ _ _ (h1 v (by simp)), hcell]
   simp only [hfz, Bool.false_eq_true, if_false, Result.andThen_ok]
   exact hr
  ·rw [hb']
   congr 2
   apply congrArg List.toArray
   have hset : (cs.setIfInBounds (off + i) v).toList = cs.toList.take (off + i) ++ v :: cs.toList.drop (off + i + 1) := by
    rw [Array.toList_setIfInBounds, List.set_eq_take_append_cons_drop, if_pos (by simpa using hlt)]
   rw [hset, show off + (i + 1) = (off + i) + 1 by omega]
   have hl : (cs.toList.take (off + i)).length = off + i := by simp; omega
   rw [List.take_append, hl]
   simp only [show off + i + 1 - (off + i) = 1 by omega, List.take_succ_cons, List.take_zero, List.length_cons]
   rw [List.take_of_length_le (by omega)]
   simp only [List.append_assoc, List.cons_append, List.nil_append]
   congr 2
   rw [List.drop_append, hl, List.drop_of_length_le (by omega), List.nil_append, show off + i + 1 + vs.length - (off + i) = vs.length + 1 by omega, List.drop_succ_cons, List.drop_drop]
   congr 2
   omega
  ·rw [hne k hk, Below_heap_setCell' w _ v k hk]
 where
 Below_heap_setCell' (w : World) (a : Addr) (u : Value) (k : Nat) (h : k ≠ a.block) : (w.setCell a u).heap[k]? = w.heap[k]? := by
  simp only [World.setCell, Array.getElem?_modify]
  rw [if_neg (by omega)]
end

/-! ### 3. The laws on boxes -/
class Sel (A : List Asrt) (b : Nat) (cells : outParam (List Value)) (T : outParam TypeId) (upd : outParam (List Value → List Asrt)) : Prop where
 h : ∃ pre post, A = pre ++ Box b cells T :: post ∧ ∀ c', upd c' = pre ++ Box b c' T :: post
instance (priority := high) selHere {b : Nat} {c : List Value} {T : TypeId} {A : List Asrt} : Sel (Box b c T :: A) b c T (fun c' => Box b c' T :: A) := ⟨[], A, rfl, fun _ => rfl⟩
instance (priority := low) selThere {a : Asrt} {A : List Asrt} {b : Nat} {c : List Value} {T : TypeId} {u : List Value → List Asrt} [h : Sel A b c T u] : Sel (a :: A) b c T (fun c' => a :: u c') := by
 obtain ⟨pre, post, h1, h2⟩ := h.h
 exact ⟨a :: pre, post, by rw [h1]; rfl, fun c' => by rw [h2]; rfl⟩

section
variable {w0 : World} {n : Nat} {F : Frm} {A : List Asrt} {I : List Chunk} {P : Program}
variable {b : Nat} {cells : List Value} {T : TypeId} {u : List Value → List Asrt}
theorem Sel.at [h : Sel A b cells T u] {w : World} (hs : St w0 w A I) : w.heap[b]? = some (.cells cells.toArray T (0, 0)) := by
 obtain ⟨pre, post, h1, _⟩ := h.h
 have hp : A.Perm (Box b cells T :: (pre ++ post)) := by rw [h1]; exact List.perm_middle
 exact (hs.perm hp).at
theorem Sel.set [h : Sel A b cells T u] {w : World} (hs : St w0 w A I) (c' : List Value) (heap' : Array Obj) (hsz : heap'.size = w.heap.size) (hb : heap'[b]? = some (.cells c'.toArray T (0, 0))) (hne : ∀ k, k ≠ b → heap'[k]? = w.heap[k]?) :
  St w0 { w with heap := heap' } (u c') I := by
 obtain ⟨pre, post, h1, h2⟩ := h.h
 have hp : A.Perm (Box b cells T :: (pre ++ post)) := by rw [h1]; exact List.perm_middle
 have := (hs.perm hp).set (.cells c'.toArray T (0, 0)) heap' hsz hb hne
 rw [h2]
 exact this.perm (List.perm_middle (a := Box b c' T)).symm

variable {dst : Option Tmp} {ty : TypeId} {pos : String} {af : Array Edge} {gd : Option (Nat × Bool)}
variable {t e : TypeId} {d d' : TypeDesc} {s by_ s' by' : Nat} {z z' : List Value} {x y ix : Operand}

theorem opg_alloc [TyI P t d s by_ z] : OpG P w0 n ⟨dst, .alloc t, ty, pos, af, gd⟩ F A I (fun v A' I' => ∃ b, v = pt b 0 ∧ A' = Box b z t :: A ∧ I = I') := by
 refine opg_run fun tt w hf hs => ?_
 obtain ⟨v, hz, hzc⟩ := run_zero (P := P) (t := t) w
 refine ⟨pt w.heap.size 0, w.alloc (.cells v.cells t), Box w.heap.size z t :: A, I, ?_, ⟨_, rfl, rfl, rfl⟩, ?_⟩
 ·simp [execOp, Instr.alloc, hz, newVar, newRow, pt]
 ·have := hs.alloc (.cells v.cells t)
  subst hzc
  exact this
theorem opg_box_agg {vs : List Value} (hx : ev F x = some (.agg vs.toArray)) : OpG P w0 n ⟨dst, .box t x, ty, pos, af, gd⟩ F A I (fun v A' I' => ∃ b, v = pt b 0 ∧ A' = Box b vs t :: A ∧ I = I') := by
 refine opg_run fun tt w hf hs => ⟨pt w.heap.size 0, w.alloc (.cells vs.toArray t), Box w.heap.size vs t :: A, I, ?_, ⟨_, rfl, rfl, rfl⟩, hs.alloc _⟩
 simp [execOp, Instr.box, hf.eval hx, newVar, newRow, pt, Value.cells]
theorem opg_box1 {v : Value} (hx : ev F x = some v) (h1 : v.cells = #[v]) : OpG P w0 n ⟨dst, .box t x, ty, pos, af, gd⟩ F A I (fun v' A' I' => ∃ b, v' = pt b 0 ∧ A' = Box b [v] t :: A ∧ I = I') := by
 refine opg_run fun tt w hf hs => ⟨pt w.heap.size 0, w.alloc (.cells #[v] t), Box w.heap.size [v] t :: A, I, ?_, ⟨_, rfl, rfl, rfl⟩, hs.alloc _⟩
 simp [execOp, Instr.box, hf.eval hx, newVar, newRow, pt, h1]
theorem opv_load1 {off : Nat} {v : Value} [TyI P t d s by_ z] [Sel A b cells T u] (hx : ev F x = some (pt b off)) (hd : isA d = false) (hc : cells[off]? = some v) : OpV P w0 n ⟨dst, .load t x, ty, pos, af, gd⟩ F A I v := by
 intro tt w hf hs
 have h := Sel.at (b := b) hs
 simp [execOp, hf.eval hx, Instr.loadAt, Instr.sureAddr, run_loadVar1 (P := P) (t := t) hd h (by simpa using hc)]
theorem opv_loadA {off : Nat} {vs : List Value} [TyI P t d s by_ z] [Sel A b cells T u] (hx : ev F x = some (pt b off)) (hd : isA d = true) (hc : tk cells off s = some vs) : OpV P w0 n ⟨dst, .load t x, ty, pos, af, gd⟩ F A I (.agg vs.toArray) := by
 intro tt w hf hs
 have h := Sel.at (b := b) hs
 obtain ⟨h1, h2⟩ := tk_spec hc
 simp [execOp, hf.eval hx, Instr.loadAt, Instr.sureAddr, run_loadVarA (P := P) (t := t) hd h h1 (by simpa using h2)]
theorem opg_store {off : Nat} {v : Value} {vs c' : List Value} [TyI P t d s by_ z] [Sel A b cells T u] (hx : ev F x = some (pt b off)) (hy : ev F y = some v) (hv : v.cells = vs.toArray) (hl : vs.length = s) (h1 : vs.all (·.oneCell') = true) (hc : spl cells off vs = some c') :
  OpG P w0 n ⟨dst, .store t x y, ty, pos, af, gd⟩ F A I (fun _ A' I' => A' = u c' ∧ I = I') := by
 refine opg_unit fun tt w hf hs => ?_
 have h := Sel.at (b := b) hs
 obtain ⟨hle, hc'⟩ := spl_spec hc
 obtain ⟨w', hr, ho, ht, hout, hdr, hsz, hb', hne⟩ := run_storeCells_at' (P := P) off vs 0 cells.toArray w h (by simpa using hle) (by simpa using h1)
 have hw : w' = { w with heap := w'.heap } := by cases w'; cases w; simp_all
 refine ⟨w', u c', I, ?_, ⟨rfl, rfl⟩, ?_⟩
 ·simp only [execOp, hf.eval hx, hf.eval hy, Instr.storeAt, Instr.sureAddr, Sem.run_bind, Sem.run_pure, Result.andThen_ok, storeVar, hv, run_size (P := P) (t := t), List.size_toArray, hl, ne_eq, not_true_eq_false, if_false, hr]
 ·rw [hw]
  refine Sel.set hs c' _ hsz ?_ hne
  rw [hb', hc']
  simp
theorem opv_fieldAddr {off i fo ft : Nat} [hF : FldI P t i fo ft] [TyI P ft d' s' by' z'] (hx : ev F x = some (pt b off)) (h0 : Nat.beq s' 0 = false) : OpV P w0 n ⟨dst, .fieldAddr t x i, ty, pos, af, gd⟩ F A I (pt b (off + fo)) := by
 intro tt w hf hs
 have h0' : s' ≠ 0 := Nat.ne_of_beq_eq_false h0
 obtain ⟨fs, f, hu, hi, rfl, rfl⟩ := hF.h
 simp [execOp, hf.eval hx, Instr.fieldAt, run_underlying hu, hi, Instr.sureAddr, fieldPlace, run_size (P := P) (t := f.type), h0', add_pt]
theorem opv_indexAddrA {off len : Nat} {k : IntKind} {i : Int} [TyI P t (.array len e) s by_ z] [TyI P e d' s' by' z'] (hx : ev F x = some (pt b off)) (hi : ev F ix = some (.int k i)) (h0 : 0 ≤ i) (h1 : i < len) : OpV P w0 n ⟨dst, .indexAddr t x ix, ty, pos, af, gd⟩ F A I (pt b (off + i.toNat * s')) := by
 intro tt w hf hs
 simp [execOp, hf.eval hx, hf.eval hi, Instr.indexAt, asIntOf, run_und (P := P) (t := t), Instr.sureAddr, h0, h1, run_size (P := P) (t := e), add_pt]
/-! ### 4. The end of a function -/
def rvSem (t : Array Value) (r : ResultVar) : Sem Value := match r with | .tmp k => pure (t.getD k undef) | .cell a ty => do loadVar ty (← asAddr (t.getD a undef))
theorem results_rv (fn : Func) (t : Array Value) : results fn t = (do let vs ← fn.results.mapM (rvSem t); pure (if h : vs.size = 1 then vs[0] else .tuple vs)) := rfl
/-- A result's value. -/
def RV (P : Program) (w0 : World) (n : Nat) (F : Frm) (A : List Asrt) (I : List Chunk) (r : ResultVar) (v : Value) : Prop :=
 ∀ t w, Fr t n F → St w0 w A I → (rvSem t r).run P w = .ok v w
theorem rv_tmp {k : Nat} {v : Value} (h : look F k = some v) : RV P w0 n F A I (.tmp k) v := by
 intro t w hf hs
 have := hf.eval (ds := []) (x := .tmp k) (v := v) h
 simp only [Act.eval] at this
 simp only [rvSem, this, Sem.run_pure]
theorem rv_cellA {k off : Nat} {vs : List Value} [TyI P t d s by_ z] [Sel A b cells T u] (h : look F k = some (pt b off)) (hd : isA d = true) (hc : tk cells off s = some vs) : RV P w0 n F A I (.cell k t) (.agg vs.toArray) := by
 intro tt w hf hs
 have := hf.eval (ds := []) (x := .tmp k) (v := pt b off) h
 simp only [Act.eval] at this
 have h := Sel.at (b := b) hs
 obtain ⟨h1, h2⟩ := tk_spec hc
 simp only [rvSem, this, asAddr, Sem.run_bind, Sem.run_pure, Result.andThen_ok]
 exact run_loadVarA (P := P) (t := t) hd h h1 (by simpa using h2)
inductive RVs (P : Program) (w0 : World) (n : Nat) (F : Frm) (A : List Asrt) (I : List Chunk) : List ResultVar → List Value → Prop
 | nil : RVs P w0 n F A I [] []
 | cons {r : ResultVar} {v : Value} {rs : List ResultVar} {vs : List Value} : RV P w0 n F A I r v → RVs P w0 n F A I rs vs → RVs P w0 n F A I (r :: rs) (v :: vs)
def retV : List Value → Value
 | [v] => v
 | vs => .tuple vs.toArray
theorem run_results {fn : Func} {rs : List ResultVar} {vs : List Value} (hres : fn.results = rs.toArray) (h : RVs P w0 n F A I rs vs) {t : Array Value} {w : World} (hf : Fr t n F) (hs : St w0 w A I) : (results fn t).run P w = .ok (retV vs) w := by
 have key : ∀ {rs : List ResultVar} {vs : List Value}, RVs P w0 n F A I rs vs → ((rs.mapM (rvSem t)).run P w = .ok vs w) := by
  intro rs vs h
  induction h with
  | nil => simp
  | cons h1 _ ih =>
   have := h1 t w hf hs
   rw [List.mapM_cons, Sem.run_bind, this, Result.andThen_ok, Sem.run_bind, ih, Result.andThen_ok, Sem.run_pure]
 have := key h
 rw [results_rv, hres, List.mapM_toArray, Sem.run_bind, Sem.run_map, this]
 simp only [Result.andThen_ok]
 cases h with
 | nil => simp [retV]
 | cons h1 h2 =>
  cases h2 with
  | nil => simp [retV]
  | cons h3 h4 => simp [retV]
theorem tri_end {fn : Func} {rs : List ResultVar} {vs : List Value} {R : Value → List Asrt → List Chunk → Prop} (B : List Asrt) (hA : ∃ Am, A = Am ++ B) (hres : fn.results = rs.toArray) (h : RVs P w0 n F A I rs vs) (hR : R (retV vs) B I) : Tri w0 n F A I (Ends P fn w0 R .ret) := by
 obtain ⟨Am, rfl⟩ := hA
 exact fun t w hf hs => ⟨rfl, retV vs, run_results hres h hf hs, _, B, I, rfl, hR, hs.suffix⟩
end
end Go.GL


set_option linter.unusedSimpArgs false
namespace Go.GL

theorem w64 {x : Int} (h1 : -9223372036854775808 ≤ x) (h2 : x ≤ 9223372036854775807) : IntKind.i64.wrap x = x := by
 simp only [IntKind.wrap, IntKind.signed, IntKind.bits]
 simp
 omega

/-! ### 1. Elements as cells -/
class Enc (α : Type) where
 enc : α → List Value
 sz : Nat
 hlen : ∀ x, (enc x).length = sz
 one : ∀ x, (enc x).all (·.oneCell') = true
open Enc (enc)
def encs {α : Type} [Enc α] (xs : List α) : List Value := xs.flatMap enc
theorem encs_cons {α : Type} [Enc α] (x : α) (xs : List α) : encs (x :: xs) = enc x ++ encs xs := rfl
theorem encs_append {α : Type} [Enc α] (xs ys : List α) : encs (xs ++ ys) = encs xs ++ encs ys := by simp [encs]
theorem encs_length {α : Type} [Enc α] (xs : List α) : (encs xs).length = xs.length * Enc.sz α := by
 induction xs with
 | nil => simp [encs]
 | cons x xs ih => rw [encs_cons, List.length_append, Enc.hlen, ih, List.length_cons]; rw [Nat.succ_mul]; omega
theorem encs_get {α : Type} [Enc α] [Inhabited α] : ∀ (xs : List α) (i fo : Nat), i < xs.length → fo < Enc.sz α → (encs xs)[i * Enc.sz α + fo]? = (enc (xs.getD i default))[fo]?
 | [], i, fo, h, _ => by simp at h
 | x :: xs, 0, fo, h, hf => by
  rw [encs_cons, Nat.zero_mul, Nat.zero_add, List.getElem?_append_left (by rw [Enc.hlen]; exact hf)]
  simp
 | x :: xs, i + 1, fo, h, hf => by
  have ih := encs_get xs i fo (by simpa using h) hf
  rw [encs_cons, List.getElem?_append_right (by rw [Enc.hlen, Nat.succ_mul]; omega), Enc.hlen, Nat.succ_mul]
  rw [show i * Enc.sz α + Enc.sz α + fo - Enc.sz α = i * Enc.sz α + fo by omega, ih]
  simp
theorem encs_one {α : Type} [Enc α] (xs : List α) : (encs xs).all (·.oneCell') = true := by
 induction xs with
 | nil => rfl
 | cons x xs ih => rw [encs_cons, List.all_append, Enc.one, ih]; rfl
instance : Enc Int := ⟨fun x => [.int .i64 x], 1, fun _ => rfl, fun _ => rfl⟩
instance : Enc Bool := ⟨fun x => [.bool x], 1, fun _ => rfl, fun _ => rfl⟩

/-! ### 2. What is only read -/
def RdC (I : List Chunk) (b off : Nat) (cells : List Value) : Prop := ∃ cs T fz, (b, Obj.cells cs T fz) ∈ I ∧ ∀ j v, cells[j]? = some v → cs[off + j]? = some v
theorem RdC.mono {I J : List Chunk} {b off : Nat} {cells : List Value} (h : RdC I b off cells) (hs : I ⊆ J) : RdC J b off cells := let ⟨cs, T, fz, h1, h2⟩ := h; ⟨cs, T, fz, hs h1, h2⟩
def SlAt {α : Type} [Enc α] (I : List Chunk) (a : Option Addr) (xs : List α) : Prop := xs = [] ∨ ∃ b off, a = some ⟨b, off, none⟩ ∧ RdC I b off (encs xs)
theorem SlAt.mono {α : Type} [Enc α] {I J : List Chunk} {a : Option Addr} {xs : List α} (h : SlAt I a xs) (hs : I ⊆ J) : SlAt J a xs := h.imp id fun ⟨b, off, h1, h2⟩ => ⟨b, off, h1, h2.mono hs⟩
theorem SlAt.nil {α : Type} [Enc α] {I : List Chunk} {a : Option Addr} : SlAt I a ([] : List α) := .inl rfl
/-- The place fo within the element i. -/
def epf (a : Option Addr) (sz i fo : Nat) : Value := .pointer (a.map fun ad => ⟨ad.block, ad.off + (i * sz + fo), none⟩)

section
variable {w0 : World} {n : Nat} {F : Frm} {A : List Asrt} {I : List Chunk} {P : Program}
variable {dst : Option Tmp} {ty : TypeId} {pos : String} {af : Array Edge} {gd : Option (Nat × Bool)}
variable {t e : TypeId} {d d' : TypeDesc} {s by_ s' by' : Nat} {z z' : List Value} {x y ix : Operand} {a a2 : Option Addr} {len cap m cap2 : Nat}

theorem opv_len [TyI P t (.slice e) s by_ z] (hx : ev F x = some (.slice a len cap)) : OpV P w0 n ⟨dst, .call ⟨.builtin .len, #[x], #[t]⟩, ty, pos, af, gd⟩ F A I (.int .i64 len) := by
 intro tt w hf hs
 simp [execOp, resolve, invoke, builtin, hf.eval hx, Builtin.len_, run_und (P := P) (t := t), goInt]
theorem opv_indexAddrS {α : Type} [Enc α] {xs : List α} {k : IntKind} {i : Int} [TyI P t (.slice e) s by_ z] [TyI P e d' s' by' z'] (hx : ev F x = some (.slice a len cap)) (hi : ev F ix = some (.int k i)) (h0 : 0 ≤ i) (h1 : i < len) (hs : SlAt I a xs) (hl : len = xs.length) :
  OpV P w0 n ⟨dst, .indexAddr t x ix, ty, pos, af, gd⟩ F A I (epf a s' i.toNat 0) := by
 intro tt w hf hst
 rcases hs with rfl | ⟨b, off, rfl, _⟩
 ·simp at hl; omega
 ·simp [execOp, hf.eval hx, hf.eval hi, Instr.indexAt, asIntOf, run_und (P := P) (t := t), h0, h1, run_size (P := P) (t := e), add_pt, epf]
theorem opv_fieldAddrP {i f ft : Nat} {sz j fo : Nat} [hF : FldI P t i f ft] [TyI P ft d' s' by' z'] (hx : ev F x = some (epf a sz j fo)) (ha : a.isSome = true) (h0 : Nat.beq s' 0 = false) : OpV P w0 n ⟨dst, .fieldAddr t x i, ty, pos, af, gd⟩ F A I (epf a sz j (fo + f)) := by
 intro tt w hf hs
 have h0' : s' ≠ 0 := Nat.ne_of_beq_eq_false h0
 obtain ⟨fs, f, hu, hi, rfl, rfl⟩ := hF.h
 cases a with
 | none => simp at ha
 | some ad =>
  have hx' : ev F x = some (.pointer (some ⟨ad.block, ad.off + (j * sz + fo), none⟩)) := hx
  simp [execOp, hf.eval hx', Instr.fieldAt, run_underlying hu, hi, Instr.sureAddr, fieldPlace, run_size (P := P) (t := f.type), h0', add_pt, epf, Nat.add_assoc]
theorem opv_loadE1 {α : Type} [Enc α] [Inhabited α] {xs : List α} {i fo sz : Nat} {v : Value} [TyI P t d s by_ z] (hx : ev F x = some (epf a sz i fo)) (hs : SlAt I a xs) (hsz : Enc.sz α = sz) (hi : i < xs.length) (hd : isA d = false) (hv : (enc (xs.getD i default))[fo]? = some v) : OpV P w0 n ⟨dst, .load t x, ty, pos, af, gd⟩ F A I v := by
 subst hsz
 intro tt w hf hst
 rcases hs with rfl | ⟨b, off, rfl, cs, T, fz, hm, hc⟩
 ·simp at hi
 ·have hfo : fo < Enc.sz α := by have := (List.getElem?_eq_some_iff.1 hv).1; rwa [Enc.hlen] at this
  have hx' : ev F x = some (.pointer (some ⟨b, off + (i * Enc.sz α + fo), none⟩)) := hx
  have h := hst.inI hm
  have hcell := hc (i * Enc.sz α + fo) v (by rw [encs_get xs i fo hi hfo, hv])
  simp [execOp, hf.eval hx', Instr.loadAt, Instr.sureAddr, run_loadVar1 (P := P) (t := t) hd h hcell]
theorem opv_loadEA {α : Type} [Enc α] [Inhabited α] {xs : List α} {i fo sz : Nat} {vs : List Value} [TyI P t d s by_ z] (hx : ev F x = some (epf a sz i fo)) (hs : SlAt I a xs) (hsz : Enc.sz α = sz) (hi : i < xs.length) (hd : isA d = true) (hv : tk (enc (xs.getD i default)) fo s = some vs) : OpV P w0 n ⟨dst, .load t x, ty, pos, af, gd⟩ F A I (.agg vs.toArray) := by
 subst hsz
 intro tt w hf hst
 rcases hs with rfl | ⟨b, off, rfl, cs, T, fz, hm, hc⟩
 ·simp at hi
 ·obtain ⟨h1, h2⟩ := tk_spec hv
  have hx' : ev F x = some (.pointer (some ⟨b, off + (i * Enc.sz α + fo), none⟩)) := hx
  have h := hst.inI hm
  have hcell : ∀ j, j < s → cs[off + (i * Enc.sz α + fo) + j]? = vs[j]? := by
   intro j hj
   have hj' : j < vs.length := by omega
   have h3 := h2 j hj
   have hlt : fo + j < Enc.sz α := by
    have : (enc (xs.getD i default))[fo + j]? = some vs[j] := by rw [h3]; simp [hj']
    have := (List.getElem?_eq_some_iff.1 this).1
    rwa [Enc.hlen] at this
   have := hc (i * Enc.sz α + (fo + j)) vs[j] (by rw [encs_get xs i (fo + j) hi hlt, h3]; simp [hj'])
   rw [show off + (i * Enc.sz α + fo) + j = off + (i * Enc.sz α + (fo + j)) by omega, this]
   simp [hj']
  simp [execOp, hf.eval hx', Instr.loadAt, Instr.sureAddr, run_loadVarA (P := P) (t := t) hd h h1 hcell]
theorem SlAt.some {α : Type} [Enc α] {xs : List α} (h : SlAt I a xs) {i : Nat} (hi : i < xs.length) : a.isSome = true := by
 rcases h with rfl | ⟨b, off, rfl, _⟩
 ·simp at hi
 ·rfl

theorem opv_fieldAddrE {α : Type} [Enc α] {xs : List α} {i f ft : Nat} {sz j fo : Nat} [FldI P t i f ft] [TyI P ft d' s' by' z'] (hx : ev F x = some (epf a sz j fo)) (hs : SlAt I a xs) (hj : j < xs.length) (h0 : Nat.beq s' 0 = false) : OpV P w0 n ⟨dst, .fieldAddr t x i, ty, pos, af, gd⟩ F A I (epf a sz j (fo + f)) := opv_fieldAddrP hx (hs.some hj) h0
/-! ### 3. Rows of one's own -/
/-- The slice (a, len, cap) stands at the head of a block of its own (or is nil); its first cells are these. -/
def Row (a : Option Addr) (cap len : Nat) (E : TypeId) (sz : Nat) (cells : List Value) : Asrt := fun c =>
 cells.length = len * sz ∧ ((a = none ∧ cap = 0 ∧ len = 0 ∧ c = []) ∨ ∃ b cur, a = some ⟨b, 0, none⟩ ∧ c = [(b, .cells cur E (0, 0))] ∧ cur.size = cap * sz ∧ len ≤ cap ∧ cur.toList.take (len * sz) = cells)
theorem tri_nilRow {E : TypeId} {sz : Nat} {K : Act → World → Prop} (h : Tri w0 n F (Row none 0 0 E sz [] :: A) I K) : Tri w0 n F A I K := by
 intro t w hf hs
 refine h t w hf ?_
 obtain ⟨cs, h1, h2⟩ := hs
 exact ⟨[] ++ cs, .cons ⟨by simp, .inl ⟨rfl, rfl, rfl, rfl⟩⟩ h1, h2⟩
theorem tri_freezeRow {α : Type} [Enc α] {xs : List α} {E : TypeId} {K : Act → World → Prop} (hz : Nat.beq (Enc.sz α) 0 = false) (h : ∀ I', I ⊆ I' → SlAt I' a xs → Tri w0 n F A I' K) : Tri w0 n F (Row a cap len E (Enc.sz α) (encs xs) :: A) I K := by
 intro t w hf hs
 obtain ⟨cs, h1, h2⟩ := hs
 obtain ⟨c, cs', rfl, ⟨hl, ha⟩, hr⟩ := h1.cons_inv
 rcases ha with ⟨rfl, rfl, rfl, rfl⟩ | ⟨b, cur, rfl, rfl, hsz, hle, htk⟩
 ·have hx : xs = [] := by
   have hz := Nat.ne_of_beq_eq_false hz
   rw [encs_length] at hl
   have : xs.length = 0 := by
    rcases Nat.eq_zero_or_pos xs.length with h | h
    ·exact h
    ·have := Nat.mul_pos h (Nat.pos_of_ne_zero hz); omega
   exact List.eq_nil_of_length_eq_zero this
  exact h I (fun _ h => h) (.inl hx) t w hf ⟨cs', hr, by simpa using h2⟩
 ·refine h ((b, .cells cur E (0, 0)) :: I) (fun _ h => List.mem_cons_of_mem _ h) (.inr ⟨b, 0, rfl, cur, E, (0, 0), by simp, ?_⟩) t w hf ⟨cs', hr, h2.perm ?_⟩
  ·intro j v hj
   rw [← htk] at hj
   have := (List.getElem?_eq_some_iff.1 hj).1
   rw [List.length_take] at this
   rw [List.getElem?_take_of_lt (by omega)] at hj
   simpa using hj
  ·simpa using (List.perm_middle (l₁ := cs') (a := (b, Obj.cells cur E (0, 0))) (l₂ := I)).symm

class SelR (A : List Asrt) (a : Option Addr) (cap len : outParam Nat) (E : outParam TypeId) (sz : outParam Nat) (cells : outParam (List Value)) (u : outParam (Asrt → List Asrt)) : Prop where
 h : ∃ pre post, A = pre ++ Row a cap len E sz cells :: post ∧ ∀ r, u r = pre ++ r :: post
instance (priority := high) selRHere {E : TypeId} {sz : Nat} {cells : List Value} : SelR (Row a cap len E sz cells :: A) a cap len E sz cells (fun r => r :: A) := ⟨[], A, rfl, fun _ => rfl⟩
instance (priority := low) selRThere {q : Asrt} {E : TypeId} {sz : Nat} {cells : List Value} {u : Asrt → List Asrt} [h : SelR A a cap len E sz cells u] : SelR (q :: A) a cap len E sz cells (fun r => q :: u r) := by
 obtain ⟨pre, post, h1, h2⟩ := h.h
 exact ⟨q :: pre, post, by rw [h1]; rfl, fun r => by rw [h2]; rfl⟩
variable {E : TypeId} {sz : Nat} {cells : List Value} {u : Asrt → List Asrt}
theorem SelR.at [h : SelR A a cap len E sz cells u] {w : World} (hs : St w0 w A I) : cells.length = len * sz ∧ ((a = none ∧ cap = 0 ∧ len = 0) ∨ ∃ b cur, a = some ⟨b, 0, none⟩ ∧ w.heap[b]? = some (.cells cur E (0, 0)) ∧ cur.size = cap * sz ∧ len ≤ cap ∧ cur.toList.take (len * sz) = cells) := by
 obtain ⟨pre, post, h1, _⟩ := h.h
 have hp : A.Perm (Row a cap len E sz cells :: (pre ++ post)) := by rw [h1]; exact List.perm_middle
 obtain ⟨cs, h2, h3⟩ := hs.perm hp
 obtain ⟨c, cs', rfl, ⟨hl, hr⟩, _⟩ := h2.cons_inv
 refine ⟨hl, ?_⟩
 rcases hr with ⟨h4, h5, h6, _⟩ | ⟨b, cur, h4, rfl, h5, h6, h7⟩
 ·exact .inl ⟨h4, h5, h6⟩
 ·exact .inr ⟨b, cur, h4, h3.has (b, _) (by simp), h5, h6, h7⟩
/-- The row's block turns; or another one takes its place. -/
theorem SelR.set [h : SelR A a cap len E sz cells u] {w : World} (hs : St w0 w A I) (len' : Nat) (cells' : List Value) {b : Nat} (ha : a = some ⟨b, 0, none⟩) (cur' : Array Value) (heap' : Array Obj) (hsz : heap'.size = w.heap.size)
  (hb : heap'[b]? = some (.cells cur' E (0, 0))) (hne : ∀ k, k ≠ b → heap'[k]? = w.heap[k]?) (hl : cells'.length = len' * sz) (hc : cur'.size = cap * sz) (hle : len' ≤ cap) (ht : cur'.toList.take (len' * sz) = cells') :
  St w0 { w with heap := heap' } (u (Row a cap len' E sz cells')) I := by
 obtain ⟨pre, post, h1, h2⟩ := h.h
 have hp : A.Perm (Row a cap len E sz cells :: (pre ++ post)) := by rw [h1]; exact List.perm_middle
 obtain ⟨cs, hq, h3⟩ := hs.perm hp
 obtain ⟨c, cs', rfl, ⟨hl', hr⟩, hr2⟩ := hq.cons_inv
 rcases hr with ⟨h4, _⟩ | ⟨b', cur0, h4, rfl, _⟩
 ·rw [ha] at h4; cases h4
 ·have : b' = b := by rw [ha] at h4; injection h4 with h4; injection h4 with h4; exact h4.symm
  subst this
  have hw := Wd.setObj (by simpa using h3) (.cells cur' E (0, 0)) heap' hsz hb hne
  have hst : St w0 { w with heap := heap' } (Row a cap len' E sz cells' :: (pre ++ post)) I :=
   ⟨[(b', .cells cur' E (0, 0))] ++ cs', .cons ⟨hl, .inr ⟨b', cur', ha, rfl, hc, hle, ht⟩⟩ hr2, by simpa using hw⟩
  rw [h2]
  exact hst.perm List.perm_middle.symm
theorem SelR.swap [h : SelR A a cap len E sz cells u] {w : World} (hs : St w0 w A I) (cap' len' : Nat) (cells' : List Value) (cur' : Array Value) (hl : cells'.length = len' * sz) (hc : cur'.size = cap' * sz) (hle : len' ≤ cap') (ht : cur'.toList.take (len' * sz) = cells') :
  St w0 (w.alloc (.cells cur' E)) (u (Row (some ⟨w.heap.size, 0, none⟩) cap' len' E sz cells')) I := by
 obtain ⟨pre, post, h1, h2⟩ := h.h
 have hp : A.Perm (Row a cap len E sz cells :: (pre ++ post)) := by rw [h1]; exact List.perm_middle
 have h3 := (hs.perm hp).drop.alloc (.cells cur' E)
 rw [h2]
 exact (h3.weaken (b := Row (some ⟨w.heap.size, 0, none⟩) cap' len' E sz cells') (by rintro c rfl; exact ⟨hl, .inr ⟨_, cur', rfl, rfl, hc, hle, ht⟩⟩)).perm List.perm_middle.symm

theorem SelR.some [h : SelR A a cap len E sz cells u] {w : World} (hs : St w0 w A I) {j : Nat} (hj : j < len) : a.isSome = true := by
 obtain ⟨_, ⟨_, _, rfl⟩ | ⟨b, cur, rfl, _⟩⟩ := SelR.at (a := a) hs
 ·omega
 ·rfl
theorem opv_fieldAddrR {i f ft : Nat} {sz' j fo : Nat} [SelR A a cap len E sz cells u] [FldI P t i f ft] [TyI P ft d' s' by' z'] (hx : ev F x = some (epf a sz' j fo)) (hj : j < len) (h0 : Nat.beq s' 0 = false) : OpV P w0 n ⟨dst, .fieldAddr t x i, ty, pos, af, gd⟩ F A I (epf a sz' j (fo + f)) :=
 fun tt w hf hs => opv_fieldAddrP (gd := gd) hx (SelR.some (a := a) hs hj) h0 tt w hf hs
theorem opv_indexAddrR {k : IntKind} {i : Int} [SelR A a cap len E sz cells u] [TyI P t (.slice e) s by_ z] [TyI P e d' s' by' z'] (hx : ev F x = some (.slice a len cap)) (hi : ev F ix = some (.int k i)) (h0 : 0 ≤ i) (h1 : i < len) :
  OpV P w0 n ⟨dst, .indexAddr t x ix, ty, pos, af, gd⟩ F A I (epf a s' i.toNat 0) := by
 intro tt w hf hst
 obtain ⟨_, ⟨_, _, rfl⟩ | ⟨b, cur, rfl, _⟩⟩ := SelR.at (a := a) hst
 ·omega
 ·simp [execOp, hf.eval hx, hf.eval hi, Instr.indexAt, asIntOf, run_und (P := P) (t := t), h0, h1, run_size (P := P) (t := e), add_pt, epf]
theorem opv_loadR1 {i fo : Nat} {v : Value} [SelR A a cap len E sz cells u] [TyI P t d s by_ z] (hx : ev F x = some (epf a sz i fo)) (hd : isA d = false) (hv : cells[i * sz + fo]? = some v) : OpV P w0 n ⟨dst, .load t x, ty, pos, af, gd⟩ F A I v := by
 intro tt w hf hst
 obtain ⟨hl, ⟨_, _, rfl⟩ | ⟨b, cur, rfl, hb, _, _, ht⟩⟩ := SelR.at (a := a) hst
 ·have := (List.getElem?_eq_some_iff.1 hv).1
  simp at hl; subst hl; simp at this
 ·have hx' : ev F x = some (.pointer (some ⟨b, 0 + (i * sz + fo), none⟩)) := hx
  rw [← ht] at hv
  have h1 := (List.getElem?_eq_some_iff.1 hv).1
  rw [List.length_take] at h1
  rw [List.getElem?_take_of_lt (by omega)] at hv
  simp [execOp, hf.eval hx', Instr.loadAt, Instr.sureAddr, run_loadVar1 (P := P) (t := t) hd hb (by simpa using hv)]
theorem opv_loadRA {i fo : Nat} {vs : List Value} [SelR A a cap len E sz cells u] [TyI P t d s by_ z] (hx : ev F x = some (epf a sz i fo)) (hd : isA d = true) (h0 : Nat.blt 0 s = true) (hv : tk cells (i * sz + fo) s = some vs) : OpV P w0 n ⟨dst, .load t x, ty, pos, af, gd⟩ F A I (.agg vs.toArray) := by
 intro tt w hf hst
 obtain ⟨h1, h2⟩ := tk_spec hv
 obtain ⟨hl, ⟨rfl, _, rfl⟩ | ⟨b, cur, rfl, hb, _, _, ht⟩⟩ := SelR.at (a := a) hst
 ·exfalso
  have h0' : 0 < s := Nat.le_of_ble_eq_true h0
  have := h2 0 h0'
  have hc : cells = [] := by simpa using hl
  subst hc
  rw [List.getElem?_nil] at this
  have := List.getElem?_eq_none_iff.1 this.symm
  omega
 ·have hx' : ev F x = some (.pointer (some ⟨b, 0 + (i * sz + fo), none⟩)) := hx
  have hcell : ∀ j, j < s → cur[i * sz + fo + j]? = vs[j]? := by
   intro j hj
   have h3 := h2 j hj
   have hj' : j < vs.length := by omega
   have h4 : cells[i * sz + fo + j]? = some vs[j] := by rw [h3]; simp [hj']
   rw [← ht] at h4
   have h5 := (List.getElem?_eq_some_iff.1 h4).1
   rw [List.length_take] at h5
   rw [List.getElem?_take_of_lt (by omega)] at h4
   rw [← Array.getElem?_toList, h4]
   simp [hj']
  simp [execOp, hf.eval hx', Instr.loadAt, Instr.sureAddr, run_loadVarA (P := P) (t := t) hd hb h1 hcell]

/-! ### 4. make, literals, append -/
theorem growBy_le : ∀ (r need c : Nat), c < need → Builtin.growBy need r c ≤ 2 * need + 768
 | 0, need, c, h => by simp only [Builtin.growBy]; omega
 | r + 1, need, c, h => by
  simp only [Builtin.growBy]
  rw [if_neg (by omega)]
  by_cases h2 : c + (c + 768) / 4 < need
  ·exact growBy_le r need _ h2
  ·have : ∀ r', Builtin.growBy need r' (c + (c + 768) / 4) = c + (c + 768) / 4 := by
    intro r'
    cases r' with
    | zero => rfl
    | succ r' => simp only [Builtin.growBy]; rw [if_pos (by omega)]
   rw [this]
   omega
theorem nextcap_le (need cap : Nat) (h : cap < need) : Builtin.nextslicecap need cap ≤ 2 * need + 768 := by
 unfold Builtin.nextslicecap
 split
 ·omega
 ·split
  ·omega
  ·exact growBy_le _ _ _ h
/-- What a slice's cells are. -/
def CellsOf (w : World) (a : Option Addr) (cs : List Value) : Prop := cs = [] ∨ ∃ b off cur T fz, a = some ⟨b, off, none⟩ ∧ w.heap[b]? = some (Obj.cells cur T fz) ∧ ∀ j, j < cs.length → cur[off + j]? = cs[j]?
theorem run_firstCells {w : World} {cs : List Value} {sz m : Nat} (h : CellsOf w a2 cs) (hl : cs.length = m * sz) (cap2 : Nat) : (Builtin.firstCells sz m (.slice a2 m cap2)).run P w = .ok cs.toArray w := by
 rcases h with rfl | ⟨b, off, cur, T, fz, rfl, hb, hc⟩
 ·have : m * sz = 0 := by simpa using hl.symm
  cases a2 with
  | none => simp [Builtin.firstCells]
  | some ad => simp [Builtin.firstCells, this, loadCells, loadCellsFrom]
 ·simp only [Builtin.firstCells, ← hl]
  exact run_loadCells_at hb hc
theorem SlAt.cellsOf {α : Type} [Enc α] {xs : List α} (h : SlAt I a2 xs) {w : World} (hs : St w0 w A I) : CellsOf w a2 (encs xs) := by
 rcases h with rfl | ⟨b, off, rfl, cs, T, fz, hm, hc⟩
 ·exact .inl rfl
 ·exact .inr ⟨b, off, cs, T, fz, rfl, hs.inI hm, fun j hj => by rw [hc j (encs xs)[j] (by simp [hj])]; simp [hj]⟩
theorem box_cellsOf {b : Nat} {cs : List Value} {T : TypeId} {v : List Value → List Asrt} [Sel A b cs T v] {w : World} (hs : St w0 w A I) : CellsOf w (some ⟨b, 0, none⟩) cs :=
 .inr ⟨b, 0, _, T, (0, 0), rfl, Sel.at (b := b) hs, fun j _ => by simp⟩
theorem opg_append_of {cells2 : List Value} [SelR A a cap len E sz cells u] [TyI P t (.slice E) s by_ z] [TyI P ty (.slice e) s by_ z] [TyI P E d' sz by' z'] (hx : ev F x = some (.slice a len cap)) (hy : ev F y = some (.slice a2 m cap2)) (hl2 : cells2.length = m * sz) (h1 : cells2.all (·.oneCell') = true)
  (hc2 : ∀ w, St w0 w A I → CellsOf w a2 cells2) (hby : (2 * (len + m) + 768) * by' ≤ 281474976710656) (hb0 : Nat.beq by' 0 = false) :
  OpG P w0 n ⟨dst, .call ⟨.builtin .append, #[x, y], #[t, ty]⟩, ty, pos, af, gd⟩ F A I (fun v A' I' => ∃ a' cap', v = .slice a' (len + m) cap' ∧ A' = u (Row a' cap' (len + m) E sz (cells ++ cells2)) ∧ I = I') := by
 refine opg_run fun tt w hf hst => ?_
 obtain ⟨hl, hrow⟩ := SelR.at (a := a) hst
 obtain ⟨inf, hinf, hbyt⟩ := run_bytes (P := P) (t := E) w
 obtain ⟨zv, hzv, hzc⟩ := run_zero (P := P) (t := E) w
 have hfc := run_firstCells (P := P) (hc2 w hst) hl2 cap2
 have hmul : (len + m) * sz = len * sz + m * sz := Nat.add_mul ..
 by_cases hroom : len + m ≤ cap
 ·rcases hrow with ⟨rfl, rfl, rfl⟩ | ⟨b, cur, rfl, hb, hsz, hle, ht⟩
  ·have hm0 : m = 0 := by omega
   subst hm0
   have : cells2 = [] := by simpa using hl2
   subst this
   have hcl : cells = [] := by simpa using hl
   subst hcl
   have hh := SelR.h (A := A) (a := (none : Option Addr)) (cap := 0) (len := 0) (E := E) (sz := sz) (cells := []) (u := u)
   obtain ⟨pre, post, e1, e2⟩ := hh
   refine ⟨.slice none 0 0, w, u (Row none 0 0 E sz []), I, ?_, ⟨none, 0, rfl, rfl, rfl⟩, by rw [e2, ← e1]; exact hst⟩
   simp [execOp, resolve, invoke, builtin, hf.eval hx, hf.eval hy, Builtin.append_, run_und (P := P) (t := t), run_und (P := P) (t := ty), run_size (P := P) (t := E), Builtin.lenOf, hfc]
  ·have hmul2 : (len + m) * sz ≤ cap * sz := Nat.mul_le_mul_right sz hroom
   obtain ⟨w', hr, ho, htp, hout, hdr, hsz', hb', hne⟩ := run_storeCells_at' (P := P) (len * sz) cells2 0 cur w hb (by omega) (by simpa using h1)
   have hw : w' = { w with heap := w'.heap } := by cases w'; cases w; simp_all
   refine ⟨.slice (some ⟨b, 0, none⟩) (len + m) cap, w', _, I, ?_, ⟨_, cap, rfl, rfl, rfl⟩, ?_⟩
   ·simp [execOp, resolve, invoke, builtin, hf.eval hx, hf.eval hy, Builtin.append_, run_und (P := P) (t := t), run_und (P := P) (t := ty), run_size (P := P) (t := E), Builtin.lenOf, hfc, hroom, add_pt, hr]
   ·rw [hw]
    refine SelR.set hst (len + m) _ rfl _ _ hsz' hb' hne ?_ ?_ hroom ?_
    ·rw [List.length_append, hl, hl2, hmul]
    ·simp only [List.size_toArray, List.length_append, List.length_take, List.length_drop, Array.length_toList, hl2]; omega
    ·simp only [Nat.add_zero, hl2]
     have hlt : (cur.toList.take (len * sz)).length = len * sz := by simp; omega
     rw [List.take_append, List.take_of_length_le (by simp; omega), List.length_append, hlt, hl2, hmul, Nat.sub_self, List.take_zero, List.append_nil, ht]
 ·have hlt : cap < len + m := by omega
  have hcs : CellsOf w a cells := by
   rcases hrow with ⟨rfl, rfl, rfl⟩ | ⟨b, cur, rfl, hb, hsz, hle, ht⟩
   ·exact .inl (by simpa using hl)
   ·refine .inr ⟨b, 0, cur, E, (0, 0), rfl, hb, fun j hj => ?_⟩
    rw [← ht] at hj ⊢
    rw [List.length_take] at hj
    rw [List.getElem?_take_of_lt (by omega)]
    simp
  have hnc := nextcap_le (len + m) cap hlt
  have hnb : Builtin.nextslicecap (len + m) cap * by' ≤ 281474976710656 := Nat.le_trans (Nat.mul_le_mul_right by' hnc) hby
  have hk1 : ¬ (281474976710656 < Builtin.nextslicecap (len + m) cap * by') := by omega
  let q := Question.appendCap (len + m) cap E
  let nc := q.cut (w.tape w.drawn q)
  have hncge : len + m ≤ nc := by show len + m ≤ (len + m) + _; omega
  have hst1 : St w0 w.drew A I := hst.drew
  have hfo := run_firstCells (P := P) (w := w.drew) (a2 := a) (cs := cells) (sz := sz) (m := len) hcs hl cap
  have hfn := run_firstCells (P := P) (w := w.drew) (a2 := a2) (cs := cells2) (sz := sz) (m := m) (hc2 w hst) hl2 cap2
  obtain ⟨zv1, hzv1, hzc1⟩ := run_zero (P := P) (t := E) w.drew
  have hzl : zv1.cells.size = sz := by
   have h2 := TyI.zl (P := P) (t := E)
   rw [← h2, ← hzc1]; simp
  let rest := Builtin.zeroCells zv1.cells (nc - (len + m))
  have hrl : rest.size = (nc - (len + m)) * sz := by simp [rest, Builtin.zeroCells, hzl]
  let cur' : Array Value := cells.toArray ++ cells2.toArray ++ rest
  refine ⟨.slice (some ⟨w.heap.size, 0, none⟩) (len + m) nc, w.drew.alloc (.cells cur' E), u (Row (some ⟨w.heap.size, 0, none⟩) nc (len + m) E sz (cells ++ cells2)), I, ?_, ⟨_, nc, rfl, rfl, rfl⟩, ?_⟩
  ·have hb0' : by' ≠ 0 := Nat.ne_of_beq_eq_false hb0
   have hfd : (Question.appendCap (len + m) cap E).forced = false := rfl
   obtain ⟨inf1, hinf1, hbyt1⟩ := run_bytes (P := P) (t := E) w.drew
   simp [execOp, resolve, invoke, builtin, hf.eval hx, hf.eval hy, Builtin.append_, run_und (P := P) (t := t), run_und (P := P) (t := ty), run_size (P := P) (t := E), Builtin.lenOf, hroom, hinf, hbyt, hk1, hb0', hfd, hinf1, hfo, hfn, hzv1, newRow]
   refine ⟨rfl, ?_⟩
   simp only [cur', rest, Array.append_assoc]
   rfl
  ·have hsize : cur'.size = nc * sz := by
    simp only [cur', Array.size_append, List.size_toArray, hl, hl2, hrl]
    rw [← hmul, ← Nat.add_mul]
    congr 1
    omega
   refine SelR.swap (a := a) (w := w.drew) hst1 nc (len + m) (cells ++ cells2) cur' (by rw [List.length_append, hl, hl2, hmul]) hsize hncge ?_
   simp only [cur', Array.toList_append, hmul]
   rw [List.take_append, List.take_of_length_le (by simp; omega)]
   simp [hl, hl2]
/-- 'append(x, ys...)', ys only read. -/
theorem opg_appendS {α : Type} [Enc α] {ys : List α} {i0 : Nat} [SelR A a cap len E i0 cells u] [TyI P t (.slice E) s by_ z] [TyI P ty (.slice e) s by_ z] [TyI P E d' i0 by' z'] (hx : ev F x = some (.slice a len cap)) (hy : ev F y = some (.slice a2 m cap2)) (hs : SlAt I a2 ys) (hm : m = ys.length) (hz : Enc.sz α = i0)
  (hby : (2 * (len + m) + 768) * by' ≤ 281474976710656) (hb0 : Nat.beq by' 0 = false) :
  OpG P w0 n ⟨dst, .call ⟨.builtin .append, #[x, y], #[t, ty]⟩, ty, pos, af, gd⟩ F A I (fun v A' I' => ∃ a' cap', v = .slice a' (len + m) cap' ∧ A' = u (Row a' cap' (len + m) E i0 (cells ++ encs ys)) ∧ I = I') :=
 opg_append_of hx hy (by rw [encs_length, hm, hz]) (encs_one ys) (fun w hw => hs.cellsOf hw) hby hb0
/-- 'append(x, y1, ..)': the elements lie in a new block. -/
theorem opg_appendB {b i0 : Nat} {T : TypeId} {cs : List Value} {v : List Value → List Asrt} [Sel A b cs T v] [SelR A a cap len E i0 cells u] [TyI P t (.slice E) s by_ z] [TyI P ty (.slice e) s by_ z] [TyI P E d' i0 by' z'] (hx : ev F x = some (.slice a len cap)) (hy : ev F y = some (.slice (some ⟨b, 0, none⟩) m cap2)) (hm : cs.length = m * i0) (h1 : cs.all (·.oneCell') = true)
  (hby : (2 * (len + m) + 768) * by' ≤ 281474976710656) (hb0 : Nat.beq by' 0 = false) :
  OpG P w0 n ⟨dst, .call ⟨.builtin .append, #[x, y], #[t, ty]⟩, ty, pos, af, gd⟩ F A I (fun v A' I' => ∃ a' cap', v = .slice a' (len + m) cap' ∧ A' = u (Row a' cap' (len + m) E i0 (cells ++ cs)) ∧ I = I') :=
 opg_append_of hx hy hm h1 (fun w hw => box_cellsOf hw) hby hb0
theorem tri_rowEq {len' : Nat} {cells' : List Value} {K : Act → World → Prop} (hl : len = len') (hc : cells = cells') (h : Tri w0 n F (Row a cap len' E sz cells' :: A) I K) : Tri w0 n F (Row a cap len E sz cells :: A) I K := by subst hl; subst hc; exact h
end
end Go.GL


namespace Go.GL
/-! ### Short names of steps -/
section
variable {w0 : World} {n : Nat} {F : Frm} {A : List Asrt} {I : List Chunk} {P : Program} {d : Tmp} {dst : Option Tmp} {ops : Array Oper} {rest : List Oper} {Q : Exit → Act → World → Prop} {x y : Operand} {v : Value} {ty : TypeId} {pos : String} {af : Array Edge} {K : Act → World → Prop}
theorem tM (hx : ev F x = some v) (hn : Nat.blt d n = true) (k : Tri w0 n ((d, v) :: F) A I (wpList P ops Q rest)) : Tri w0 n F A I (wpList P ops Q (⟨some d, .move x, ty, pos, af, none⟩ :: rest)) := tri_v (opv_move hx) hn k
theorem tA (hx : ev F x = some v) (hn : Nat.blt d n = true) (k : Tri w0 n ((d, v) :: F) A I (wpList P ops Q rest)) : Tri w0 n F A I (wpList P ops Q (⟨some d, .assign x, ty, pos, af, none⟩ :: rest)) := tri_v (opv_assign hx) hn k
theorem tT (h : Tri w0 n F A I K) : Tri w0 n F A I (Exit.then K Q .normal) := h
theorem tS {x y : Code} (h : Tri w0 n F A I (Code.wp P x (Exit.then (Code.wp P y Q) Q))) : Tri w0 n F A I (Code.wp P (.seq x y) Q) := tri_seq h
theorem tR {id : Nat} {l : List Oper} (h : Tri w0 n F A I (wpList P l.toArray Q l)) : Tri w0 n F A I (Code.wp P (.region id l.toArray false) Q) := tri_region h
theorem tN (h : Tri w0 n F A I (Q .normal)) : Tri w0 n F A I (wpList P ops Q []) := h
theorem tU {a b : Int} {xt yt : TypeId} (hx : ev F x = some (.int .i64 a)) (hy : ev F y = some (.int .i64 b)) (h1 : -9223372036854775808 ≤ a + b) (h2 : a + b ≤ 9223372036854775807) (hn : Nat.blt d n = true) (k : Tri w0 n ((d, .int .i64 (a + b)) :: F) A I (wpList P ops Q rest)) : Tri w0 n F A I (wpList P ops Q (⟨some d, .binOp .add xt x y yt, ty, pos, af, none⟩ :: rest)) := tri_v (opv_add hx hy (w64 h1 h2)) hn k
theorem yU {a b : Int} {xt yt : TypeId} (hx : ev F x = some (.int .i64 a)) (hy : ev F y = some (.int .i64 b)) (k : Tri w0 n ((d, .int .i64 (a + b)) :: F) A I (wpList P ops Q rest)) (h1 : -9223372036854775808 ≤ a + b := by omega) (h2 : a + b ≤ 9223372036854775807 := by omega) (hn : Nat.blt d n = true := by exact rfl) : Tri w0 n F A I (wpList P ops Q (⟨some d, .binOp .add xt x y yt, ty, pos, af, none⟩ :: rest)) := tri_v (opv_add hx hy (w64 h1 h2)) hn k
section
variable {B : List Asrt} {J : List Chunk} {i j dj : Nat} {b c : Bool} {ord : List Nat} {listed : Array Bool} {op : Op}
theorem yM (ho : ops[i]? = some ⟨some d, .move x, ty, pos, af, none⟩) (hx : ev F x = some v) [hQ : QP Q] (k : TriH P w0 n ops Q B J ord (listed.setIfInBounds i true) ((d, v) :: F) A I) (hn : Nat.blt d n = true := by exact rfl)
  (hfree : (Region.noSelect ops && Region.free .any ops listed i && (Region.ready .any ops listed).contains i) = true := by kernel_rfl) : TriH P w0 n ops Q B J (i :: ord) listed F A I := th_take ho hn hfree (opv_move hx) k
theorem yA (ho : ops[i]? = some ⟨some d, .assign x, ty, pos, af, none⟩) (hx : ev F x = some v) [hQ : QP Q] (k : TriH P w0 n ops Q B J ord (listed.setIfInBounds i true) ((d, v) :: F) A I) (hn : Nat.blt d n = true := by exact rfl)
  (hfree : (Region.noSelect ops && Region.free .any ops listed i && (Region.ready .any ops listed).contains i) = true := by kernel_rfl) : TriH P w0 n ops Q B J (i :: ord) listed F A I := th_take ho hn hfree (opv_assign hx) k
theorem yE {vs : List Value} {q : Nat} (ho : ops[i]? = some ⟨some d, .extract x q, ty, pos, af, none⟩) (hx : ev F x = some (.tuple vs.toArray)) (hi : vs[q]? = some v) [hQ : QP Q] (k : TriH P w0 n ops Q B J ord (listed.setIfInBounds i true) ((d, v) :: F) A I) (hn : Nat.blt d n = true := by exact rfl)
  (hfree : (Region.noSelect ops && Region.free .any ops listed i && (Region.ready .any ops listed).contains i) = true := by kernel_rfl) : TriH P w0 n ops Q B J (i :: ord) listed F A I := th_take ho hn hfree (opv_extract hx hi) k
theorem yS (ho : ops[i]? = some ⟨some d, op, ty, pos, af, some (j, c)⟩) (hj : (ops[j]?).bind (·.dst) = some dj) (hv : look F dj = some (.bool b)) [hQ : QP Q] (k : TriH P w0 n ops Q B J ord (listed.setIfInBounds i true) ((d, undef) :: F) A I) (hn : Nat.blt d n = true := by exact rfl) (hbc : (b == c) = false := by exact rfl)
  (hfree : (Region.noSelect ops && Region.free .any ops listed i && (Region.ready .any ops listed).contains i) = true := by kernel_rfl) : TriH P w0 n ops Q B J (i :: ord) listed F A I := th_skip ho hn hj hv hbc hfree k
theorem yf {t : TypeId} {q fo ft off bb s' by' : Nat} {d' : TypeDesc} {z' : List Value} [hF : FldI P t q fo ft] [TyI P ft d' s' by' z'] (ho : ops[i]? = some ⟨some d, .fieldAddr t x q, ty, pos, af, none⟩) (hx : ev F x = some (pt bb off)) [hQ : QP Q] (k : TriH P w0 n ops Q B J ord (listed.setIfInBounds i true) ((d, pt bb (off + fo)) :: F) A I) (h0 : Nat.beq s' 0 = false := by exact rfl) (hn : Nat.blt d n = true := by exact rfl)
  (hfree : (Region.noSelect ops && Region.free .any ops listed i && (Region.ready .any ops listed).contains i) = true := by kernel_rfl) : TriH P w0 n ops Q B J (i :: ord) listed F A I := th_take ho hn hfree (opv_fieldAddr hx h0) k
theorem yl {t T : TypeId} {off bb s' by' : Nat} {d' : TypeDesc} {z' cells : List Value} {u : List Value → List Asrt} [TyI P t d' s' by' z'] [Sel B bb cells T u] (ho : ops[i]? = some ⟨some d, .load t x, ty, pos, af, none⟩) (hx : ev F x = some (pt bb off)) (hc : cells[off]? = some v) [hQ : QP Q] (k : TriH P w0 n ops Q B J ord (listed.setIfInBounds i true) ((d, v) :: F) A I) (hd : isA d' = false := by exact rfl) (hn : Nat.blt d n = true := by exact rfl)
  (hfree : (Region.noSelect ops && Region.free .any ops listed i && (Region.ready .any ops listed).contains i) = true := by kernel_rfl) : TriH P w0 n ops Q B J (i :: ord) listed F A I := th_take ho hn hfree (opv_load1 hx hd hc) k
theorem yn {a : Addr} (ho : ops[i]? = some ⟨some d, .nilCheck x, ty, pos, af, none⟩) (hx : ev F x = some (.pointer (some a))) [hQ : QP Q] (k : TriH P w0 n ops Q B J ord (listed.setIfInBounds i true) ((d, .pointer (some a)) :: F) A I) (hn : Nat.blt d n = true := by exact rfl)
  (hfree : (Region.noSelect ops && Region.free .any ops listed i && (Region.ready .any ops listed).contains i) = true := by kernel_rfl) : TriH P w0 n ops Q B J (i :: ord) listed F A I := th_take ho hn hfree (opv_nilCheck hx) k
theorem yD (k : Tri w0 n F A I (Q .normal)) (hr : Region.ready .any ops listed = [] := by kernel_rfl) : TriH P w0 n ops Q B J [] listed F A I := th_done hr k
theorem yR (hj : (ops[j]?).bind (·.dst) = some dj) (hv : look F dj = some (.bool b)) (k : Tri w0 n F A I (wpList P ops Q (⟨dst, op, ty, pos, af, none⟩ :: rest))) (hbc : (b == c) = true := by exact rfl) : Tri w0 n F A I (wpList P ops Q (⟨dst, op, ty, pos, af, some (j, c)⟩ :: rest)) := tri_guard_run hj hv hbc k
end
theorem yL {t T : TypeId} {off bb s' by' : Nat} {d' : TypeDesc} {z' cells : List Value} {u : List Value → List Asrt} [TyI P t d' s' by' z'] [Sel A bb cells T u] (hx : ev F x = some (pt bb off)) (hc : cells[off]? = some v) (k : Tri w0 n ((d, v) :: F) A I (wpList P ops Q rest)) (hd : isA d' = false := by exact rfl) (hn : Nat.blt d n = true := by exact rfl) : Tri w0 n F A I (wpList P ops Q (⟨some d, .load t x, ty, pos, af, none⟩ :: rest)) := tri_v (opv_load1 hx hd hc) hn k
theorem yB {t T : TypeId} {off bb s' by' : Nat} {d' : TypeDesc} {z' cells vs : List Value} {u : List Value → List Asrt} [TyI P t d' s' by' z'] [Sel A bb cells T u] (hx : ev F x = some (pt bb off)) (hc : tk cells off s' = some vs) (k : Tri w0 n ((d, .agg vs.toArray) :: F) A I (wpList P ops Q rest)) (hd : isA d' = true := by exact rfl) (hn : Nat.blt d n = true := by exact rfl) : Tri w0 n F A I (wpList P ops Q (⟨some d, .load t x, ty, pos, af, none⟩ :: rest)) := tri_v (opv_loadA hx hd hc) hn k
theorem yC {kd : IntKind} {a b : Int} {xt yt : TypeId} (hx : ev F x = some (.int kd a)) (hy : ev F y = some (.int kd b)) (k : Tri w0 n ((d, .bool (decide (a < b))) :: F) A I (wpList P ops Q rest)) (hn : Nat.blt d n = true := by exact rfl) : Tri w0 n F A I (wpList P ops Q (⟨some d, .binOp .lss xt x y yt, ty, pos, af, none⟩ :: rest)) := tri_v (opv_lss hx hy) hn k
theorem yG {t T : TypeId} {off bb s' by' : Nat} {d' : TypeDesc} {z' cells vs c' : List Value} {u : List Value → List Asrt} [TyI P t d' s' by' z'] [Sel A bb cells T u] (hx : ev F x = some (pt bb off)) (hy : ev F y = some v) (hv : v.cells = vs.toArray) (hl : vs.length = s') (h1 : vs.all (·.oneCell') = true) (hc : spl cells off vs = some c')
  (k : ∀ v' A' I', (A' = u c' ∧ I = I') → Tri w0 n (putF dst v' F) A' I' (wpList P ops Q rest)) (hn : dOk n ⟨dst, .store t x y, ty, pos, af, none⟩ = true := by exact rfl) : Tri w0 n F A I (wpList P ops Q (⟨dst, .store t x y, ty, pos, af, none⟩ :: rest)) := tri_g (opg_store hx hy hv hl h1 hc) hn k
theorem yF {t : TypeId} {q fo ft off bb s' by' : Nat} {d' : TypeDesc} {z' : List Value} [hF : FldI P t q fo ft] [TyI P ft d' s' by' z'] (hx : ev F x = some (pt bb off)) (k : Tri w0 n ((d, pt bb (off + fo)) :: F) A I (wpList P ops Q rest)) (h0 : Nat.beq s' 0 = false := by exact rfl) (hn : Nat.blt d n = true := by exact rfl) : Tri w0 n F A I (wpList P ops Q (⟨some d, .fieldAddr t x q, ty, pos, af, none⟩ :: rest)) := tri_v (opv_fieldAddr hx h0) hn k
end
end Go.GL

set_option linter.unusedSimpArgs false
namespace Go.GL

/-- Where a struct's fields lie. -/
class TyF (P : Program) (t : TypeId) (pl : outParam (List (Nat × Nat))) : Prop where
 h : ∃ fs, P.underlying t = some (.struct fs) ∧ fs.toList.map (fun f => (f.offset, (P.info? f.type).map (·.size))) = pl.map (fun p => (p.1, some p.2))

def evp (F : Frm) : List (Nat × Operand) → Option (List (Nat × List Value))
 | [] => some []
 | (i, x) :: ps => match ev F x, evp F ps with | some v, some r => some ((i, v.cells.toList) :: r) | _, _ => none
def evv (F : Frm) : List (Nat × Operand) → Option (List (Nat × Value))
 | [] => some []
 | (i, x) :: ps => match ev F x, evv F ps with | some v, some r => some ((i, v) :: r) | _, _ => none
theorem evp_evv {F : Frm} : ∀ {ps : List (Nat × Operand)} {r : List (Nat × List Value)}, evp F ps = some r → ∃ vs, evv F ps = some vs ∧ r = vs.map fun p => (p.1, p.2.cells.toList)
 | [], r, h => ⟨[], rfl, by simpa [evp] using h.symm⟩
 | (i, x) :: ps, r, h => by
  simp only [evp] at h
  split at h
  ·rename_i v r' h1 h2
   obtain ⟨vs, h3, rfl⟩ := evp_evv h2
   simp only [Option.some.injEq] at h
   subst h
   exact ⟨(i, v) :: vs, by simp [evv, h1, h3], by simp⟩
  ·simp at h
theorem evv_eval {F : Frm} {n : Nat} {t : Array Value} (hf : Fr t n F) : ∀ {ps : List (Nat × Operand)} {vs : List (Nat × Value)}, evv F ps = some vs → ps.map (fun (i, x) => (i, Act.eval ⟨t, []⟩ x)) = vs
 | [], vs, h => by simpa [evv] using h
 | (i, x) :: ps, vs, h => by
  simp only [evv] at h
  split at h
  ·rename_i v r h1 h2
   simp only [Option.some.injEq] at h
   subst h
   simp [hf.eval h1, evv_eval hf h2]
  ·simp at h
def bld (pl : Nat → Option (Nat × Nat)) : List Value → List (Nat × List Value) → Option (List Value)
 | cells, [] => some cells
 | cells, (i, vs) :: r => match pl i with
  | none => none
  | some (off, sz) => match Nat.beq vs.length sz, spl cells off vs with
   | true, some c => bld pl c r
   | _, _ => none
theorem foldl_set (off : Nat) : ∀ (vs : List Value) (j : Nat) (cs : Array Value), off + j + vs.length ≤ cs.size →
  (vs.zipIdx j).foldl (fun (cs : Array Value) (x : Value × Nat) => cs.setIfInBounds (off + x.2) x.1) cs = (cs.toList.take (off + j) ++ vs ++ cs.toList.drop (off + j + vs.length)).toArray
 | [], j, cs, _ => by apply Array.ext'; simp
 | v :: vs, j, cs, h => by
  simp only [List.length_cons] at h
  simp only [List.zipIdx_cons, List.foldl_cons]
  rw [foldl_set off vs (j + 1) _ (by simp; omega)]
  apply Array.ext'
  have hset : (cs.setIfInBounds (off + j) v).toList = cs.toList.take (off + j) ++ v :: cs.toList.drop (off + j + 1) := by
   rw [Array.toList_setIfInBounds, List.set_eq_take_append_cons_drop, if_pos (by simp; omega)]
  have hl : (cs.toList.take (off + j)).length = off + j := by simp; omega
  simp only [hset, List.length_cons]
  rw [show off + (j + 1) = (off + j) + 1 by omega, List.take_append, hl]
  simp only [show off + j + 1 - (off + j) = 1 by omega, List.take_succ_cons, List.take_zero]
  rw [List.take_of_length_le (by omega)]
  simp only [List.append_assoc, List.cons_append, List.nil_append]
  congr 2
  rw [List.drop_append, hl, List.drop_of_length_le (by omega), List.nil_append, show off + j + 1 + vs.length - (off + j) = vs.length + 1 by omega, List.drop_succ_cons, List.drop_drop]
  congr 2
  omega
theorem fill_bld {pl : Nat → Option (Nat × Nat)} : ∀ {vs : List (Nat × Value)} {cells r : List Value}, bld pl cells (vs.map fun p => (p.1, p.2.cells.toList)) = some r → Instr.fill pl cells.toArray vs = some r.toArray
 | [], cells, r, h => by simp [bld] at h; simp [Instr.fill, h]
 | (i, v) :: vs, cells, r, h => by
  simp only [List.map_cons, bld] at h
  cases hp : pl i with
  | none => simp [hp] at h
  | some q =>
   obtain ⟨off, sz⟩ := q
   simp only [hp] at h
   split at h
   ·rename_i c hb hs
    have hb' := Nat.eq_of_beq_eq_true hb
    obtain ⟨h1, h2⟩ := spl_spec hs
    have hsz : v.cells.size = sz := by simpa using hb'
    have hle : off + v.cells.size ≤ cells.length := by simpa using h1
    have := fill_bld h
    simp only [Instr.fill, hp, hsz]
    rw [if_neg (by simp only [List.size_toArray, ne_eq, not_true_eq_false, decide_false, Bool.false_or, decide_eq_true_eq]; omega)]
    have hfold := foldl_set off v.cells.toList 0 cells.toArray (by simpa using hle)
    have e : v.cells.zipIdx.foldl (fun (cs : Array Value) (x : Value × Nat) => cs.setIfInBounds (off + x.2) x.1) cells.toArray = c.toArray := by
     rw [← Array.foldl_toList, Array.toList_zipIdx, hfold, h2]
     simp
    rw [e]
    exact this
   ·simp at h

section
variable {w0 : World} {n : Nat} {F : Frm} {A : List Asrt} {I : List Chunk} {P : Program}
variable {dst : Option Tmp} {ty : TypeId} {pos : String} {af : Array Edge} {gd : Option (Nat × Bool)}
variable {t e : TypeId} {d d' : TypeDesc} {s by_ s' by' : Nat} {z z' : List Value} {x y ix : Operand} {a a2 : Option Addr} {len cap m cap2 : Nat}

theorem opv_buildS {pl : List (Nat × Nat)} {ps : List (Nat × Operand)} {vs : List (Nat × List Value)} {cells : List Value} [TyI P t d s by_ z] [hF : TyF P t pl] (hps : evp F ps = some vs) (hb : bld (pl[·]?) z vs = some cells) : OpV P w0 n ⟨dst, .build t ps.toArray, ty, pos, af, gd⟩ F A I (.agg cells.toArray) := by
 intro tt w hf hs
 obtain ⟨us, h1, rfl⟩ := evp_evv hps
 have he := evv_eval hf h1
 obtain ⟨zv, hz, hzc⟩ := run_zero (P := P) (t := t) w
 obtain ⟨fs, hfs, hpl⟩ := hF.h
 have hfill := fill_bld hb
 have hzc' : zv.cells = z.toArray := by rw [← hzc]
 have hplace : ∀ (fs : List Field) (pl : List (Nat × Nat)), fs.map (fun f => (f.offset, (P.info? f.type).map (·.size))) = pl.map (fun p => (p.1, some p.2)) → ((fs.mapM fun f => do pure (f.offset, ← sizeOf f.type) : Sem (List (Nat × Nat))).run P w = .ok pl w) := by
  intro fs
  induction fs with
  | nil => intro pl h; cases pl <;> simp_all
  | cons f fs ih =>
   intro pl h
   cases pl with
   | nil => simp at h
   | cons p pl =>
    simp only [List.map_cons, List.cons.injEq, Prod.mk.injEq] at h
    obtain ⟨⟨h1, h2⟩, h3⟩ := h
    have hsz : (sizeOf f.type).run P w = .ok p.2 w := by
     cases hi : P.info? f.type with
     | none => simp [hi] at h2
     | some i => simp [sizeOf, typeInfo, hi]; simpa [hi] using h2
    rw [List.mapM_cons, Sem.run_bind, Sem.run_bind, hsz, Result.andThen_ok, Sem.run_pure, Result.andThen_ok, Sem.run_bind, ih pl h3, Result.andThen_ok, Sem.run_pure, h1]
 have hp := hplace fs.toList pl hpl
 have hpA : ((fs.mapM fun f => do pure (f.offset, ← sizeOf f.type) : Sem (Array (Nat × Nat))).run P w = .ok pl.toArray w) := by
  have : fs = fs.toList.toArray := by simp
  rw [this, List.mapM_toArray, Sem.run_map, hp]
  simp
 simp only [execOp, Instr.build, Sem.run_bind, hz, Result.andThen_ok, run_underlying hfs, hpA, List.map_toArray, he, hzc']
 have hfill' : Instr.fill (fun x => pl.toArray[x]?) z.toArray us = some cells.toArray := by simpa using hfill
 simp only [List.toList_toArray, hfill', Sem.run_pure, Result.andThen_ok]
theorem opv_buildA {l2 : Nat} {ps : List (Nat × Operand)} {vs : List (Nat × List Value)} {cells : List Value} [TyI P t (.array l2 e) s by_ z] [TyI P e d' s' by' z'] (hps : evp F ps = some vs) (hb : bld (fun i => some (i * s', s')) z vs = some cells) : OpV P w0 n ⟨dst, .build t ps.toArray, ty, pos, af, gd⟩ F A I (.agg cells.toArray) := by
 intro tt w hf hs
 obtain ⟨us, h1, rfl⟩ := evp_evv hps
 have he := evv_eval hf h1
 obtain ⟨zv, hz, hzc⟩ := run_zero (P := P) (t := t) w
 have hfill := fill_bld hb
 have hzc' : zv.cells = z.toArray := by rw [← hzc]
 simp only [execOp, Instr.build, Sem.run_bind, hz, Result.andThen_ok, run_und (P := P) (t := t), run_size (P := P) (t := e), List.map_toArray, he, hzc', hfill, Sem.run_pure]
def reps : Nat → List Value → List Value
 | 0, _ => []
 | k + 1, z => z ++ reps k z
theorem reps_length (z : List Value) : ∀ k, (reps k z).length = k * z.length
 | 0 => by simp [reps]
 | k + 1 => by rw [reps, List.length_append, reps_length z k, Nat.succ_mul]; omega
theorem reps_get (z : List Value) (hz : 0 < z.length) : ∀ k j, j < k * z.length → (reps k z)[j]? = z[j % z.length]?
 | 0, j, h => by omega
 | k + 1, j, h => by
  rw [reps]
  by_cases hj : j < z.length
  ·rw [List.getElem?_append_left hj, Nat.mod_eq_of_lt hj]
  ·rw [List.getElem?_append_right (by omega), reps_get z hz k (j - z.length) (by rw [Nat.succ_mul] at h; omega)]
   congr 1
   rw [Nat.mod_eq_sub_mod (a := j) (by omega)]
theorem opg_buildSlice {k : Nat} {ps : List (Nat × Operand)} {vs : List (Nat × List Value)} {cells : List Value} [TyI P t (.slice e) s by_ z] [TyI P e d' s' by' z'] (hk : Nat.ble (k * s') 1000 = true) (hs0 : Nat.blt 0 s' = true) (hps : evp F ps = some vs) (hb : bld (fun i => some (i * s', s')) (reps k z') vs = some cells) :
  OpG P w0 n ⟨dst, .buildSlice t k ps.toArray, ty, pos, af, gd⟩ F A I (fun v A' I' => ∃ b, v = .slice (some ⟨b, 0, none⟩) k k ∧ A' = Box b cells e :: A ∧ I = I') := by
 refine opg_run fun tt w hf hst => ?_
 obtain ⟨us, h1, rfl⟩ := evp_evv hps
 have he := evv_eval hf h1
 have hs0' : 0 < s' := Nat.le_of_ble_eq_true hs0
 have hk' : k * s' ≤ 1000 := Nat.le_of_ble_eq_true hk
 obtain ⟨zv, hz, hzc⟩ := run_zero (P := P) (t := e) w
 have hzl : z'.length = s' := Nat.eq_of_beq_eq_true (by simpa using TyI.zl (P := P) (t := e))
 have hfill := fill_bld hb
 have hzsz : zv.cells.size = s' := by rw [← hzl, ← hzc]; simp
 refine ⟨_, w.alloc (.cells cells.toArray e), _, I, ?_, ⟨w.heap.size, rfl, rfl, rfl⟩, hst.alloc _⟩
 have hcells : ((Array.range (k * s')).map (fun j => zv.cells[j % zv.cells.size]!)) = (reps k z').toArray := by
  apply Array.ext'
  simp only [Array.toList_map, Array.toList_range]
  apply List.ext_getElem?
  intro j
  by_cases hj : j < k * s'
  ·rw [List.getElem?_map, List.getElem?_range hj, reps_get z' (by omega) k j (by rw [hzl]; exact hj)]
   have hm : j % s' < s' := Nat.mod_lt _ hs0'
   rw [Option.map_some, hzsz, hzl, ← hzc, Array.getElem?_toList, getElem!_pos zv.cells (j % s') (by omega), Array.getElem?_eq_getElem (by omega)]
  ·rw [List.getElem?_eq_none (by simp; omega), List.getElem?_eq_none (by rw [reps_length, hzl]; omega)]
 have hlim : ¬ (16777216 < k * s') := by omega
 by_cases h0 : k * s' = 0
 ·have hk0 : k = 0 := by
   rcases Nat.eq_zero_or_pos k with h | h
   ·exact h
   ·have := Nat.mul_pos h hs0'; omega
  subst hk0
  have hr0 : reps 0 z' = [] := rfl
  rw [hr0] at hfill
  simp [execOp, Instr.buildSlice, run_und (P := P) (t := t), run_size (P := P) (t := e), he, newRow, Array.range_zero', hfill]
 ·have hr : (Array.map (fun x => zv.cells[x % zv.cells.size]!) (Array.range (k * s'))) = (reps k z').toArray := hcells
  simp [execOp, Instr.buildSlice, run_und (P := P) (t := t), run_size (P := P) (t := e), he, newRow, hlim, hz, h0, hr, hfill]
end
end Go.GL


set_option linter.unusedSimpArgs false
namespace Go.GL

/-! ### Equality of values that are whole numbers alone -/
def ints (xs : List Int) : List Value := xs.map (.int .i64)
def intFs (r : TypeId → Option Nat) (P : Program) : List Field → Nat → Option Nat
 | [], off => some off
 | f :: fs, off => match (f.name == "_"), Nat.beq f.offset off, r f.type with
  | false, true, some k => if P.cellsOf f.type = k then intFs r P fs (off + k) else none
  | _, _, _ => none
/-- How many whole numbers a value of a type is made of. -/
def intAt (P : Program) : Nat → TypeId → Option Nat
 | 0, _ => none
 | m + 1, t => match P.underlying t with
  | some (.int .i64) => some 1
  | some (.array n e) => match intAt P m e with | some k => if P.cellsOf e = k ∧ (P.info? e).isSome = true then some (n * k) else none | none => none
  | some (.struct fs) => if P.stoodInHeld t then none else intFs (intAt P m) P fs.toList 0
  | _ => none
def mkv (P : Program) (t : TypeId) (xs : List Int) : Value := match P.underlying t with
 | some (.int .i64) => .int .i64 (xs.headD 0)
 | _ => .agg (ints xs).toArray
section
variable {P : Program}
theorem info_of {t : TypeId} {d : TypeDesc} (h : P.underlying t = some d) : ∃ i, P.info? t = some i := by
 unfold Program.underlying at h
 cases hi : P.info? t with
 | none => simp [hi] at h
 | some i => exact ⟨i, rfl⟩
theorem run_part_int {m : Nat} {e : TypeId} {k off : Nat} {xs : List Int} (he : intAt P m e = some k) (hk : P.cellsOf e = k) (hle : off + k ≤ xs.length) (w : World) : (part e (ints xs).toArray off).run P w = .ok (mkv P e ((xs.drop off).take k)) w := by
 cases m with
 | zero => simp [intAt] at he
 | succ m =>
  unfold intAt at he
  have hagg : ∀ d, P.underlying e = some d → isA d = true → (∀ kd, d ≠ .int kd) → (part e (ints xs).toArray off).run P w = .ok (mkv P e ((xs.drop off).take k)) w := by
   intro d hd ha hne
   obtain ⟨i, hi⟩ := info_of hd
   have h1 : (isAgg e).run P w = .ok true w := by
    unfold isAgg
    rw [Sem.run_bind, run_underlying hd]
    cases d <;> simp_all [isA]
   have h2 : (sizeOf e).run P w = .ok k w := by rw [run_sizeOf w hi, hk]
   have h3 : mkv P e ((xs.drop off).take k) = .agg (ints ((xs.drop off).take k)).toArray := by
    unfold mkv
    rw [hd]
    cases d <;> simp_all [isA]
   simp only [part, Sem.run_bind, h1, Result.andThen_ok, if_true, h2, Sem.run_pure, h3]
   congr 2
   apply Array.ext'
   simp [List.extract, ints, List.map_take, List.map_drop]
  cases hu : P.underlying e with
  | none => simp [hu] at he
  | some d =>
   cases d <;> simp only [hu] at he <;> try (simp at he; done)
   case int kd =>
    cases kd <;> simp at he
    subst he
    have h1 : (isAgg e).run P w = .ok false w := by
     unfold isAgg
     rw [Sem.run_bind, run_underlying hu]
     rfl
    have hlt : off < xs.length := by omega
    have hv : (ints xs).toArray[off]? = some (.int .i64 xs[off]) := by simp [ints, hlt]
    have h3 : mkv P e ((xs.drop off).take 1) = .int .i64 xs[off] := by
     have e0 : (xs.drop off).take 1 = [xs[off]] := by rw [List.drop_eq_getElem_cons hlt]; rfl
     rw [e0]
     unfold mkv
     rw [hu]
     rfl
    simp [part, h1, hv, h3]
   case array n e' => exact hagg _ hu rfl (by simp)
   case struct fs => exact hagg _ hu rfl (by simp)
theorem equal_int : ∀ (m : Nat) (t : TypeId) (k : Nat), intAt P m t = some k → ∀ (d : Nat) (xs ys : List Int), xs.length = k → ys.length = k → ∀ w, (Op.equalIn (d + m) t (mkv P t xs) (mkv P t ys)).run P w = .ok (decide (xs = ys)) w
 | 0, t, k, h => by simp [intAt] at h
 | m + 1, t, k, h => by
  intro d xs ys hx hy w
  have h0 := h
  unfold intAt at h
  cases hu : P.underlying t with
  | none => simp [hu] at h
  | some ds =>
   cases ds <;> simp only [hu] at h <;> try (simp at h; done)
   case int kd =>
    cases kd <;> simp at h
    subst h
    obtain ⟨a, rfl⟩ := List.length_eq_one_iff.1 hx
    obtain ⟨b, rfl⟩ := List.length_eq_one_iff.1 hy
    simp [mkv, hu, Op.equalIn, run_underlying hu, beqd]
   case array n e =>
    split at h
    ·rename_i ke he
     split at h
     ·rename_i hc
      simp only [Option.some.injEq] at h
      subst h
      obtain ⟨i, hi⟩ := Option.isSome_iff_exists.1 hc.2
      have hm1 : mkv P t xs = .agg (ints xs).toArray := by simp [mkv, hu]
      have hm2 : mkv P t ys = .agg (ints ys).toArray := by simp [mkv, hu]
      rw [hm1, hm2, show d + (m + 1) = (d + m) + 1 from rfl, run_equalIn_array w (d + m) _ _ hu hi]
      have key : ∀ (q i : Nat), i + q = n → ∀ w, (Op.eqItems (d + m) e (P.cellsOf e) (ints xs).toArray (ints ys).toArray (List.range' i q)).run P w = .ok (decide (xs.drop (i * ke) = ys.drop (i * ke))) w := by
       intro q
       induction q with
       | zero =>
        intro i hi w
        have e1 : xs.drop (i * ke) = [] := List.drop_of_length_le (by rw [hx]; exact Nat.mul_le_mul_right ke (by omega))
        have e2 : ys.drop (i * ke) = [] := List.drop_of_length_le (by rw [hy]; exact Nat.mul_le_mul_right ke (by omega))
        simp [Op.eqItems, e1, e2]
       | succ q ih =>
        intro i hi w
        have hb : (i + 1) * ke ≤ n * ke := Nat.mul_le_mul_right ke (by omega)
        rw [Nat.succ_mul] at hb
        rw [List.range'_succ]
        simp only [Op.eqItems, Sem.run_bind]
        rw [hc.1, run_part_int he hc.1 (by omega) w, Result.andThen_ok, run_part_int he hc.1 (by omega) w, Result.andThen_ok, equal_int m e ke he d _ _ (by simp; omega) (by simp; omega) w, Result.andThen_ok]
        have ihw := ih (i + 1) (by omega) w
        rw [hc.1] at ihw
        have sx : xs.drop (i * ke) = (xs.drop (i * ke)).take ke ++ xs.drop ((i + 1) * ke) := by rw [Nat.succ_mul, ← List.drop_drop, List.take_append_drop]
        have sy : ys.drop (i * ke) = (ys.drop (i * ke)).take ke ++ ys.drop ((i + 1) * ke) := by rw [Nat.succ_mul, ← List.drop_drop, List.take_append_drop]
        have hiff : (xs.drop (i * ke) = ys.drop (i * ke)) ↔ ((xs.drop (i * ke)).take ke = (ys.drop (i * ke)).take ke ∧ xs.drop ((i + 1) * ke) = ys.drop ((i + 1) * ke)) := by
         constructor
         ·intro h
          refine ⟨by rw [h], ?_⟩
          rw [Nat.succ_mul, ← List.drop_drop, ← List.drop_drop, h]
         ·rintro ⟨h1, h2⟩
          rw [sx, sy, h1, h2]
        by_cases hq : (xs.drop (i * ke)).take ke = (ys.drop (i * ke)).take ke
        ·simp only [hq, decide_true, Bool.not_true, Bool.false_eq_true, if_false]
         rw [ihw]
         congr 1
         simp [hiff, hq]
        ·simp only [hq, decide_false, Bool.not_false, if_true, Sem.run_pure]
         congr 1
         simp [hiff, hq]
      have := key n 0 (by omega) w
      simpa [List.range_eq_range'] using this
     ·simp at h
    ·simp at h
   case struct fs =>
    split at h
    ·simp at h
    ·rename_i hst
     have hm1 : mkv P t xs = .agg (ints xs).toArray := by simp [mkv, hu]
     have hm2 : mkv P t ys = .agg (ints ys).toArray := by simp [mkv, hu]
     have hfs : P.fieldsOf t = fs := by simp [Program.fieldsOf, hu]
     rw [hm1, hm2, show d + (m + 1) = (d + m) + 1 from rfl, run_equalIn_struct w (d + m) t _ _ (by rw [hfs]; exact hu) (by simpa using hst), hfs]
     have key : ∀ (l : List Field) (off : Nat), intFs (intAt P m) P l off = some k → ∀ w, (Op.eqFields (d + m) (ints xs).toArray (ints ys).toArray l).run P w = .ok (decide (xs.drop off = ys.drop off)) w := by
      intro l
      induction l with
      | nil =>
       intro off ho w
       simp only [intFs, Option.some.injEq] at ho
       subst ho
       simp [Op.eqFields, ← hx, List.drop_of_length_le, hy]
      | cons f l ih =>
       intro off ho w
       simp only [intFs] at ho
       split at ho
       ·rename_i kf hn hoff hr
        split at ho
        ·rename_i hc
         have hoff' : f.offset = off := Nat.eq_of_beq_eq_true hoff
         have hn' : f.name ≠ "_" := by simpa using hn
         have hle : off + kf ≤ k := intFs_le _ _ _ _ _ ho
         have e1 : (part f.type (ints xs).toArray f.offset).run P w = .ok (mkv P f.type ((xs.drop off).take kf)) w := by rw [hoff']; exact run_part_int hr hc (by omega) w
         have e2 : (part f.type (ints ys).toArray f.offset).run P w = .ok (mkv P f.type ((ys.drop off).take kf)) w := by rw [hoff']; exact run_part_int hr hc (by omega) w
         have e3 := equal_int m f.type kf hr d ((xs.drop off).take kf) ((ys.drop off).take kf) (by simp; omega) (by simp; omega) w
         have e4 := ih (off + kf) ho w
         simp only [Op.eqFields, ne_eq, hn', not_false_eq_true, if_true, Sem.run_bind, e1, e2, e3, Result.andThen_ok]
         have sx : xs.drop off = (xs.drop off).take kf ++ xs.drop (off + kf) := by rw [← List.drop_drop, List.take_append_drop]
         have sy : ys.drop off = (ys.drop off).take kf ++ ys.drop (off + kf) := by rw [← List.drop_drop, List.take_append_drop]
         have hiff : (xs.drop off = ys.drop off) ↔ ((xs.drop off).take kf = (ys.drop off).take kf ∧ xs.drop (off + kf) = ys.drop (off + kf)) := by
          constructor
          ·intro h
           refine ⟨by rw [h], ?_⟩
           rw [← List.drop_drop, ← List.drop_drop, h]
          ·rintro ⟨h1, h2⟩
           rw [sx, sy, h1, h2]
         by_cases hq : (xs.drop off).take kf = (ys.drop off).take kf
         ·simp only [hq, decide_true, Bool.not_true, Bool.false_eq_true, if_false]
          rw [e4]
          congr 1
          simp [hiff, hq]
         ·simp only [hq, decide_false, Bool.not_false, if_true, Sem.run_pure]
          congr 1
          simp [hiff, hq]
        ·simp at ho
       ·simp at ho
     simpa using key fs.toList 0 h w
 where
 intFs_le : ∀ (r : TypeId → Option Nat) (l : List Field) (off k : Nat) (P' : Program), intFs r P' l off = some k → off ≤ k
  | r, [], off, k, P', h => by simp [intFs] at h; omega
  | r, f :: l, off, k, P', h => by
   simp only [intFs] at h
   split at h
   ·split at h
    ·have := intFs_le r l _ k P' h; omega
    ·simp at h
   ·simp at h
end

/-- A type of whole numbers alone, that is no number. -/
class IntTy (P : Program) (t : TypeId) (k : outParam Nat) : Prop where
 h : intAt P 9 t = some k
 a : ∀ xs, mkv P t xs = .agg (ints xs).toArray
 g : P.eqGuardType P.depth t = false
def toInts : List Value → Option (List Int)
 | [] => some []
 | .int .i64 x :: l => match toInts l with | some r => some (x :: r) | none => none
 | _ => none
theorem toInts_spec : ∀ {l : List Value} {r : List Int}, toInts l = some r → l = ints r
 | [], r, h => by simp [toInts] at h; subst h; rfl
 | v :: l, r, h => by
  unfold toInts at h
  split at h
  ·rename_i heq; cases heq
  ·rename_i x l' heq
   cases heq
   split at h
   ·rename_i r' hr
    simp only [Option.some.injEq] at h
    subst h
    rw [toInts_spec hr]
    rfl
   ·simp at h
  ·simp at h
section
variable {w0 : World} {n : Nat} {F : Frm} {A : List Asrt} {I : List Chunk} {P : Program}
variable {dst : Option Tmp} {ty : TypeId} {pos : String} {af : Array Edge} {gd : Option (Nat × Bool)} {t yt : TypeId} {x y : Operand} {k : Nat}
theorem run_equal_ints [h : IntTy P t k] {xs ys : List Int} (hx : xs.length = k) (hy : ys.length = k) (w : World) : (Op.equal t (.agg (ints xs).toArray) (.agg (ints ys).toArray)).run P w = .ok (decide (xs = ys)) w := by
 have := equal_int 9 t k h.h 9991 xs ys hx hy w
 rw [h.a, h.a] at this
 exact this
theorem opv_eqlI {vs us : List Value} {xs ys : List Int} [h : IntTy P t k] (hx : ev F x = some (.agg vs.toArray)) (hy : ev F y = some (.agg us.toArray)) (h1 : toInts vs = some xs) (h2 : toInts us = some ys) (h3 : xs.length = k) (h4 : ys.length = k) : OpV P w0 n ⟨dst, .binOp .eql t x y yt, ty, pos, af, gd⟩ F A I (.bool (decide (xs = ys))) := by
 intro tt w hf hs
 have e1 := toInts_spec h1
 have e2 := toInts_spec h2
 subst e1; subst e2
 simp only [execOp, hf.eval hx, hf.eval hy, Sem.run_bind, run_eqGuard_agg _ _ _ _ _ _ _ h.g, Result.andThen_ok, binOp, run_equal_ints h3 h4, Sem.run_pure]
theorem opv_neqI {vs us : List Value} {xs ys : List Int} [h : IntTy P t k] (hx : ev F x = some (.agg vs.toArray)) (hy : ev F y = some (.agg us.toArray)) (h1 : toInts vs = some xs) (h2 : toInts us = some ys) (h3 : xs.length = k) (h4 : ys.length = k) : OpV P w0 n ⟨dst, .binOp .neq t x y yt, ty, pos, af, gd⟩ F A I (.bool (decide (xs ≠ ys))) := by
 intro tt w hf hs
 have e1 := toInts_spec h1
 have e2 := toInts_spec h2
 subst e1; subst e2
 simp only [execOp, hf.eval hx, hf.eval hy, Sem.run_bind, run_eqGuard_agg _ _ _ _ _ _ _ h.g, Result.andThen_ok, binOp, run_equal_ints h3 h4, Sem.run_pure]
 by_cases he : xs = ys <;> simp [he]
end
end Go.GL


set_option linter.unusedSimpArgs false
namespace Go.GL

/-! ### Maps whose keys are whole numbers, or arrays and structs of such -/
abbrev KVs := List (List Int × Value)
def mfind : KVs → List Int → Option Value
 | [], _ => none
 | p :: es, k => if p.1 = k then some p.2 else mfind es k
def mset : KVs → List Int → Value → KVs
 | [], k, v => [(k, v)]
 | p :: es, k, v => if p.1 = k then (k, v) :: es else p :: mset es k v
/-- A key's type. -/
class KeyTy (P : Program) (t : TypeId) (k : outParam Nat) : Prop where
 h : intAt P 9 t = some k
/-- No two entries bear one stamp; all stamps are elder than the clock. -/
def Stm (ents : Array MapEntry) (clock : Nat) : Prop := (ents.toList.map (·.born)).Nodup ∧ ∀ x ∈ ents.toList, x.born < clock
theorem Stm.push {ents : Array MapEntry} {clock : Nat} (h : Stm ents clock) (k v : Value) : Stm (ents.push { key := k, val := v, born := clock }) (clock + 1) := by
 obtain ⟨h1, h2⟩ := h
 unfold Stm
 rw [Array.toList_push]
 constructor
 ·rw [List.map_append, List.nodup_append]
  refine ⟨h1, by simp, fun a ha b hb => ?_⟩
  obtain ⟨x, hx, rfl⟩ := List.mem_map.1 ha
  have := h2 x hx
  simp at hb
  omega
 ·intro x hx
  rcases List.mem_append.1 hx with hx | hx
  ·have := h2 x hx; omega
  ·simp at hx
   subst hx
   exact Nat.lt_succ_self _
theorem Stm.modify {ents : Array MapEntry} {clock : Nat} (h : Stm ents clock) (j : Nat) (k v : Value) : Stm (ents.modify j fun e => { e with key := k, val := v }) clock := by
 have hm : (ents.modify j fun e => { e with key := k, val := v }).toList.map (·.born) = ents.toList.map (·.born) := by
  apply List.ext_getElem?
  intro i
  simp only [List.getElem?_map, Array.getElem?_toList, Array.getElem?_modify]
  by_cases e : j = i
  ·rw [if_pos e]; cases ents[i]? <;> rfl
  ·rw [if_neg e]
 refine ⟨by rw [hm]; exact h.1, fun x hx => ?_⟩
 have hx2 : x.born ∈ ents.toList.map (·.born) := by rw [← hm]; exact List.mem_map.2 ⟨x, hx, rfl⟩
 obtain ⟨y, hy, e⟩ := List.mem_map.1 hx2
 rw [← e]
 exact h.2 y hy
def MapA (P : Program) (kt : TypeId) (b : Nat) (es : KVs) : Asrt := fun c => ∃ ents clock, c = [(b, .map ents clock)] ∧ ents.toList.map (fun e => (e.key, e.val)) = es.map (fun p => (mkv P kt p.1, p.2)) ∧ (∀ p ∈ es, ∃ k, intAt P 9 kt = some k ∧ p.1.length = k) ∧ Stm ents clock
section
variable {P : Program} {kt : TypeId} {k : Nat}
theorem run_checkKey_int : ∀ (m : Nat) (t : TypeId) (k : Nat), intAt P m t = some k → ∀ (e : Bool) (d : Nat) (xs : List Int), xs.length = k → ∀ w, (Instr.checkKey e (d + m) t (mkv P t xs)).run P w = .ok () w
 | 0, t, k, h => by simp [intAt] at h
 | m + 1, t, k, h => by
  intro e d xs hx w
  have h0 := h
  unfold intAt at h
  cases hu : P.underlying t with
  | none => simp [hu] at h
  | some ds =>
   cases ds <;> simp only [hu] at h <;> try (simp at h; done)
   case int kd =>
    cases kd <;> simp at h
    simp [mkv, hu, show d + (m + 1) = (d + m) + 1 from rfl, Instr.checkKey, run_underlying hu]
   case array n el =>
    split at h
    ·rename_i ke he
     split at h
     ·rename_i hc
      simp only [Option.some.injEq] at h
      subst h
      obtain ⟨i, hi⟩ := Option.isSome_iff_exists.1 hc.2
      have hm1 : mkv P t xs = .agg (ints xs).toArray := by simp [mkv, hu]
      rw [hm1, show d + (m + 1) = (d + m) + 1 from rfl]
      simp only [Instr.checkKey, Sem.run_bind, run_underlying hu, Result.andThen_ok]
      simp only [Std.Legacy.Range.forIn_eq_forIn_range', Std.Legacy.Range.size, Nat.sub_zero, Nat.add_one_sub_one, Nat.div_one]
      have key : ∀ (q i : Nat), i + q = n → ∀ w, ((forIn (List.range' i q) PUnit.unit fun i _ => do
        Instr.checkKey e (d + m) el (← part el (ints xs).toArray (i * (← sizeOf el))); pure (ForInStep.yield PUnit.unit)) : Sem PUnit).run P w = .ok PUnit.unit w := by
       intro q
       induction q with
       | zero => intro i hi w; simp
       | succ q ih =>
        intro i hi w
        have hb : (i + 1) * ke ≤ n * ke := Nat.mul_le_mul_right ke (by omega)
        rw [Nat.succ_mul] at hb
        rw [List.range'_succ]
        simp only [List.forIn_cons, Sem.run_bind]
        rw [run_sizeOf w (by assumption), Result.andThen_ok, hc.1, run_part_int he hc.1 (by omega) w, Result.andThen_ok, run_checkKey_int m el ke he e d _ (by simp; omega) w, Result.andThen_ok, Sem.run_pure, Result.andThen_ok]
        simp only
        exact ih (i + 1) (by omega) w
      have := key n 0 (by omega) w
      rw [this]
      rfl
     ·simp at h
    ·simp at h
   case struct fs =>
    split at h
    ·simp at h
    ·rename_i hst
     have hm1 : mkv P t xs = .agg (ints xs).toArray := by simp [mkv, hu]
     rw [hm1, show d + (m + 1) = (d + m) + 1 from rfl]
     simp only [Instr.checkKey, Sem.run_bind, run_underlying hu, Result.andThen_ok]
     rw [← Array.forIn_toList]
     have key : ∀ (l : List Field) (off : Nat), intFs (intAt P m) P l off = some k → ∀ w, ((forIn l PUnit.unit fun (f : Field) _ => do
       if f.name ≠ "_" then Instr.checkKey e (d + m) f.type (← part f.type (ints xs).toArray f.offset)
       pure (ForInStep.yield PUnit.unit)) : Sem PUnit).run P w = .ok PUnit.unit w := by
      intro l
      induction l with
      | nil => intro off ho w; simp
      | cons f l ih =>
       intro off ho w
       simp only [intFs] at ho
       split at ho
       ·rename_i kf hn hoff hr
        split at ho
        ·rename_i hc
         have hoff' : f.offset = off := Nat.eq_of_beq_eq_true hoff
         have hn' : f.name ≠ "_" := by simpa using hn
         have hle : off + kf ≤ k := equal_int.intFs_le _ _ _ _ _ ho
         have e1 : (part f.type (ints xs).toArray f.offset).run P w = .ok (mkv P f.type ((xs.drop off).take kf)) w := by rw [hoff']; exact run_part_int hr hc (by omega) w
         have e3 := run_checkKey_int m f.type kf hr e d ((xs.drop off).take kf) (by simp; omega) w
         have e4 := ih (off + kf) ho w
         simp only [ne_eq] at e4
         simp only [List.forIn_cons, Sem.run_bind, ne_eq, hn', not_false_eq_true, if_true, e1, e3, Result.andThen_ok, Sem.run_pure]
         exact e4
        ·simp at ho
       ·simp at ho
     have := key fs.toList 0 h w
     simp only [ne_eq] at this ⊢
     rw [this]
     rfl

theorem mkv_inj_len {t : TypeId} {xs : List Int} : (∃ a, mkv P t xs = .int .i64 a) ∨ mkv P t xs = .agg (ints xs).toArray := by
 unfold mkv
 split
 ·exact .inl ⟨_, rfl⟩
 ·exact .inr rfl
/-- Where a key stands first. -/
def mpos : KVs → List Int → Nat → Option (Nat × Value)
 | [], _, _ => none
 | p :: es, k, i => if p.1 = k then some (i, p.2) else mpos es k (i + 1)
theorem mpos_find : ∀ (es : KVs) (k : List Int) (i : Nat), (mpos es k i).map (·.2) = mfind es k
 | [], k, i => rfl
 | p :: es, k, i => by
  simp only [mpos, mfind]
  split
  ·rfl
  ·exact mpos_find es k (i + 1)
theorem run_equal_key (h : intAt P 9 kt = some k) {xs ys : List Int} (hx : xs.length = k) (hy : ys.length = k) (w : World) : (Op.equal kt (mkv P kt xs) (mkv P kt ys)).run P w = .ok (decide (xs = ys)) w := equal_int 9 kt k h 9991 xs ys hx hy w
theorem run_findAsking_int (h : intAt P 9 kt = some k) {xs : List Int} (hx : xs.length = k) : ∀ (l : List MapEntry) (es : KVs) (i : Nat), l.map (fun e => (e.key, e.val)) = es.map (fun p => (mkv P kt p.1, p.2)) → (∀ p ∈ es, p.1.length = k) → ∀ w,
  (Instr.findAsking kt (mkv P kt xs) l i).run P w = .ok (mpos es xs i) w
 | [], es, i, hl, hk, w => by
  have : es = [] := by simpa using hl.symm
  subst this
  simp [Instr.findAsking, mpos]
 | e :: l, [], i, hl, hk, w => by simp at hl
 | e :: l, p :: es, i, hl, hk, w => by
  simp only [List.map_cons, List.cons.injEq, Prod.mk.injEq] at hl
  simp only [Instr.findAsking, Sem.run_bind, hl.1.1, run_equal_key h hx (hk p (by simp)) w, Result.andThen_ok, mpos]
  by_cases he : xs = p.1
  ·simp [he, hl.1.2]
  ·have he' : ¬ p.1 = xs := fun h => he h.symm
   simp only [he, decide_false, Bool.false_eq_true, if_false, he']
   exact run_findAsking_int h hx l es (i + 1) hl.2 (fun q hq => hk q (by simp [hq])) w
theorem run_findKey_int (h : intAt P 9 kt = some k) {xs : List Int} (hx : xs.length = k) (l : List MapEntry) (es : KVs) (hl : l.map (fun e => (e.key, e.val)) = es.map (fun p => (mkv P kt p.1, p.2))) (hk : ∀ p ∈ es, p.1.length = k) (w : World) :
  (Instr.findKey kt (mkv P kt xs) l).run P w = .ok (mpos es xs 0) w := by
 have hask := run_findAsking_int h hx l es 0 hl hk w
 unfold Instr.findKey
 have hu : ∃ ds, P.underlying kt = some ds ∧ ((∃ kd, ds = .int kd) ∨ isA ds = true) := by
  unfold intAt at h
  cases hu : P.underlying kt with
  | none => simp [hu] at h
  | some ds => cases ds <;> simp_all [isA]
 obtain ⟨ds, hds, hcase⟩ := hu
 rw [Sem.run_bind, run_underlying hds, Result.andThen_ok]
 have hnow : Instr.findNow ds (mkv P kt xs) l 0 = none ∨ Instr.findNow ds (mkv P kt xs) l 0 = some (mpos es xs 0) := by
  rcases hcase with ⟨kd, rfl⟩ | hA
  ·refine .inr ?_
   have hkd : kd = .i64 ∧ k = 1 := by
    unfold intAt at h
    rw [hds] at h
    cases kd <;> simp_all
   obtain ⟨rfl, rfl⟩ := hkd
   obtain ⟨a, rfl⟩ := List.length_eq_one_iff.1 hx
   have e1 : mkv P kt [a] = .int .i64 a := by simp [mkv, hds]
   have gen : ∀ (l : List MapEntry) (es : KVs) (i : Nat), l.map (fun e => (e.key, e.val)) = es.map (fun p => (mkv P kt p.1, p.2)) → (∀ p ∈ es, p.1.length = 1) → Instr.findNow (.int .i64) (mkv P kt [a]) l i = some (mpos es [a] i) := by
    intro l
    induction l with
    | nil =>
     intro es i hl hk
     have : es = [] := by simpa using hl.symm
     subst this
     simp [Instr.findNow, mpos]
    | cons e l ih =>
     intro es i hl hk
     cases es with
     | nil => simp at hl
     | cons p es =>
      simp only [List.map_cons, List.cons.injEq, Prod.mk.injEq] at hl
      obtain ⟨c, hc⟩ := List.length_eq_one_iff.1 (hk p (by simp))
      have e2 : e.key = .int .i64 c := by rw [hl.1.1]; simp [mkv, hds, hc]
      have ih' := ih es (i + 1) hl.2 (fun q hq => hk q (by simp [hq]))
      rw [e1] at ih' ⊢
      simp only [Instr.findNow, e2, Instr.sameNow, if_true, mpos, hc]
      by_cases hac : a = c
      ·subst hac; simp [hl.1.2]
      ·have hca : ¬ c = a := fun h => hac h.symm
       simp only [beqd, hac, decide_false, List.cons.injEq, hca, and_true, if_false]
       exact ih'
   exact gen l es 0 hl hk
  ·cases l with
   | nil =>
    have : es = [] := by simpa using hl.symm
    subst this
    exact .inr rfl
   | cons e l =>
    refine .inl ?_
    cases ds <;> simp [isA] at hA <;> simp [Instr.findNow, Instr.sameNow]
 rcases hnow with hnow | hnow
 ·simp only [hnow]; exact hask
 ·simp only [hnow]; rfl
end

class SelM (P : Program) (A : List Asrt) (b : Nat) (kt : outParam TypeId) (es : outParam KVs) (u : outParam (KVs → List Asrt)) : Prop where
 h : ∃ pre post, A = pre ++ MapA P kt b es :: post ∧ ∀ r, u r = pre ++ MapA P kt b r :: post
section
variable {w0 : World} {n : Nat} {F : Frm} {A : List Asrt} {I : List Chunk} {P : Program}
variable {dst : Option Tmp} {ty : TypeId} {pos : String} {af : Array Edge} {gd : Option (Nat × Bool)}
variable {t e kt : TypeId} {d d' : TypeDesc} {s by_ s' by' : Nat} {z z' : List Value} {x y ix : Operand} {b : Nat} {es : KVs} {u : KVs → List Asrt} {k : Nat}
instance (priority := high) selMHere : SelM P (MapA P kt b es :: A) b kt es (fun r => MapA P kt b r :: A) := ⟨[], A, rfl, fun _ => rfl⟩
instance (priority := low) selMThere {q : Asrt} [h : SelM P A b kt es u] : SelM P (q :: A) b kt es (fun r => q :: u r) := by
 obtain ⟨pre, post, h1, h2⟩ := h.h
 exact ⟨q :: pre, post, by rw [h1]; rfl, fun r => by rw [h2]; rfl⟩
theorem SelM.at [h : SelM P A b kt es u] {w : World} (hs : St w0 w A I) : ∃ ents clock, w.heap[b]? = some (.map ents clock) ∧ ents.toList.map (fun e => (e.key, e.val)) = es.map (fun p => (mkv P kt p.1, p.2)) ∧ (∀ p ∈ es, ∃ k, intAt P 9 kt = some k ∧ p.1.length = k) ∧ Stm ents clock := by
 obtain ⟨pre, post, h1, _⟩ := h.h
 have hp : A.Perm (MapA P kt b es :: (pre ++ post)) := by rw [h1]; exact List.perm_middle
 obtain ⟨cs, h2, h3⟩ := hs.perm hp
 obtain ⟨c, cs', rfl, ⟨ents, clock, rfl, h4, h5⟩, _⟩ := h2.cons_inv
 exact ⟨ents, clock, h3.has (b, _) (by simp), h4, h5⟩
theorem SelM.set [h : SelM P A b kt es u] {w : World} (hs : St w0 w A I) (es' : KVs) (ents' : Array MapEntry) (clock' : Nat) (hl : ents'.toList.map (fun e => (e.key, e.val)) = es'.map (fun p => (mkv P kt p.1, p.2))) (hk : ∀ p ∈ es', ∃ k, intAt P 9 kt = some k ∧ p.1.length = k) (hst : Stm ents' clock') :
  St w0 { w with heap := w.heap.setIfInBounds b (.map ents' clock') } (u es') I := by
 obtain ⟨pre, post, h1, h2⟩ := h.h
 have hp : A.Perm (MapA P kt b es :: (pre ++ post)) := by rw [h1]; exact List.perm_middle
 obtain ⟨cs, hq, h3⟩ := hs.perm hp
 obtain ⟨c, cs', rfl, ⟨ents, clock, rfl, h4, h5⟩, hr2⟩ := hq.cons_inv
 have hb : w.heap[b]? = some (.map ents clock) := h3.has (b, _) (by simp)
 have hlt : b < w.heap.size := (Array.getElem?_eq_some_iff.1 hb).1
 have hw := Wd.setObj (by simpa using h3) (.map ents' clock') (w.heap.setIfInBounds b (.map ents' clock')) (by simp) (by simp [hlt]) (fun k hk => by rw [Array.getElem?_setIfInBounds, if_neg (fun h => hk h.symm)])
 have hst2 : St w0 { w with heap := w.heap.setIfInBounds b (.map ents' clock') } (MapA P kt b es' :: (pre ++ post)) I :=
  ⟨[(b, .map ents' clock')] ++ cs', .cons ⟨ents', clock', rfl, hl, hk, hst⟩ hr2, by simpa using hw⟩
 rw [h2]
 exact hst2.perm List.perm_middle.symm

theorem opg_makeMap [TyI P t (.map kt e) s by_ z] : OpG P w0 n ⟨dst, .makeMap t none, ty, pos, af, gd⟩ F A I (fun v A' I' => ∃ b, v = .map (some b) ∧ A' = MapA P kt b [] :: A ∧ I = I') := by
 refine opg_run fun tt w hf hst => ⟨_, w.alloc (.map #[] 0), _, I, ?_, ⟨w.heap.size, rfl, rfl, rfl⟩, ?_⟩
 ·simp [execOp, Instr.makeMap]
 ·exact (hst.alloc (.map #[] 0)).weaken (by rintro c rfl; exact ⟨#[], 0, rfl, by simp, by simp, by simp [Stm]⟩)
/-- A lookup that tells whether the key is there. -/
theorem opv_lookup2 {ks : List Int} {vk v : Value} [SelM P A b kt es u] [TyI P t (.map kt e) s by_ z] [TyI P e d' s' by' z'] (hz1 : ∀ w, (zeroValue e).run P w = .ok v w) (hx : ev F x = some (.map (some b))) (hy : ev F y = some vk) (hk : vk = mkv P kt ks) (hi : intAt P 9 kt = some k) (hl : ks.length = k) :
  OpV P w0 n ⟨dst, .lookup t x y true, ty, pos, af, gd⟩ F A I (.tuple [(mfind es ks).getD v, .bool (mfind es ks).isSome].toArray) := by
 intro tt w hf hst
 obtain ⟨ents, clock, hb, hm, hks, hstm⟩ := SelM.at (b := b) (P := P) hst
 have hks' : ∀ p ∈ es, p.1.length = k := fun p hp => by obtain ⟨k', h1, h2⟩ := hks p hp; rw [hi] at h1; injection h1 with h1; omega
 have hck := run_checkKey_int (P := P) 9 kt k hi ents.isEmpty 9991 ks hl w
 have hfk := run_findKey_int (P := P) hi hl ents.toList es hm hks' w
 have hpf := mpos_find es ks 0
 subst hk
 have hck' : (Instr.checkKey ents.isEmpty 10000 kt (mkv P kt ks)).run P w = .ok () w := hck
 simp only [execOp, hf.eval hx, hf.eval hy, Instr.lookup, Sem.run_bind, run_und (P := P) (t := t), Result.andThen_ok, getObj, Sem.run, hb, hck', hfk, Sem.run_pure]
 cases hp : mpos es ks 0 with
 | none =>
  have : mfind es ks = none := by rw [← hpf, hp]; rfl
  simp [this, hz1]
 | some q =>
  have : mfind es ks = some q.2 := by rw [← hpf, hp]; rfl
  simp [this]

theorem sameBits_mkv (ks : List Int) : Instr.sameBits 10000 (mkv P kt ks) (mkv P kt ks) = true := by
 rcases mkv_inj_len (P := P) (t := kt) (xs := ks) with ⟨a, h⟩ | h
 ·rw [h]; simp [Instr.sameBits]
 ·rw [h]
  simp only [Instr.sameBits]
  have : ∀ l : List Int, ((ints l).zip (ints l)).all (fun (x, y) => Instr.sameBits 9999 x y) = true := by
   intro l
   induction l with
   | nil => rfl
   | cons a l ih => simp only [ints, List.map_cons, List.zip_cons_cons, List.all_cons]; rw [show (List.map (Value.int .i64) l) = ints l from rfl, ih]; simp [Instr.sameBits]
  simpa using this ks
theorem mpos_some : ∀ (es : KVs) (ks : List Int) (i j : Nat) (v : Value), mpos es ks i = some (j, v) → i ≤ j ∧ ∃ p, es[j - i]? = some p ∧ p.1 = ks ∧ ∀ v', mset es ks v' = es.set (j - i) (ks, v')
 | [], ks, i, j, v, h => by simp [mpos] at h
 | p :: es, ks, i, j, v, h => by
  simp only [mpos] at h
  split at h
  ·rename_i hp
   simp only [Option.some.injEq, Prod.mk.injEq] at h
   obtain ⟨rfl, _⟩ := h
   exact ⟨Nat.le_refl _, p, by simp, hp, fun v' => by simp [mset, hp]⟩
  ·rename_i hp
   obtain ⟨h1, q, h2, h3, h4⟩ := mpos_some es ks (i + 1) j v h
   refine ⟨by omega, q, by rw [show j - i = (j - (i + 1)) + 1 by omega]; simpa using h2, h3, fun v' => ?_⟩
   rw [show j - i = (j - (i + 1)) + 1 by omega]
   simp [mset, hp, h4 v']
theorem mpos_none : ∀ (es : KVs) (ks : List Int) (i : Nat), mpos es ks i = none → ∀ v', mset es ks v' = es ++ [(ks, v')]
 | [], ks, i, h => by simp [mset]
 | p :: es, ks, i, h => by
  simp only [mpos] at h
  split at h
  ·simp at h
  ·rename_i hp
   intro v'
   simp [mset, hp, mpos_none es ks (i + 1) h v']
theorem mset_keys {ks : List Int} {v' : Value} {q : Nat} (hl : ks.length = q) : ∀ (es : KVs), (∀ p ∈ es, p.1.length = q) → ∀ p ∈ mset es ks v', p.1.length = q
 | [], _, p, hp => by simp [mset] at hp; subst hp; exact hl
 | r :: es, h, p, hp => by
  simp only [mset] at hp
  split at hp
  ·rcases List.mem_cons.1 hp with rfl | hp
   ·exact hl
   ·exact h p (by simp [hp])
  ·rcases List.mem_cons.1 hp with rfl | hp
   ·exact h _ (by simp)
   ·exact mset_keys hl es (fun r hr => h r (by simp [hr])) p hp
theorem opg_mapUpdate {ks : List Int} {vk v : Value} {ym : Operand} [SelM P A b kt es u] [TyI P t (.map kt e) s by_ z] (hx : ev F x = some (.map (some b))) (hy : ev F y = some vk) (hv : ev F ym = some v) (hk : vk = mkv P kt ks) (hi : intAt P 9 kt = some k) (hl : ks.length = k) :
  OpG P w0 n ⟨dst, .mapUpdate t x y ym, ty, pos, af, gd⟩ F A I (fun _ A' I' => A' = u (mset es ks v) ∧ I = I') := by
 refine opg_unit fun tt w hf hst => ?_
 obtain ⟨ents, clock, hb, hm, hks, hstm⟩ := SelM.at (b := b) (P := P) hst
 have hks' : ∀ p ∈ es, p.1.length = k := fun p hp => by obtain ⟨k', h1, h2⟩ := hks p hp; rw [hi] at h1; injection h1 with h1; omega
 have hck : (Instr.checkKey false 10000 kt (mkv P kt ks)).run P w = .ok () w := run_checkKey_int (P := P) 9 kt k hi false 9991 ks hl w
 have hfk := run_findKey_int (P := P) hi hl ents.toList es hm hks' w
 have hkeys : ∀ p ∈ mset es ks v, ∃ k, intAt P 9 kt = some k ∧ p.1.length = k := fun p hp => ⟨k, hi, mset_keys hl es hks' p hp⟩
 subst hk
 cases hp : mpos es ks 0 with
 | none =>
  have hms := mpos_none es ks 0 hp v
  refine ⟨_, _, I, ?_, ⟨rfl, rfl⟩, SelM.set (b := b) (P := P) hst (mset es ks v) (ents.push { key := mkv P kt ks, val := v, born := clock }) (clock + 1) (by rw [hms]; simp [hm]) hkeys (hstm.push _ _)⟩
  simp only [execOp, hf.eval hx, hf.eval hy, hf.eval hv, Instr.mapUpdate, Sem.run_bind, run_und (P := P) (t := t), Result.andThen_ok, getObj, setObj, Sem.run, hb, hck, hfk, hp, Sem.run_pure]
 | some q =>
  obtain ⟨j, v0⟩ := q
  obtain ⟨_, p, h1, h2, h3⟩ := mpos_some es ks 0 j v0 hp
  simp only [Nat.sub_zero] at h1 h3
  have hlen : ents.size = es.length := by have := congrArg List.length hm; simpa using this
  have hj : j < es.length := (List.getElem?_eq_some_iff.1 h1).1
  have hent : (ents[j]?).map (·.key) = some (mkv P kt ks) := by
   have := congrArg (fun l => (l[j]?).map (·.1)) hm
   simp only [List.getElem?_map, h1, Option.map_map, Array.getElem?_toList] at this
   simpa [Function.comp_def, h2] using this
  refine ⟨_, _, I, ?_, ⟨rfl, rfl⟩, SelM.set (b := b) (P := P) hst (mset es ks v) (ents.modify j fun e => { e with key := mkv P kt ks, val := v }) clock ?_ hkeys (hstm.modify _ _ _)⟩
  ·simp only [execOp, hf.eval hx, hf.eval hy, hf.eval hv, Instr.mapUpdate, Sem.run_bind, run_und (P := P) (t := t), Result.andThen_ok, getObj, setObj, Sem.run, hb, hck, hfk, hp, Sem.run_pure, hent, Option.getD_some, Instr.keyThatStays, sameBits_mkv, if_true]
  ·rw [h3 v]
   apply List.ext_getElem?
   intro i
   have hmi := congrArg (fun l => l[i]?) hm
   simp only [List.getElem?_map, Array.getElem?_toList] at hmi
   simp only [List.getElem?_map, Array.getElem?_toList, Array.getElem?_modify, List.getElem?_set]
   by_cases hij : j = i
   ·subst hij
    have : ents[j]? = some ents[j] := by simp [hlen, hj]
    simp [this, hj]
   ·simp only [hij, if_false]
    exact hmi
end
end Go.GL


namespace Go.GL
open Go.Proofs
instance : TyI Try.prog 1 (.func #[] #[] false) 1 8 [.nilFunc] := ⟨by kernel_rfl, ⟨.nilFunc, by kernel_rfl, rfl⟩, rfl⟩
instance : TyI Try.prog 2 (.int .i64) 1 8 [.int .i64 0] := ⟨by kernel_rfl, ⟨.int .i64 0, by kernel_rfl, rfl⟩, rfl⟩
instance : TyI Try.prog 3 (.int .i64) 1 8 [.int .i64 0] := ⟨by kernel_rfl, ⟨.int .i64 0, by kernel_rfl, rfl⟩, rfl⟩
instance : TyI Try.prog 4 (.bool) 1 1 [.bool false] := ⟨by kernel_rfl, ⟨.bool false, by kernel_rfl, rfl⟩, rfl⟩
instance : TyI Try.prog 5 (.int .u8) 1 1 [.int .u8 0] := ⟨by kernel_rfl, ⟨.int .u8 0, by kernel_rfl, rfl⟩, rfl⟩
instance : TyI Try.prog 6 (.int .u8) 1 1 [.int .u8 0] := ⟨by kernel_rfl, ⟨.int .u8 0, by kernel_rfl, rfl⟩, rfl⟩
instance : TyI Try.prog 7 (.struct #[⟨ "x", 2, 0, false, "", "runtime", 0⟩, ⟨ "y", 3, 1, false, "", "runtime", 8⟩, ⟨ "signed", 4, 2, false, "", "runtime", 16⟩, ⟨ "code", 6, 3, false, "", "runtime", 17⟩]) 4 24 [.int .i64 0, .int .i64 0, .bool false, .int .u8 0] := ⟨by kernel_rfl, ⟨.agg #[.int .i64 0, .int .i64 0, .bool false, .int .u8 0], by kernel_rfl, rfl⟩, rfl⟩
instance : TyI Try.prog 8 (.struct #[⟨ "x", 2, 0, false, "", "runtime", 0⟩, ⟨ "y", 3, 1, false, "", "runtime", 8⟩, ⟨ "signed", 4, 2, false, "", "runtime", 16⟩, ⟨ "code", 6, 3, false, "", "runtime", 17⟩]) 4 24 [.int .i64 0, .int .i64 0, .bool false, .int .u8 0] := ⟨by kernel_rfl, ⟨.agg #[.int .i64 0, .int .i64 0, .bool false, .int .u8 0], by kernel_rfl, rfl⟩, rfl⟩
instance : TyI Try.prog 9 (.string) 1 16 [.string ⟨#[]⟩] := ⟨by kernel_rfl, ⟨.string ⟨#[]⟩, by kernel_rfl, rfl⟩, rfl⟩
instance : TyI Try.prog 10 (.string) 1 16 [.string ⟨#[]⟩] := ⟨by kernel_rfl, ⟨.string ⟨#[]⟩, by kernel_rfl, rfl⟩, rfl⟩
instance : TyI Try.prog 11 (.string) 1 16 [.string ⟨#[]⟩] := ⟨by kernel_rfl, ⟨.string ⟨#[]⟩, by kernel_rfl, rfl⟩, rfl⟩
instance : TyI Try.prog 12 (.int .u64) 1 8 [.int .u64 0] := ⟨by kernel_rfl, ⟨.int .u64 0, by kernel_rfl, rfl⟩, rfl⟩
instance : TyI Try.prog 13 (.struct #[⟨ "msg", 9, 0, false, "", "runtime", 0⟩, ⟨ "addr", 12, 1, false, "", "runtime", 16⟩]) 2 24 [.string ⟨#[]⟩, .int .u64 0] := ⟨by kernel_rfl, ⟨.agg #[.string ⟨#[]⟩, .int .u64 0], by kernel_rfl, rfl⟩, rfl⟩
instance : TyI Try.prog 14 (.struct #[⟨ "msg", 9, 0, false, "", "runtime", 0⟩, ⟨ "addr", 12, 1, false, "", "runtime", 16⟩]) 2 24 [.string ⟨#[]⟩, .int .u64 0] := ⟨by kernel_rfl, ⟨.agg #[.string ⟨#[]⟩, .int .u64 0], by kernel_rfl, rfl⟩, rfl⟩
instance : TyI Try.prog 15 (.pointer 134) 1 8 [.pointer none] := ⟨by kernel_rfl, ⟨.pointer none, by kernel_rfl, rfl⟩, rfl⟩
instance : TyI Try.prog 16 (.pointer 137) 1 8 [.pointer none] := ⟨by kernel_rfl, ⟨.pointer none, by kernel_rfl, rfl⟩, rfl⟩
instance : TyI Try.prog 17 (.pointer 147) 1 8 [.pointer none] := ⟨by kernel_rfl, ⟨.pointer none, by kernel_rfl, rfl⟩, rfl⟩
instance : TyI Try.prog 18 (.struct #[⟨ "typ", 17, 0, false, "", "internal/runtime/maps", 0⟩]) 1 8 [.pointer none] := ⟨by kernel_rfl, ⟨.agg #[.pointer none], by kernel_rfl, rfl⟩, rfl⟩
instance : TyI Try.prog 19 (.struct #[⟨ "typ", 17, 0, false, "", "internal/runtime/maps", 0⟩]) 1 8 [.pointer none] := ⟨by kernel_rfl, ⟨.agg #[.pointer none], by kernel_rfl, rfl⟩, rfl⟩
instance : TyI Try.prog 21 (.int .i32) 1 4 [.int .i32 0] := ⟨by kernel_rfl, ⟨.int .i32 0, by kernel_rfl, rfl⟩, rfl⟩
instance : TyI Try.prog 22 (.slice 69) 1 24 [.slice none 0 0] := ⟨by kernel_rfl, ⟨.slice none 0 0, by kernel_rfl, rfl⟩, rfl⟩
instance : TyI Try.prog 23 (.slice 46) 1 24 [.slice none 0 0] := ⟨by kernel_rfl, ⟨.slice none 0 0, by kernel_rfl, rfl⟩, rfl⟩
instance : TyI Try.prog 24 (.slice 35) 1 24 [.slice none 0 0] := ⟨by kernel_rfl, ⟨.slice none 0 0, by kernel_rfl, rfl⟩, rfl⟩
instance : TyI Try.prog 25 (.struct #[⟨ "Nodes", 24, 0, false, "", "", 0⟩, ⟨ "Room", 3, 1, false, "", "", 24⟩]) 2 32 [.slice none 0 0, .int .i64 0] := ⟨by kernel_rfl, ⟨.agg #[.slice none 0 0, .int .i64 0], by kernel_rfl, rfl⟩, rfl⟩
instance : TyI Try.prog 26 (.struct #[⟨ "Nodes", 24, 0, false, "", "", 0⟩, ⟨ "Room", 3, 1, false, "", "", 24⟩]) 2 32 [.slice none 0 0, .int .i64 0] := ⟨by kernel_rfl, ⟨.agg #[.slice none 0 0, .int .i64 0], by kernel_rfl, rfl⟩, rfl⟩
instance : TyI Try.prog 27 (.func #[] #[4] false) 1 8 [.nilFunc] := ⟨by kernel_rfl, ⟨.nilFunc, by kernel_rfl, rfl⟩, rfl⟩
instance : TyI Try.prog 29 (.func #[3, 22, 23, 3] #[26, 3] false) 1 8 [.nilFunc] := ⟨by kernel_rfl, ⟨.nilFunc, by kernel_rfl, rfl⟩, rfl⟩
instance : TyI Try.prog 30 (.slice 26) 1 24 [.slice none 0 0] := ⟨by kernel_rfl, ⟨.slice none 0 0, by kernel_rfl, rfl⟩, rfl⟩
instance : TyI Try.prog 31 (.func #[3, 3] #[3] false) 1 8 [.nilFunc] := ⟨by kernel_rfl, ⟨.nilFunc, by kernel_rfl, rfl⟩, rfl⟩
instance : TyI Try.prog 32 (.slice 3) 1 24 [.slice none 0 0] := ⟨by kernel_rfl, ⟨.slice none 0 0, by kernel_rfl, rfl⟩, rfl⟩
instance : TyI Try.prog 33 (.array 4 3) 4 32 [.int .i64 0, .int .i64 0, .int .i64 0, .int .i64 0] := ⟨by kernel_rfl, ⟨.agg #[.int .i64 0, .int .i64 0, .int .i64 0, .int .i64 0], by kernel_rfl, rfl⟩, rfl⟩
instance : TyI Try.prog 34 (.struct #[⟨ "Level", 3, 0, false, "", "", 0⟩, ⟨ "Kids", 33, 1, false, "", "", 8⟩, ⟨ "Pop", 3, 5, false, "", "", 40⟩]) 6 48 [.int .i64 0, .int .i64 0, .int .i64 0, .int .i64 0, .int .i64 0, .int .i64 0] := ⟨by kernel_rfl, ⟨.agg #[.int .i64 0, .int .i64 0, .int .i64 0, .int .i64 0, .int .i64 0, .int .i64 0], by kernel_rfl, rfl⟩, rfl⟩
instance : TyI Try.prog 35 (.struct #[⟨ "Level", 3, 0, false, "", "", 0⟩, ⟨ "Kids", 33, 1, false, "", "", 8⟩, ⟨ "Pop", 3, 5, false, "", "", 40⟩]) 6 48 [.int .i64 0, .int .i64 0, .int .i64 0, .int .i64 0, .int .i64 0, .int .i64 0] := ⟨by kernel_rfl, ⟨.agg #[.int .i64 0, .int .i64 0, .int .i64 0, .int .i64 0, .int .i64 0, .int .i64 0], by kernel_rfl, rfl⟩, rfl⟩
instance : TyI Try.prog 36 (.int .i64) 1 8 [.int .i64 0] := ⟨by kernel_rfl, ⟨.int .i64 0, by kernel_rfl, rfl⟩, rfl⟩
instance : TyI Try.prog 38 (.func #[26, 3, 3] #[26, 3, 36] false) 1 8 [.nilFunc] := ⟨by kernel_rfl, ⟨.nilFunc, by kernel_rfl, rfl⟩, rfl⟩
instance : TyI Try.prog 39 (.func #[26, 26] #[4] false) 1 8 [.nilFunc] := ⟨by kernel_rfl, ⟨.nilFunc, by kernel_rfl, rfl⟩, rfl⟩
instance : TyI Try.prog 40 (.func #[26, 3] #[26, 3, 36] false) 1 8 [.nilFunc] := ⟨by kernel_rfl, ⟨.nilFunc, by kernel_rfl, rfl⟩, rfl⟩
instance : TyI Try.prog 41 (.func #[3, 22, 23, 3, 26, 3, 3, 3] #[4] false) 1 8 [.nilFunc] := ⟨by kernel_rfl, ⟨.nilFunc, by kernel_rfl, rfl⟩, rfl⟩
instance : TyI Try.prog 42 (.slice 48) 1 24 [.slice none 0 0] := ⟨by kernel_rfl, ⟨.slice none 0 0, by kernel_rfl, rfl⟩, rfl⟩
instance : TyI Try.prog 44 (.func #[42] #[42, 36] false) 1 8 [.nilFunc] := ⟨by kernel_rfl, ⟨.nilFunc, by kernel_rfl, rfl⟩, rfl⟩
instance : TyI Try.prog 45 (.func #[26, 3] #[42] false) 1 8 [.nilFunc] := ⟨by kernel_rfl, ⟨.nilFunc, by kernel_rfl, rfl⟩, rfl⟩
instance : TyI Try.prog 46 (.array 2 3) 2 16 [.int .i64 0, .int .i64 0] := ⟨by kernel_rfl, ⟨.agg #[.int .i64 0, .int .i64 0], by kernel_rfl, rfl⟩, rfl⟩
instance : TyI Try.prog 47 (.struct #[⟨ "X", 3, 0, false, "", "", 0⟩, ⟨ "Y", 3, 1, false, "", "", 8⟩]) 2 16 [.int .i64 0, .int .i64 0] := ⟨by kernel_rfl, ⟨.agg #[.int .i64 0, .int .i64 0], by kernel_rfl, rfl⟩, rfl⟩
instance : TyI Try.prog 48 (.struct #[⟨ "X", 3, 0, false, "", "", 0⟩, ⟨ "Y", 3, 1, false, "", "", 8⟩]) 2 16 [.int .i64 0, .int .i64 0] := ⟨by kernel_rfl, ⟨.agg #[.int .i64 0, .int .i64 0], by kernel_rfl, rfl⟩, rfl⟩
instance : TyI Try.prog 49 (.func #[42, 48] #[42] false) 1 8 [.nilFunc] := ⟨by kernel_rfl, ⟨.nilFunc, by kernel_rfl, rfl⟩, rfl⟩
instance : TyI Try.prog 50 (.func #[42, 3] #[42, 36] false) 1 8 [.nilFunc] := ⟨by kernel_rfl, ⟨.nilFunc, by kernel_rfl, rfl⟩, rfl⟩
instance : TyI Try.prog 51 (.func #[42, 42] #[4] false) 1 8 [.nilFunc] := ⟨by kernel_rfl, ⟨.nilFunc, by kernel_rfl, rfl⟩, rfl⟩
instance : TyI Try.prog 52 (.func #[42, 3] #[42] false) 1 8 [.nilFunc] := ⟨by kernel_rfl, ⟨.nilFunc, by kernel_rfl, rfl⟩, rfl⟩
instance : TyI Try.prog 53 (.func #[26] #[4] false) 1 8 [.nilFunc] := ⟨by kernel_rfl, ⟨.nilFunc, by kernel_rfl, rfl⟩, rfl⟩
instance : TyI Try.prog 54 (.func #[3, 22, 23, 3, 23, 3] #[4] false) 1 8 [.nilFunc] := ⟨by kernel_rfl, ⟨.nilFunc, by kernel_rfl, rfl⟩, rfl⟩
instance : TyI Try.prog 55 (.func #[23] #[42] false) 1 8 [.nilFunc] := ⟨by kernel_rfl, ⟨.nilFunc, by kernel_rfl, rfl⟩, rfl⟩
instance : TyI Try.prog 56 (.func #[26, 42, 3] #[26, 3, 36] false) 1 8 [.nilFunc] := ⟨by kernel_rfl, ⟨.nilFunc, by kernel_rfl, rfl⟩, rfl⟩
instance : TyI Try.prog 57 (.func #[3] #[26] false) 1 8 [.nilFunc] := ⟨by kernel_rfl, ⟨.nilFunc, by kernel_rfl, rfl⟩, rfl⟩
instance : TyI Try.prog 58 (.func #[23, 3] #[4] false) 1 8 [.nilFunc] := ⟨by kernel_rfl, ⟨.nilFunc, by kernel_rfl, rfl⟩, rfl⟩
instance : TyI Try.prog 59 (.func #[23, 3, 3] #[4] false) 1 8 [.nilFunc] := ⟨by kernel_rfl, ⟨.nilFunc, by kernel_rfl, rfl⟩, rfl⟩
instance : TyI Try.prog 60 (.func #[] #[42] false) 1 8 [.nilFunc] := ⟨by kernel_rfl, ⟨.nilFunc, by kernel_rfl, rfl⟩, rfl⟩
instance : TyI Try.prog 61 (.func #[42, 3, 3] #[42, 36] false) 1 8 [.nilFunc] := ⟨by kernel_rfl, ⟨.nilFunc, by kernel_rfl, rfl⟩, rfl⟩
instance : TyI Try.prog 62 (.func #[3] #[4] false) 1 8 [.nilFunc] := ⟨by kernel_rfl, ⟨.nilFunc, by kernel_rfl, rfl⟩, rfl⟩
instance : TyI Try.prog 63 (.func #[3, 48] #[4] false) 1 8 [.nilFunc] := ⟨by kernel_rfl, ⟨.nilFunc, by kernel_rfl, rfl⟩, rfl⟩
instance : TyI Try.prog 64 (.func #[3, 22, 23, 3, 3] #[4] false) 1 8 [.nilFunc] := ⟨by kernel_rfl, ⟨.nilFunc, by kernel_rfl, rfl⟩, rfl⟩
instance : TyI Try.prog 65 (.func #[23] #[4] false) 1 8 [.nilFunc] := ⟨by kernel_rfl, ⟨.nilFunc, by kernel_rfl, rfl⟩, rfl⟩
instance : TyI Try.prog 66 (.func #[3, 3, 3] #[4] false) 1 8 [.nilFunc] := ⟨by kernel_rfl, ⟨.nilFunc, by kernel_rfl, rfl⟩, rfl⟩
instance : TyI Try.prog 67 (.func #[42, 48] #[4] false) 1 8 [.nilFunc] := ⟨by kernel_rfl, ⟨.nilFunc, by kernel_rfl, rfl⟩, rfl⟩
instance : TyI Try.prog 68 (.func #[26, 33] #[26, 3, 36] false) 1 8 [.nilFunc] := ⟨by kernel_rfl, ⟨.nilFunc, by kernel_rfl, rfl⟩, rfl⟩
instance : TyI Try.prog 69 (.array 5 3) 5 40 [.int .i64 0, .int .i64 0, .int .i64 0, .int .i64 0, .int .i64 0] := ⟨by kernel_rfl, ⟨.agg #[.int .i64 0, .int .i64 0, .int .i64 0, .int .i64 0, .int .i64 0], by kernel_rfl, rfl⟩, rfl⟩
instance : TyI Try.prog 70 (.func #[26, 3, 73, 76] #[26, 3, 36] false) 1 8 [.nilFunc] := ⟨by kernel_rfl, ⟨.nilFunc, by kernel_rfl, rfl⟩, rfl⟩
instance : TyI Try.prog 71 (.pointer 96) 1 8 [.pointer none] := ⟨by kernel_rfl, ⟨.pointer none, by kernel_rfl, rfl⟩, rfl⟩
instance : TyI Try.prog 72 (.func #[3] #[3] false) 1 8 [.nilFunc] := ⟨by kernel_rfl, ⟨.nilFunc, by kernel_rfl, rfl⟩, rfl⟩
instance : TyI Try.prog 73 (.func #[71] #[4] false) 1 8 [.nilFunc] := ⟨by kernel_rfl, ⟨.nilFunc, by kernel_rfl, rfl⟩, rfl⟩
instance : TyI Try.prog 75 (.func #[3, 3] #[3, 36] false) 1 8 [.nilFunc] := ⟨by kernel_rfl, ⟨.nilFunc, by kernel_rfl, rfl⟩, rfl⟩
instance : TyI Try.prog 76 (.func #[71] #[3, 36] false) 1 8 [.nilFunc] := ⟨by kernel_rfl, ⟨.nilFunc, by kernel_rfl, rfl⟩, rfl⟩
instance : TyI Try.prog 77 (.func #[26, 3, 3] #[4] false) 1 8 [.nilFunc] := ⟨by kernel_rfl, ⟨.nilFunc, by kernel_rfl, rfl⟩, rfl⟩
instance : TyI Try.prog 78 (.pointer 81) 1 8 [.pointer none] := ⟨by kernel_rfl, ⟨.pointer none, by kernel_rfl, rfl⟩, rfl⟩
instance : TyI Try.prog 79 (.slice 104) 1 24 [.slice none 0 0] := ⟨by kernel_rfl, ⟨.slice none 0 0, by kernel_rfl, rfl⟩, rfl⟩
instance : TyI Try.prog 80 (.struct #[⟨ "S", 26, 0, false, "", "", 0⟩, ⟨ "Done", 79, 2, false, "", "", 32⟩, ⟨ "E", 36, 3, false, "", "", 56⟩]) 4 64 [.slice none 0 0, .int .i64 0, .slice none 0 0, .int .i64 0] := ⟨by kernel_rfl, ⟨.agg #[.slice none 0 0, .int .i64 0, .slice none 0 0, .int .i64 0], by kernel_rfl, rfl⟩, rfl⟩
instance : TyI Try.prog 81 (.struct #[⟨ "S", 26, 0, false, "", "", 0⟩, ⟨ "Done", 79, 2, false, "", "", 32⟩, ⟨ "E", 36, 3, false, "", "", 56⟩]) 4 64 [.slice none 0 0, .int .i64 0, .slice none 0 0, .int .i64 0] := ⟨by kernel_rfl, ⟨.agg #[.slice none 0 0, .int .i64 0, .slice none 0 0, .int .i64 0], by kernel_rfl, rfl⟩, rfl⟩
instance : TyI Try.prog 82 (.func #[3] #[3, 36] false) 1 8 [.nilFunc] := ⟨by kernel_rfl, ⟨.nilFunc, by kernel_rfl, rfl⟩, rfl⟩
instance : TyI Try.prog 83 (.func #[3] #[32] false) 1 8 [.nilFunc] := ⟨by kernel_rfl, ⟨.nilFunc, by kernel_rfl, rfl⟩, rfl⟩
instance : TyI Try.prog 84 (.func #[48] #[4] false) 1 8 [.nilFunc] := ⟨by kernel_rfl, ⟨.nilFunc, by kernel_rfl, rfl⟩, rfl⟩
instance : TyI Try.prog 85 (.func #[26, 3, 48] #[42] false) 1 8 [.nilFunc] := ⟨by kernel_rfl, ⟨.nilFunc, by kernel_rfl, rfl⟩, rfl⟩
instance : TyI Try.prog 86 (.func #[48, 48] #[4] false) 1 8 [.nilFunc] := ⟨by kernel_rfl, ⟨.nilFunc, by kernel_rfl, rfl⟩, rfl⟩
instance : TyI Try.prog 87 (.func #[42] #[4] false) 1 8 [.nilFunc] := ⟨by kernel_rfl, ⟨.nilFunc, by kernel_rfl, rfl⟩, rfl⟩
instance : TyI Try.prog 88 (.func #[26, 3] #[4] false) 1 8 [.nilFunc] := ⟨by kernel_rfl, ⟨.nilFunc, by kernel_rfl, rfl⟩, rfl⟩
instance : TyI Try.prog 90 (.func #[26, 3] #[71, 4] false) 1 8 [.nilFunc] := ⟨by kernel_rfl, ⟨.nilFunc, by kernel_rfl, rfl⟩, rfl⟩
instance : TyI Try.prog 91 (.pointer 99) 1 8 [.pointer none] := ⟨by kernel_rfl, ⟨.pointer none, by kernel_rfl, rfl⟩, rfl⟩
instance : TyI Try.prog 92 (.struct #[⟨ "Index", 91, 0, true, "", "", 0⟩]) 1 8 [.pointer none] := ⟨by kernel_rfl, ⟨.agg #[.pointer none], by kernel_rfl, rfl⟩, rfl⟩
instance : TyI Try.prog 93 (.struct #[⟨ "Index", 91, 0, true, "", "", 0⟩]) 1 8 [.pointer none] := ⟨by kernel_rfl, ⟨.agg #[.pointer none], by kernel_rfl, rfl⟩, rfl⟩
instance : TyI Try.prog 94 (.map 102 3) 1 8 [.map none] := ⟨by kernel_rfl, ⟨.map none, by kernel_rfl, rfl⟩, rfl⟩
instance : TyI Try.prog 95 (.struct #[⟨ "Maker", 93, 0, true, "", "", 0⟩, ⟨ "done", 94, 1, false, "", "gosper/leap", 8⟩]) 2 16 [.pointer none, .map none] := ⟨by kernel_rfl, ⟨.agg #[.pointer none, .map none], by kernel_rfl, rfl⟩, rfl⟩
instance : TyI Try.prog 96 (.struct #[⟨ "Maker", 93, 0, true, "", "", 0⟩, ⟨ "done", 94, 1, false, "", "gosper/leap", 8⟩]) 2 16 [.pointer none, .map none] := ⟨by kernel_rfl, ⟨.agg #[.pointer none, .map none], by kernel_rfl, rfl⟩, rfl⟩
instance : TyI Try.prog 97 (.map 33 3) 1 8 [.map none] := ⟨by kernel_rfl, ⟨.map none, by kernel_rfl, rfl⟩, rfl⟩
instance : TyI Try.prog 98 (.struct #[⟨ "Store", 26, 0, true, "", "", 0⟩, ⟨ "places", 97, 2, false, "", "gosper/node", 32⟩]) 3 40 [.slice none 0 0, .int .i64 0, .map none] := ⟨by kernel_rfl, ⟨.agg #[.slice none 0 0, .int .i64 0, .map none], by kernel_rfl, rfl⟩, rfl⟩
instance : TyI Try.prog 99 (.struct #[⟨ "Store", 26, 0, true, "", "", 0⟩, ⟨ "places", 97, 2, false, "", "gosper/node", 32⟩]) 3 40 [.slice none 0 0, .int .i64 0, .map none] := ⟨by kernel_rfl, ⟨.agg #[.slice none 0 0, .int .i64 0, .map none], by kernel_rfl, rfl⟩, rfl⟩
instance : TyI Try.prog 101 (.struct #[⟨ "n", 3, 0, false, "", "gosper/leap", 0⟩, ⟨ "j", 3, 1, false, "", "gosper/leap", 8⟩]) 2 16 [.int .i64 0, .int .i64 0] := ⟨by kernel_rfl, ⟨.agg #[.int .i64 0, .int .i64 0], by kernel_rfl, rfl⟩, rfl⟩
instance : TyI Try.prog 102 (.struct #[⟨ "n", 3, 0, false, "", "gosper/leap", 0⟩, ⟨ "j", 3, 1, false, "", "gosper/leap", 8⟩]) 2 16 [.int .i64 0, .int .i64 0] := ⟨by kernel_rfl, ⟨.agg #[.int .i64 0, .int .i64 0], by kernel_rfl, rfl⟩, rfl⟩
instance : TyI Try.prog 103 (.struct #[⟨ "N", 3, 0, false, "", "", 0⟩, ⟨ "J", 3, 1, false, "", "", 8⟩, ⟨ "To", 3, 2, false, "", "", 16⟩]) 3 24 [.int .i64 0, .int .i64 0, .int .i64 0] := ⟨by kernel_rfl, ⟨.agg #[.int .i64 0, .int .i64 0, .int .i64 0], by kernel_rfl, rfl⟩, rfl⟩
instance : TyI Try.prog 104 (.struct #[⟨ "N", 3, 0, false, "", "", 0⟩, ⟨ "J", 3, 1, false, "", "", 8⟩, ⟨ "To", 3, 2, false, "", "", 16⟩]) 3 24 [.int .i64 0, .int .i64 0, .int .i64 0] := ⟨by kernel_rfl, ⟨.agg #[.int .i64 0, .int .i64 0, .int .i64 0], by kernel_rfl, rfl⟩, rfl⟩
instance : TyI Try.prog 105 (.func #[3, 3, 4] #[3] false) 1 8 [.nilFunc] := ⟨by kernel_rfl, ⟨.nilFunc, by kernel_rfl, rfl⟩, rfl⟩
instance : TyI Try.prog 106 (.func #[4, 3] #[4] false) 1 8 [.nilFunc] := ⟨by kernel_rfl, ⟨.nilFunc, by kernel_rfl, rfl⟩, rfl⟩
instance : TyI Try.prog 107 (.func #[42, 48] #[3] false) 1 8 [.nilFunc] := ⟨by kernel_rfl, ⟨.nilFunc, by kernel_rfl, rfl⟩, rfl⟩
instance : TyI Try.prog 108 (.func #[26, 33] #[3] false) 1 8 [.nilFunc] := ⟨by kernel_rfl, ⟨.nilFunc, by kernel_rfl, rfl⟩, rfl⟩
instance : TyI Try.prog 109 (.array 4 42) 4 96 [.slice none 0 0, .slice none 0 0, .slice none 0 0, .slice none 0 0] := ⟨by kernel_rfl, ⟨.agg #[.slice none 0 0, .slice none 0 0, .slice none 0 0, .slice none 0 0], by kernel_rfl, rfl⟩, rfl⟩
instance : TyI Try.prog 110 (.func #[42, 3] #[109] false) 1 8 [.nilFunc] := ⟨by kernel_rfl, ⟨.nilFunc, by kernel_rfl, rfl⟩, rfl⟩
instance : TyI Try.prog 112 (.func #[26, 3, 3] #[93, 4] false) 1 8 [.nilFunc] := ⟨by kernel_rfl, ⟨.nilFunc, by kernel_rfl, rfl⟩, rfl⟩
instance : TyI Try.prog 113 (.array 16 3) 16 128 [.int .i64 0, .int .i64 0, .int .i64 0, .int .i64 0, .int .i64 0, .int .i64 0, .int .i64 0, .int .i64 0, .int .i64 0, .int .i64 0, .int .i64 0, .int .i64 0, .int .i64 0, .int .i64 0, .int .i64 0, .int .i64 0] := ⟨by kernel_rfl, ⟨.agg #[.int .i64 0, .int .i64 0, .int .i64 0, .int .i64 0, .int .i64 0, .int .i64 0, .int .i64 0, .int .i64 0, .int .i64 0, .int .i64 0, .int .i64 0, .int .i64 0, .int .i64 0, .int .i64 0, .int .i64 0, .int .i64 0], by kernel_rfl, rfl⟩, rfl⟩
instance : TyI Try.prog 114 (.array 16 3) 16 128 [.int .i64 0, .int .i64 0, .int .i64 0, .int .i64 0, .int .i64 0, .int .i64 0, .int .i64 0, .int .i64 0, .int .i64 0, .int .i64 0, .int .i64 0, .int .i64 0, .int .i64 0, .int .i64 0, .int .i64 0, .int .i64 0] := ⟨by kernel_rfl, ⟨.agg #[.int .i64 0, .int .i64 0, .int .i64 0, .int .i64 0, .int .i64 0, .int .i64 0, .int .i64 0, .int .i64 0, .int .i64 0, .int .i64 0, .int .i64 0, .int .i64 0, .int .i64 0, .int .i64 0, .int .i64 0, .int .i64 0], by kernel_rfl, rfl⟩, rfl⟩
instance : TyI Try.prog 115 (.func #[3] #[114] false) 1 8 [.nilFunc] := ⟨by kernel_rfl, ⟨.nilFunc, by kernel_rfl, rfl⟩, rfl⟩
instance : TyI Try.prog 116 (.func #[33] #[3, 36] false) 1 8 [.nilFunc] := ⟨by kernel_rfl, ⟨.nilFunc, by kernel_rfl, rfl⟩, rfl⟩
instance : TyI Try.prog 117 (.array 9 3) 9 72 [.int .i64 0, .int .i64 0, .int .i64 0, .int .i64 0, .int .i64 0, .int .i64 0, .int .i64 0, .int .i64 0, .int .i64 0] := ⟨by kernel_rfl, ⟨.agg #[.int .i64 0, .int .i64 0, .int .i64 0, .int .i64 0, .int .i64 0, .int .i64 0, .int .i64 0, .int .i64 0, .int .i64 0], by kernel_rfl, rfl⟩, rfl⟩
instance : TyI Try.prog 119 (.func #[3, 3, 4] #[117, 36] false) 1 8 [.nilFunc] := ⟨by kernel_rfl, ⟨.nilFunc, by kernel_rfl, rfl⟩, rfl⟩
instance : TyI Try.prog 120 (.func #[26, 3] #[32] false) 1 8 [.nilFunc] := ⟨by kernel_rfl, ⟨.nilFunc, by kernel_rfl, rfl⟩, rfl⟩
instance : TyI Try.prog 122 (.func #[26, 3] #[26, 117, 36] false) 1 8 [.nilFunc] := ⟨by kernel_rfl, ⟨.nilFunc, by kernel_rfl, rfl⟩, rfl⟩
instance : TyI Try.prog 123 (.func #[33] #[3] false) 1 8 [.nilFunc] := ⟨by kernel_rfl, ⟨.nilFunc, by kernel_rfl, rfl⟩, rfl⟩
instance : TyI Try.prog 124 (.func #[3, 3] #[33] false) 1 8 [.nilFunc] := ⟨by kernel_rfl, ⟨.nilFunc, by kernel_rfl, rfl⟩, rfl⟩
instance : TyI Try.prog 125 (.func #[32, 3, 3] #[33] false) 1 8 [.nilFunc] := ⟨by kernel_rfl, ⟨.nilFunc, by kernel_rfl, rfl⟩, rfl⟩
instance : TyI Try.prog 127 (.func #[26] #[91, 4] false) 1 8 [.nilFunc] := ⟨by kernel_rfl, ⟨.nilFunc, by kernel_rfl, rfl⟩, rfl⟩
instance : TyI Try.prog 129 (.func #[33] #[35, 4] false) 1 8 [.nilFunc] := ⟨by kernel_rfl, ⟨.nilFunc, by kernel_rfl, rfl⟩, rfl⟩
instance : TyI Try.prog 130 (.func #[3] #[117, 36] false) 1 8 [.nilFunc] := ⟨by kernel_rfl, ⟨.nilFunc, by kernel_rfl, rfl⟩, rfl⟩
instance : TyI Try.prog 131 (.func #[24] #[24] false) 1 8 [.nilFunc] := ⟨by kernel_rfl, ⟨.nilFunc, by kernel_rfl, rfl⟩, rfl⟩
instance : TyI Try.prog 132 (.func #[] #[9] false) 1 8 [.nilFunc] := ⟨by kernel_rfl, ⟨.nilFunc, by kernel_rfl, rfl⟩, rfl⟩
instance : TyI Try.prog 133 (.struct #[⟨ "_interface", 17, 0, false, "", "runtime", 0⟩, ⟨ "concrete", 17, 1, false, "", "runtime", 8⟩, ⟨ "asserted", 17, 2, false, "", "runtime", 16⟩, ⟨ "missingMethod", 9, 3, false, "", "runtime", 24⟩]) 4 40 [.pointer none, .pointer none, .pointer none, .string ⟨#[]⟩] := ⟨by kernel_rfl, ⟨.agg #[.pointer none, .pointer none, .pointer none, .string ⟨#[]⟩], by kernel_rfl, rfl⟩, rfl⟩
instance : TyI Try.prog 134 (.struct #[⟨ "_interface", 17, 0, false, "", "runtime", 0⟩, ⟨ "concrete", 17, 1, false, "", "runtime", 8⟩, ⟨ "asserted", 17, 2, false, "", "runtime", 16⟩, ⟨ "missingMethod", 9, 3, false, "", "runtime", 24⟩]) 4 40 [.pointer none, .pointer none, .pointer none, .string ⟨#[]⟩] := ⟨by kernel_rfl, ⟨.agg #[.pointer none, .pointer none, .pointer none, .string ⟨#[]⟩], by kernel_rfl, rfl⟩, rfl⟩
instance : TyI Try.prog 135 (.array 0 16) 0 0 [] := ⟨by kernel_rfl, ⟨.agg #[], by kernel_rfl, rfl⟩, rfl⟩
instance : TyI Try.prog 136 (.struct #[⟨ "_", 135, 0, false, "", "runtime", 0⟩]) 0 0 [] := ⟨by kernel_rfl, ⟨.agg #[], by kernel_rfl, rfl⟩, rfl⟩
instance : TyI Try.prog 137 (.struct #[⟨ "_", 135, 0, false, "", "runtime", 0⟩]) 0 0 [] := ⟨by kernel_rfl, ⟨.agg #[], by kernel_rfl, rfl⟩, rfl⟩
instance : TyI Try.prog 138 (.func #[] #[3] false) 1 8 [.nilFunc] := ⟨by kernel_rfl, ⟨.nilFunc, by kernel_rfl, rfl⟩, rfl⟩
instance : TyI Try.prog 139 (.int .u32) 1 4 [.int .u32 0] := ⟨by kernel_rfl, ⟨.int .u32 0, by kernel_rfl, rfl⟩, rfl⟩
instance : TyI Try.prog 140 (.int .u8) 1 1 [.int .u8 0] := ⟨by kernel_rfl, ⟨.int .u8 0, by kernel_rfl, rfl⟩, rfl⟩
instance : TyI Try.prog 141 (.int .u8) 1 1 [.int .u8 0] := ⟨by kernel_rfl, ⟨.int .u8 0, by kernel_rfl, rfl⟩, rfl⟩
instance : TyI Try.prog 142 (.func #[148, 148] #[4] false) 1 8 [.nilFunc] := ⟨by kernel_rfl, ⟨.nilFunc, by kernel_rfl, rfl⟩, rfl⟩
instance : TyI Try.prog 143 (.pointer 5) 1 8 [.pointer none] := ⟨by kernel_rfl, ⟨.pointer none, by kernel_rfl, rfl⟩, rfl⟩
instance : TyI Try.prog 144 (.int .i32) 1 4 [.int .i32 0] := ⟨by kernel_rfl, ⟨.int .i32 0, by kernel_rfl, rfl⟩, rfl⟩
instance : TyI Try.prog 145 (.int .i32) 1 4 [.int .i32 0] := ⟨by kernel_rfl, ⟨.int .i32 0, by kernel_rfl, rfl⟩, rfl⟩
instance : TyI Try.prog 146 (.struct #[⟨ "Size_", 12, 0, false, "", "", 0⟩, ⟨ "PtrBytes", 12, 1, false, "", "", 8⟩, ⟨ "Hash", 139, 2, false, "", "", 16⟩, ⟨ "TFlag", 140, 3, false, "", "", 20⟩, ⟨ "Align_", 5, 4, false, "", "", 21⟩, ⟨ "FieldAlign_", 5, 5, false, "", "", 22⟩, ⟨ "Kind_", 141, 6, false, "", "", 23⟩, ⟨ "Equal", 142, 7, false, "", "", 24⟩, ⟨ "GCData", 143, 8, false, "", "", 32⟩, ⟨ "Str", 144, 9, false, "", "", 40⟩, ⟨ "PtrToThis", 145, 10, false, "", "", 44⟩]) 11 48 [.int .u64 0, .int .u64 0, .int .u32 0, .int .u8 0, .int .u8 0, .int .u8 0, .int .u8 0, .nilFunc, .pointer none, .int .i32 0, .int .i32 0] := ⟨by kernel_rfl, ⟨.agg #[.int .u64 0, .int .u64 0, .int .u32 0, .int .u8 0, .int .u8 0, .int .u8 0, .int .u8 0, .nilFunc, .pointer none, .int .i32 0, .int .i32 0], by kernel_rfl, rfl⟩, rfl⟩
instance : TyI Try.prog 147 (.struct #[⟨ "Size_", 12, 0, false, "", "", 0⟩, ⟨ "PtrBytes", 12, 1, false, "", "", 8⟩, ⟨ "Hash", 139, 2, false, "", "", 16⟩, ⟨ "TFlag", 140, 3, false, "", "", 20⟩, ⟨ "Align_", 5, 4, false, "", "", 21⟩, ⟨ "FieldAlign_", 5, 5, false, "", "", 22⟩, ⟨ "Kind_", 141, 6, false, "", "", 23⟩, ⟨ "Equal", 142, 7, false, "", "", 24⟩, ⟨ "GCData", 143, 8, false, "", "", 32⟩, ⟨ "Str", 144, 9, false, "", "", 40⟩, ⟨ "PtrToThis", 145, 10, false, "", "", 44⟩]) 11 48 [.int .u64 0, .int .u64 0, .int .u32 0, .int .u8 0, .int .u8 0, .int .u8 0, .int .u8 0, .nilFunc, .pointer none, .int .i32 0, .int .i32 0] := ⟨by kernel_rfl, ⟨.agg #[.int .u64 0, .int .u64 0, .int .u32 0, .int .u8 0, .int .u8 0, .int .u8 0, .int .u8 0, .nilFunc, .pointer none, .int .i32 0, .int .i32 0], by kernel_rfl, rfl⟩, rfl⟩
instance : TyI Try.prog 148 (.unsafePointer) 1 8 [.pointer none] := ⟨by kernel_rfl, ⟨.pointer none, by kernel_rfl, rfl⟩, rfl⟩
instance : FldI Try.prog 7 0 0 2 := ⟨#[⟨ "x", 2, 0, false, "", "runtime", 0⟩, ⟨ "y", 3, 1, false, "", "runtime", 8⟩, ⟨ "signed", 4, 2, false, "", "runtime", 16⟩, ⟨ "code", 6, 3, false, "", "runtime", 17⟩], _, by kernel_rfl, rfl, rfl, rfl⟩
instance : FldI Try.prog 7 1 1 3 := ⟨#[⟨ "x", 2, 0, false, "", "runtime", 0⟩, ⟨ "y", 3, 1, false, "", "runtime", 8⟩, ⟨ "signed", 4, 2, false, "", "runtime", 16⟩, ⟨ "code", 6, 3, false, "", "runtime", 17⟩], _, by kernel_rfl, rfl, rfl, rfl⟩
instance : FldI Try.prog 7 2 2 4 := ⟨#[⟨ "x", 2, 0, false, "", "runtime", 0⟩, ⟨ "y", 3, 1, false, "", "runtime", 8⟩, ⟨ "signed", 4, 2, false, "", "runtime", 16⟩, ⟨ "code", 6, 3, false, "", "runtime", 17⟩], _, by kernel_rfl, rfl, rfl, rfl⟩
instance : FldI Try.prog 7 3 3 6 := ⟨#[⟨ "x", 2, 0, false, "", "runtime", 0⟩, ⟨ "y", 3, 1, false, "", "runtime", 8⟩, ⟨ "signed", 4, 2, false, "", "runtime", 16⟩, ⟨ "code", 6, 3, false, "", "runtime", 17⟩], _, by kernel_rfl, rfl, rfl, rfl⟩
instance : TyF Try.prog 7 [(0, 1), (1, 1), (2, 1), (3, 1)] := ⟨#[⟨ "x", 2, 0, false, "", "runtime", 0⟩, ⟨ "y", 3, 1, false, "", "runtime", 8⟩, ⟨ "signed", 4, 2, false, "", "runtime", 16⟩, ⟨ "code", 6, 3, false, "", "runtime", 17⟩], by kernel_rfl, by kernel_rfl⟩
instance : FldI Try.prog 8 0 0 2 := ⟨#[⟨ "x", 2, 0, false, "", "runtime", 0⟩, ⟨ "y", 3, 1, false, "", "runtime", 8⟩, ⟨ "signed", 4, 2, false, "", "runtime", 16⟩, ⟨ "code", 6, 3, false, "", "runtime", 17⟩], _, by kernel_rfl, rfl, rfl, rfl⟩
instance : FldI Try.prog 8 1 1 3 := ⟨#[⟨ "x", 2, 0, false, "", "runtime", 0⟩, ⟨ "y", 3, 1, false, "", "runtime", 8⟩, ⟨ "signed", 4, 2, false, "", "runtime", 16⟩, ⟨ "code", 6, 3, false, "", "runtime", 17⟩], _, by kernel_rfl, rfl, rfl, rfl⟩
instance : FldI Try.prog 8 2 2 4 := ⟨#[⟨ "x", 2, 0, false, "", "runtime", 0⟩, ⟨ "y", 3, 1, false, "", "runtime", 8⟩, ⟨ "signed", 4, 2, false, "", "runtime", 16⟩, ⟨ "code", 6, 3, false, "", "runtime", 17⟩], _, by kernel_rfl, rfl, rfl, rfl⟩
instance : FldI Try.prog 8 3 3 6 := ⟨#[⟨ "x", 2, 0, false, "", "runtime", 0⟩, ⟨ "y", 3, 1, false, "", "runtime", 8⟩, ⟨ "signed", 4, 2, false, "", "runtime", 16⟩, ⟨ "code", 6, 3, false, "", "runtime", 17⟩], _, by kernel_rfl, rfl, rfl, rfl⟩
instance : TyF Try.prog 8 [(0, 1), (1, 1), (2, 1), (3, 1)] := ⟨#[⟨ "x", 2, 0, false, "", "runtime", 0⟩, ⟨ "y", 3, 1, false, "", "runtime", 8⟩, ⟨ "signed", 4, 2, false, "", "runtime", 16⟩, ⟨ "code", 6, 3, false, "", "runtime", 17⟩], by kernel_rfl, by kernel_rfl⟩
instance : FldI Try.prog 13 0 0 9 := ⟨#[⟨ "msg", 9, 0, false, "", "runtime", 0⟩, ⟨ "addr", 12, 1, false, "", "runtime", 16⟩], _, by kernel_rfl, rfl, rfl, rfl⟩
instance : FldI Try.prog 13 1 1 12 := ⟨#[⟨ "msg", 9, 0, false, "", "runtime", 0⟩, ⟨ "addr", 12, 1, false, "", "runtime", 16⟩], _, by kernel_rfl, rfl, rfl, rfl⟩
instance : TyF Try.prog 13 [(0, 1), (1, 1)] := ⟨#[⟨ "msg", 9, 0, false, "", "runtime", 0⟩, ⟨ "addr", 12, 1, false, "", "runtime", 16⟩], by kernel_rfl, by kernel_rfl⟩
instance : FldI Try.prog 14 0 0 9 := ⟨#[⟨ "msg", 9, 0, false, "", "runtime", 0⟩, ⟨ "addr", 12, 1, false, "", "runtime", 16⟩], _, by kernel_rfl, rfl, rfl, rfl⟩
instance : FldI Try.prog 14 1 1 12 := ⟨#[⟨ "msg", 9, 0, false, "", "runtime", 0⟩, ⟨ "addr", 12, 1, false, "", "runtime", 16⟩], _, by kernel_rfl, rfl, rfl, rfl⟩
instance : TyF Try.prog 14 [(0, 1), (1, 1)] := ⟨#[⟨ "msg", 9, 0, false, "", "runtime", 0⟩, ⟨ "addr", 12, 1, false, "", "runtime", 16⟩], by kernel_rfl, by kernel_rfl⟩
instance : FldI Try.prog 18 0 0 17 := ⟨#[⟨ "typ", 17, 0, false, "", "internal/runtime/maps", 0⟩], _, by kernel_rfl, rfl, rfl, rfl⟩
instance : TyF Try.prog 18 [(0, 1)] := ⟨#[⟨ "typ", 17, 0, false, "", "internal/runtime/maps", 0⟩], by kernel_rfl, by kernel_rfl⟩
instance : FldI Try.prog 19 0 0 17 := ⟨#[⟨ "typ", 17, 0, false, "", "internal/runtime/maps", 0⟩], _, by kernel_rfl, rfl, rfl, rfl⟩
instance : TyF Try.prog 19 [(0, 1)] := ⟨#[⟨ "typ", 17, 0, false, "", "internal/runtime/maps", 0⟩], by kernel_rfl, by kernel_rfl⟩
instance : FldI Try.prog 25 0 0 24 := ⟨#[⟨ "Nodes", 24, 0, false, "", "", 0⟩, ⟨ "Room", 3, 1, false, "", "", 24⟩], _, by kernel_rfl, rfl, rfl, rfl⟩
instance : FldI Try.prog 25 1 1 3 := ⟨#[⟨ "Nodes", 24, 0, false, "", "", 0⟩, ⟨ "Room", 3, 1, false, "", "", 24⟩], _, by kernel_rfl, rfl, rfl, rfl⟩
instance : TyF Try.prog 25 [(0, 1), (1, 1)] := ⟨#[⟨ "Nodes", 24, 0, false, "", "", 0⟩, ⟨ "Room", 3, 1, false, "", "", 24⟩], by kernel_rfl, by kernel_rfl⟩
instance : FldI Try.prog 26 0 0 24 := ⟨#[⟨ "Nodes", 24, 0, false, "", "", 0⟩, ⟨ "Room", 3, 1, false, "", "", 24⟩], _, by kernel_rfl, rfl, rfl, rfl⟩
instance : FldI Try.prog 26 1 1 3 := ⟨#[⟨ "Nodes", 24, 0, false, "", "", 0⟩, ⟨ "Room", 3, 1, false, "", "", 24⟩], _, by kernel_rfl, rfl, rfl, rfl⟩
instance : TyF Try.prog 26 [(0, 1), (1, 1)] := ⟨#[⟨ "Nodes", 24, 0, false, "", "", 0⟩, ⟨ "Room", 3, 1, false, "", "", 24⟩], by kernel_rfl, by kernel_rfl⟩
instance : IntTy Try.prog 33 4 := ⟨by kernel_rfl, fun _ => by kernel_rfl, by kernel_rfl⟩
instance : FldI Try.prog 34 0 0 3 := ⟨#[⟨ "Level", 3, 0, false, "", "", 0⟩, ⟨ "Kids", 33, 1, false, "", "", 8⟩, ⟨ "Pop", 3, 5, false, "", "", 40⟩], _, by kernel_rfl, rfl, rfl, rfl⟩
instance : FldI Try.prog 34 1 1 33 := ⟨#[⟨ "Level", 3, 0, false, "", "", 0⟩, ⟨ "Kids", 33, 1, false, "", "", 8⟩, ⟨ "Pop", 3, 5, false, "", "", 40⟩], _, by kernel_rfl, rfl, rfl, rfl⟩
instance : FldI Try.prog 34 2 5 3 := ⟨#[⟨ "Level", 3, 0, false, "", "", 0⟩, ⟨ "Kids", 33, 1, false, "", "", 8⟩, ⟨ "Pop", 3, 5, false, "", "", 40⟩], _, by kernel_rfl, rfl, rfl, rfl⟩
instance : TyF Try.prog 34 [(0, 1), (1, 4), (5, 1)] := ⟨#[⟨ "Level", 3, 0, false, "", "", 0⟩, ⟨ "Kids", 33, 1, false, "", "", 8⟩, ⟨ "Pop", 3, 5, false, "", "", 40⟩], by kernel_rfl, by kernel_rfl⟩
instance : IntTy Try.prog 34 6 := ⟨by kernel_rfl, fun _ => by kernel_rfl, by kernel_rfl⟩
instance : FldI Try.prog 35 0 0 3 := ⟨#[⟨ "Level", 3, 0, false, "", "", 0⟩, ⟨ "Kids", 33, 1, false, "", "", 8⟩, ⟨ "Pop", 3, 5, false, "", "", 40⟩], _, by kernel_rfl, rfl, rfl, rfl⟩
instance : FldI Try.prog 35 1 1 33 := ⟨#[⟨ "Level", 3, 0, false, "", "", 0⟩, ⟨ "Kids", 33, 1, false, "", "", 8⟩, ⟨ "Pop", 3, 5, false, "", "", 40⟩], _, by kernel_rfl, rfl, rfl, rfl⟩
instance : FldI Try.prog 35 2 5 3 := ⟨#[⟨ "Level", 3, 0, false, "", "", 0⟩, ⟨ "Kids", 33, 1, false, "", "", 8⟩, ⟨ "Pop", 3, 5, false, "", "", 40⟩], _, by kernel_rfl, rfl, rfl, rfl⟩
instance : TyF Try.prog 35 [(0, 1), (1, 4), (5, 1)] := ⟨#[⟨ "Level", 3, 0, false, "", "", 0⟩, ⟨ "Kids", 33, 1, false, "", "", 8⟩, ⟨ "Pop", 3, 5, false, "", "", 40⟩], by kernel_rfl, by kernel_rfl⟩
instance : IntTy Try.prog 35 6 := ⟨by kernel_rfl, fun _ => by kernel_rfl, by kernel_rfl⟩
instance : IntTy Try.prog 46 2 := ⟨by kernel_rfl, fun _ => by kernel_rfl, by kernel_rfl⟩
instance : FldI Try.prog 47 0 0 3 := ⟨#[⟨ "X", 3, 0, false, "", "", 0⟩, ⟨ "Y", 3, 1, false, "", "", 8⟩], _, by kernel_rfl, rfl, rfl, rfl⟩
instance : FldI Try.prog 47 1 1 3 := ⟨#[⟨ "X", 3, 0, false, "", "", 0⟩, ⟨ "Y", 3, 1, false, "", "", 8⟩], _, by kernel_rfl, rfl, rfl, rfl⟩
instance : TyF Try.prog 47 [(0, 1), (1, 1)] := ⟨#[⟨ "X", 3, 0, false, "", "", 0⟩, ⟨ "Y", 3, 1, false, "", "", 8⟩], by kernel_rfl, by kernel_rfl⟩
instance : IntTy Try.prog 47 2 := ⟨by kernel_rfl, fun _ => by kernel_rfl, by kernel_rfl⟩
instance : FldI Try.prog 48 0 0 3 := ⟨#[⟨ "X", 3, 0, false, "", "", 0⟩, ⟨ "Y", 3, 1, false, "", "", 8⟩], _, by kernel_rfl, rfl, rfl, rfl⟩
instance : FldI Try.prog 48 1 1 3 := ⟨#[⟨ "X", 3, 0, false, "", "", 0⟩, ⟨ "Y", 3, 1, false, "", "", 8⟩], _, by kernel_rfl, rfl, rfl, rfl⟩
instance : TyF Try.prog 48 [(0, 1), (1, 1)] := ⟨#[⟨ "X", 3, 0, false, "", "", 0⟩, ⟨ "Y", 3, 1, false, "", "", 8⟩], by kernel_rfl, by kernel_rfl⟩
instance : IntTy Try.prog 48 2 := ⟨by kernel_rfl, fun _ => by kernel_rfl, by kernel_rfl⟩
instance : IntTy Try.prog 69 5 := ⟨by kernel_rfl, fun _ => by kernel_rfl, by kernel_rfl⟩
instance : FldI Try.prog 80 0 0 26 := ⟨#[⟨ "S", 26, 0, false, "", "", 0⟩, ⟨ "Done", 79, 2, false, "", "", 32⟩, ⟨ "E", 36, 3, false, "", "", 56⟩], _, by kernel_rfl, rfl, rfl, rfl⟩
instance : FldI Try.prog 80 1 2 79 := ⟨#[⟨ "S", 26, 0, false, "", "", 0⟩, ⟨ "Done", 79, 2, false, "", "", 32⟩, ⟨ "E", 36, 3, false, "", "", 56⟩], _, by kernel_rfl, rfl, rfl, rfl⟩
instance : FldI Try.prog 80 2 3 36 := ⟨#[⟨ "S", 26, 0, false, "", "", 0⟩, ⟨ "Done", 79, 2, false, "", "", 32⟩, ⟨ "E", 36, 3, false, "", "", 56⟩], _, by kernel_rfl, rfl, rfl, rfl⟩
instance : TyF Try.prog 80 [(0, 2), (2, 1), (3, 1)] := ⟨#[⟨ "S", 26, 0, false, "", "", 0⟩, ⟨ "Done", 79, 2, false, "", "", 32⟩, ⟨ "E", 36, 3, false, "", "", 56⟩], by kernel_rfl, by kernel_rfl⟩
instance : FldI Try.prog 81 0 0 26 := ⟨#[⟨ "S", 26, 0, false, "", "", 0⟩, ⟨ "Done", 79, 2, false, "", "", 32⟩, ⟨ "E", 36, 3, false, "", "", 56⟩], _, by kernel_rfl, rfl, rfl, rfl⟩
instance : FldI Try.prog 81 1 2 79 := ⟨#[⟨ "S", 26, 0, false, "", "", 0⟩, ⟨ "Done", 79, 2, false, "", "", 32⟩, ⟨ "E", 36, 3, false, "", "", 56⟩], _, by kernel_rfl, rfl, rfl, rfl⟩
instance : FldI Try.prog 81 2 3 36 := ⟨#[⟨ "S", 26, 0, false, "", "", 0⟩, ⟨ "Done", 79, 2, false, "", "", 32⟩, ⟨ "E", 36, 3, false, "", "", 56⟩], _, by kernel_rfl, rfl, rfl, rfl⟩
instance : TyF Try.prog 81 [(0, 2), (2, 1), (3, 1)] := ⟨#[⟨ "S", 26, 0, false, "", "", 0⟩, ⟨ "Done", 79, 2, false, "", "", 32⟩, ⟨ "E", 36, 3, false, "", "", 56⟩], by kernel_rfl, by kernel_rfl⟩
instance : FldI Try.prog 92 0 0 91 := ⟨#[⟨ "Index", 91, 0, true, "", "", 0⟩], _, by kernel_rfl, rfl, rfl, rfl⟩
instance : TyF Try.prog 92 [(0, 1)] := ⟨#[⟨ "Index", 91, 0, true, "", "", 0⟩], by kernel_rfl, by kernel_rfl⟩
instance : FldI Try.prog 93 0 0 91 := ⟨#[⟨ "Index", 91, 0, true, "", "", 0⟩], _, by kernel_rfl, rfl, rfl, rfl⟩
instance : TyF Try.prog 93 [(0, 1)] := ⟨#[⟨ "Index", 91, 0, true, "", "", 0⟩], by kernel_rfl, by kernel_rfl⟩
instance : FldI Try.prog 95 0 0 93 := ⟨#[⟨ "Maker", 93, 0, true, "", "", 0⟩, ⟨ "done", 94, 1, false, "", "gosper/leap", 8⟩], _, by kernel_rfl, rfl, rfl, rfl⟩
instance : FldI Try.prog 95 1 1 94 := ⟨#[⟨ "Maker", 93, 0, true, "", "", 0⟩, ⟨ "done", 94, 1, false, "", "gosper/leap", 8⟩], _, by kernel_rfl, rfl, rfl, rfl⟩
instance : TyF Try.prog 95 [(0, 1), (1, 1)] := ⟨#[⟨ "Maker", 93, 0, true, "", "", 0⟩, ⟨ "done", 94, 1, false, "", "gosper/leap", 8⟩], by kernel_rfl, by kernel_rfl⟩
instance : FldI Try.prog 96 0 0 93 := ⟨#[⟨ "Maker", 93, 0, true, "", "", 0⟩, ⟨ "done", 94, 1, false, "", "gosper/leap", 8⟩], _, by kernel_rfl, rfl, rfl, rfl⟩
instance : FldI Try.prog 96 1 1 94 := ⟨#[⟨ "Maker", 93, 0, true, "", "", 0⟩, ⟨ "done", 94, 1, false, "", "gosper/leap", 8⟩], _, by kernel_rfl, rfl, rfl, rfl⟩
instance : TyF Try.prog 96 [(0, 1), (1, 1)] := ⟨#[⟨ "Maker", 93, 0, true, "", "", 0⟩, ⟨ "done", 94, 1, false, "", "gosper/leap", 8⟩], by kernel_rfl, by kernel_rfl⟩
instance : FldI Try.prog 98 0 0 26 := ⟨#[⟨ "Store", 26, 0, true, "", "", 0⟩, ⟨ "places", 97, 2, false, "", "gosper/node", 32⟩], _, by kernel_rfl, rfl, rfl, rfl⟩
instance : FldI Try.prog 98 1 2 97 := ⟨#[⟨ "Store", 26, 0, true, "", "", 0⟩, ⟨ "places", 97, 2, false, "", "gosper/node", 32⟩], _, by kernel_rfl, rfl, rfl, rfl⟩
instance : TyF Try.prog 98 [(0, 2), (2, 1)] := ⟨#[⟨ "Store", 26, 0, true, "", "", 0⟩, ⟨ "places", 97, 2, false, "", "gosper/node", 32⟩], by kernel_rfl, by kernel_rfl⟩
instance : FldI Try.prog 99 0 0 26 := ⟨#[⟨ "Store", 26, 0, true, "", "", 0⟩, ⟨ "places", 97, 2, false, "", "gosper/node", 32⟩], _, by kernel_rfl, rfl, rfl, rfl⟩
instance : FldI Try.prog 99 1 2 97 := ⟨#[⟨ "Store", 26, 0, true, "", "", 0⟩, ⟨ "places", 97, 2, false, "", "gosper/node", 32⟩], _, by kernel_rfl, rfl, rfl, rfl⟩
instance : TyF Try.prog 99 [(0, 2), (2, 1)] := ⟨#[⟨ "Store", 26, 0, true, "", "", 0⟩, ⟨ "places", 97, 2, false, "", "gosper/node", 32⟩], by kernel_rfl, by kernel_rfl⟩
instance : FldI Try.prog 101 0 0 3 := ⟨#[⟨ "n", 3, 0, false, "", "gosper/leap", 0⟩, ⟨ "j", 3, 1, false, "", "gosper/leap", 8⟩], _, by kernel_rfl, rfl, rfl, rfl⟩
instance : FldI Try.prog 101 1 1 3 := ⟨#[⟨ "n", 3, 0, false, "", "gosper/leap", 0⟩, ⟨ "j", 3, 1, false, "", "gosper/leap", 8⟩], _, by kernel_rfl, rfl, rfl, rfl⟩
instance : TyF Try.prog 101 [(0, 1), (1, 1)] := ⟨#[⟨ "n", 3, 0, false, "", "gosper/leap", 0⟩, ⟨ "j", 3, 1, false, "", "gosper/leap", 8⟩], by kernel_rfl, by kernel_rfl⟩
instance : IntTy Try.prog 101 2 := ⟨by kernel_rfl, fun _ => by kernel_rfl, by kernel_rfl⟩
instance : FldI Try.prog 102 0 0 3 := ⟨#[⟨ "n", 3, 0, false, "", "gosper/leap", 0⟩, ⟨ "j", 3, 1, false, "", "gosper/leap", 8⟩], _, by kernel_rfl, rfl, rfl, rfl⟩
instance : FldI Try.prog 102 1 1 3 := ⟨#[⟨ "n", 3, 0, false, "", "gosper/leap", 0⟩, ⟨ "j", 3, 1, false, "", "gosper/leap", 8⟩], _, by kernel_rfl, rfl, rfl, rfl⟩
instance : TyF Try.prog 102 [(0, 1), (1, 1)] := ⟨#[⟨ "n", 3, 0, false, "", "gosper/leap", 0⟩, ⟨ "j", 3, 1, false, "", "gosper/leap", 8⟩], by kernel_rfl, by kernel_rfl⟩
instance : IntTy Try.prog 102 2 := ⟨by kernel_rfl, fun _ => by kernel_rfl, by kernel_rfl⟩
instance : FldI Try.prog 103 0 0 3 := ⟨#[⟨ "N", 3, 0, false, "", "", 0⟩, ⟨ "J", 3, 1, false, "", "", 8⟩, ⟨ "To", 3, 2, false, "", "", 16⟩], _, by kernel_rfl, rfl, rfl, rfl⟩
instance : FldI Try.prog 103 1 1 3 := ⟨#[⟨ "N", 3, 0, false, "", "", 0⟩, ⟨ "J", 3, 1, false, "", "", 8⟩, ⟨ "To", 3, 2, false, "", "", 16⟩], _, by kernel_rfl, rfl, rfl, rfl⟩
instance : FldI Try.prog 103 2 2 3 := ⟨#[⟨ "N", 3, 0, false, "", "", 0⟩, ⟨ "J", 3, 1, false, "", "", 8⟩, ⟨ "To", 3, 2, false, "", "", 16⟩], _, by kernel_rfl, rfl, rfl, rfl⟩
instance : TyF Try.prog 103 [(0, 1), (1, 1), (2, 1)] := ⟨#[⟨ "N", 3, 0, false, "", "", 0⟩, ⟨ "J", 3, 1, false, "", "", 8⟩, ⟨ "To", 3, 2, false, "", "", 16⟩], by kernel_rfl, by kernel_rfl⟩
instance : IntTy Try.prog 103 3 := ⟨by kernel_rfl, fun _ => by kernel_rfl, by kernel_rfl⟩
instance : FldI Try.prog 104 0 0 3 := ⟨#[⟨ "N", 3, 0, false, "", "", 0⟩, ⟨ "J", 3, 1, false, "", "", 8⟩, ⟨ "To", 3, 2, false, "", "", 16⟩], _, by kernel_rfl, rfl, rfl, rfl⟩
instance : FldI Try.prog 104 1 1 3 := ⟨#[⟨ "N", 3, 0, false, "", "", 0⟩, ⟨ "J", 3, 1, false, "", "", 8⟩, ⟨ "To", 3, 2, false, "", "", 16⟩], _, by kernel_rfl, rfl, rfl, rfl⟩
instance : FldI Try.prog 104 2 2 3 := ⟨#[⟨ "N", 3, 0, false, "", "", 0⟩, ⟨ "J", 3, 1, false, "", "", 8⟩, ⟨ "To", 3, 2, false, "", "", 16⟩], _, by kernel_rfl, rfl, rfl, rfl⟩
instance : TyF Try.prog 104 [(0, 1), (1, 1), (2, 1)] := ⟨#[⟨ "N", 3, 0, false, "", "", 0⟩, ⟨ "J", 3, 1, false, "", "", 8⟩, ⟨ "To", 3, 2, false, "", "", 16⟩], by kernel_rfl, by kernel_rfl⟩
instance : IntTy Try.prog 104 3 := ⟨by kernel_rfl, fun _ => by kernel_rfl, by kernel_rfl⟩
instance : IntTy Try.prog 113 16 := ⟨by kernel_rfl, fun _ => by kernel_rfl, by kernel_rfl⟩
instance : IntTy Try.prog 114 16 := ⟨by kernel_rfl, fun _ => by kernel_rfl, by kernel_rfl⟩
instance : IntTy Try.prog 117 9 := ⟨by kernel_rfl, fun _ => by kernel_rfl, by kernel_rfl⟩
instance : FldI Try.prog 133 0 0 17 := ⟨#[⟨ "_interface", 17, 0, false, "", "runtime", 0⟩, ⟨ "concrete", 17, 1, false, "", "runtime", 8⟩, ⟨ "asserted", 17, 2, false, "", "runtime", 16⟩, ⟨ "missingMethod", 9, 3, false, "", "runtime", 24⟩], _, by kernel_rfl, rfl, rfl, rfl⟩
instance : FldI Try.prog 133 1 1 17 := ⟨#[⟨ "_interface", 17, 0, false, "", "runtime", 0⟩, ⟨ "concrete", 17, 1, false, "", "runtime", 8⟩, ⟨ "asserted", 17, 2, false, "", "runtime", 16⟩, ⟨ "missingMethod", 9, 3, false, "", "runtime", 24⟩], _, by kernel_rfl, rfl, rfl, rfl⟩
instance : FldI Try.prog 133 2 2 17 := ⟨#[⟨ "_interface", 17, 0, false, "", "runtime", 0⟩, ⟨ "concrete", 17, 1, false, "", "runtime", 8⟩, ⟨ "asserted", 17, 2, false, "", "runtime", 16⟩, ⟨ "missingMethod", 9, 3, false, "", "runtime", 24⟩], _, by kernel_rfl, rfl, rfl, rfl⟩
instance : FldI Try.prog 133 3 3 9 := ⟨#[⟨ "_interface", 17, 0, false, "", "runtime", 0⟩, ⟨ "concrete", 17, 1, false, "", "runtime", 8⟩, ⟨ "asserted", 17, 2, false, "", "runtime", 16⟩, ⟨ "missingMethod", 9, 3, false, "", "runtime", 24⟩], _, by kernel_rfl, rfl, rfl, rfl⟩
instance : TyF Try.prog 133 [(0, 1), (1, 1), (2, 1), (3, 1)] := ⟨#[⟨ "_interface", 17, 0, false, "", "runtime", 0⟩, ⟨ "concrete", 17, 1, false, "", "runtime", 8⟩, ⟨ "asserted", 17, 2, false, "", "runtime", 16⟩, ⟨ "missingMethod", 9, 3, false, "", "runtime", 24⟩], by kernel_rfl, by kernel_rfl⟩
instance : FldI Try.prog 134 0 0 17 := ⟨#[⟨ "_interface", 17, 0, false, "", "runtime", 0⟩, ⟨ "concrete", 17, 1, false, "", "runtime", 8⟩, ⟨ "asserted", 17, 2, false, "", "runtime", 16⟩, ⟨ "missingMethod", 9, 3, false, "", "runtime", 24⟩], _, by kernel_rfl, rfl, rfl, rfl⟩
instance : FldI Try.prog 134 1 1 17 := ⟨#[⟨ "_interface", 17, 0, false, "", "runtime", 0⟩, ⟨ "concrete", 17, 1, false, "", "runtime", 8⟩, ⟨ "asserted", 17, 2, false, "", "runtime", 16⟩, ⟨ "missingMethod", 9, 3, false, "", "runtime", 24⟩], _, by kernel_rfl, rfl, rfl, rfl⟩
instance : FldI Try.prog 134 2 2 17 := ⟨#[⟨ "_interface", 17, 0, false, "", "runtime", 0⟩, ⟨ "concrete", 17, 1, false, "", "runtime", 8⟩, ⟨ "asserted", 17, 2, false, "", "runtime", 16⟩, ⟨ "missingMethod", 9, 3, false, "", "runtime", 24⟩], _, by kernel_rfl, rfl, rfl, rfl⟩
instance : FldI Try.prog 134 3 3 9 := ⟨#[⟨ "_interface", 17, 0, false, "", "runtime", 0⟩, ⟨ "concrete", 17, 1, false, "", "runtime", 8⟩, ⟨ "asserted", 17, 2, false, "", "runtime", 16⟩, ⟨ "missingMethod", 9, 3, false, "", "runtime", 24⟩], _, by kernel_rfl, rfl, rfl, rfl⟩
instance : TyF Try.prog 134 [(0, 1), (1, 1), (2, 1), (3, 1)] := ⟨#[⟨ "_interface", 17, 0, false, "", "runtime", 0⟩, ⟨ "concrete", 17, 1, false, "", "runtime", 8⟩, ⟨ "asserted", 17, 2, false, "", "runtime", 16⟩, ⟨ "missingMethod", 9, 3, false, "", "runtime", 24⟩], by kernel_rfl, by kernel_rfl⟩
instance : FldI Try.prog 136 0 0 135 := ⟨#[⟨ "_", 135, 0, false, "", "runtime", 0⟩], _, by kernel_rfl, rfl, rfl, rfl⟩
instance : TyF Try.prog 136 [(0, 0)] := ⟨#[⟨ "_", 135, 0, false, "", "runtime", 0⟩], by kernel_rfl, by kernel_rfl⟩
instance : FldI Try.prog 137 0 0 135 := ⟨#[⟨ "_", 135, 0, false, "", "runtime", 0⟩], _, by kernel_rfl, rfl, rfl, rfl⟩
instance : TyF Try.prog 137 [(0, 0)] := ⟨#[⟨ "_", 135, 0, false, "", "runtime", 0⟩], by kernel_rfl, by kernel_rfl⟩
instance : FldI Try.prog 146 0 0 12 := ⟨#[⟨ "Size_", 12, 0, false, "", "", 0⟩, ⟨ "PtrBytes", 12, 1, false, "", "", 8⟩, ⟨ "Hash", 139, 2, false, "", "", 16⟩, ⟨ "TFlag", 140, 3, false, "", "", 20⟩, ⟨ "Align_", 5, 4, false, "", "", 21⟩, ⟨ "FieldAlign_", 5, 5, false, "", "", 22⟩, ⟨ "Kind_", 141, 6, false, "", "", 23⟩, ⟨ "Equal", 142, 7, false, "", "", 24⟩, ⟨ "GCData", 143, 8, false, "", "", 32⟩, ⟨ "Str", 144, 9, false, "", "", 40⟩, ⟨ "PtrToThis", 145, 10, false, "", "", 44⟩], _, by kernel_rfl, rfl, rfl, rfl⟩
instance : FldI Try.prog 146 1 1 12 := ⟨#[⟨ "Size_", 12, 0, false, "", "", 0⟩, ⟨ "PtrBytes", 12, 1, false, "", "", 8⟩, ⟨ "Hash", 139, 2, false, "", "", 16⟩, ⟨ "TFlag", 140, 3, false, "", "", 20⟩, ⟨ "Align_", 5, 4, false, "", "", 21⟩, ⟨ "FieldAlign_", 5, 5, false, "", "", 22⟩, ⟨ "Kind_", 141, 6, false, "", "", 23⟩, ⟨ "Equal", 142, 7, false, "", "", 24⟩, ⟨ "GCData", 143, 8, false, "", "", 32⟩, ⟨ "Str", 144, 9, false, "", "", 40⟩, ⟨ "PtrToThis", 145, 10, false, "", "", 44⟩], _, by kernel_rfl, rfl, rfl, rfl⟩
instance : FldI Try.prog 146 2 2 139 := ⟨#[⟨ "Size_", 12, 0, false, "", "", 0⟩, ⟨ "PtrBytes", 12, 1, false, "", "", 8⟩, ⟨ "Hash", 139, 2, false, "", "", 16⟩, ⟨ "TFlag", 140, 3, false, "", "", 20⟩, ⟨ "Align_", 5, 4, false, "", "", 21⟩, ⟨ "FieldAlign_", 5, 5, false, "", "", 22⟩, ⟨ "Kind_", 141, 6, false, "", "", 23⟩, ⟨ "Equal", 142, 7, false, "", "", 24⟩, ⟨ "GCData", 143, 8, false, "", "", 32⟩, ⟨ "Str", 144, 9, false, "", "", 40⟩, ⟨ "PtrToThis", 145, 10, false, "", "", 44⟩], _, by kernel_rfl, rfl, rfl, rfl⟩
instance : FldI Try.prog 146 3 3 140 := ⟨#[⟨ "Size_", 12, 0, false, "", "", 0⟩, ⟨ "PtrBytes", 12, 1, false, "", "", 8⟩, ⟨ "Hash", 139, 2, false, "", "", 16⟩, ⟨ "TFlag", 140, 3, false, "", "", 20⟩, ⟨ "Align_", 5, 4, false, "", "", 21⟩, ⟨ "FieldAlign_", 5, 5, false, "", "", 22⟩, ⟨ "Kind_", 141, 6, false, "", "", 23⟩, ⟨ "Equal", 142, 7, false, "", "", 24⟩, ⟨ "GCData", 143, 8, false, "", "", 32⟩, ⟨ "Str", 144, 9, false, "", "", 40⟩, ⟨ "PtrToThis", 145, 10, false, "", "", 44⟩], _, by kernel_rfl, rfl, rfl, rfl⟩
instance : FldI Try.prog 146 4 4 5 := ⟨#[⟨ "Size_", 12, 0, false, "", "", 0⟩, ⟨ "PtrBytes", 12, 1, false, "", "", 8⟩, ⟨ "Hash", 139, 2, false, "", "", 16⟩, ⟨ "TFlag", 140, 3, false, "", "", 20⟩, ⟨ "Align_", 5, 4, false, "", "", 21⟩, ⟨ "FieldAlign_", 5, 5, false, "", "", 22⟩, ⟨ "Kind_", 141, 6, false, "", "", 23⟩, ⟨ "Equal", 142, 7, false, "", "", 24⟩, ⟨ "GCData", 143, 8, false, "", "", 32⟩, ⟨ "Str", 144, 9, false, "", "", 40⟩, ⟨ "PtrToThis", 145, 10, false, "", "", 44⟩], _, by kernel_rfl, rfl, rfl, rfl⟩
instance : FldI Try.prog 146 5 5 5 := ⟨#[⟨ "Size_", 12, 0, false, "", "", 0⟩, ⟨ "PtrBytes", 12, 1, false, "", "", 8⟩, ⟨ "Hash", 139, 2, false, "", "", 16⟩, ⟨ "TFlag", 140, 3, false, "", "", 20⟩, ⟨ "Align_", 5, 4, false, "", "", 21⟩, ⟨ "FieldAlign_", 5, 5, false, "", "", 22⟩, ⟨ "Kind_", 141, 6, false, "", "", 23⟩, ⟨ "Equal", 142, 7, false, "", "", 24⟩, ⟨ "GCData", 143, 8, false, "", "", 32⟩, ⟨ "Str", 144, 9, false, "", "", 40⟩, ⟨ "PtrToThis", 145, 10, false, "", "", 44⟩], _, by kernel_rfl, rfl, rfl, rfl⟩
instance : FldI Try.prog 146 6 6 141 := ⟨#[⟨ "Size_", 12, 0, false, "", "", 0⟩, ⟨ "PtrBytes", 12, 1, false, "", "", 8⟩, ⟨ "Hash", 139, 2, false, "", "", 16⟩, ⟨ "TFlag", 140, 3, false, "", "", 20⟩, ⟨ "Align_", 5, 4, false, "", "", 21⟩, ⟨ "FieldAlign_", 5, 5, false, "", "", 22⟩, ⟨ "Kind_", 141, 6, false, "", "", 23⟩, ⟨ "Equal", 142, 7, false, "", "", 24⟩, ⟨ "GCData", 143, 8, false, "", "", 32⟩, ⟨ "Str", 144, 9, false, "", "", 40⟩, ⟨ "PtrToThis", 145, 10, false, "", "", 44⟩], _, by kernel_rfl, rfl, rfl, rfl⟩
instance : FldI Try.prog 146 7 7 142 := ⟨#[⟨ "Size_", 12, 0, false, "", "", 0⟩, ⟨ "PtrBytes", 12, 1, false, "", "", 8⟩, ⟨ "Hash", 139, 2, false, "", "", 16⟩, ⟨ "TFlag", 140, 3, false, "", "", 20⟩, ⟨ "Align_", 5, 4, false, "", "", 21⟩, ⟨ "FieldAlign_", 5, 5, false, "", "", 22⟩, ⟨ "Kind_", 141, 6, false, "", "", 23⟩, ⟨ "Equal", 142, 7, false, "", "", 24⟩, ⟨ "GCData", 143, 8, false, "", "", 32⟩, ⟨ "Str", 144, 9, false, "", "", 40⟩, ⟨ "PtrToThis", 145, 10, false, "", "", 44⟩], _, by kernel_rfl, rfl, rfl, rfl⟩
instance : FldI Try.prog 146 8 8 143 := ⟨#[⟨ "Size_", 12, 0, false, "", "", 0⟩, ⟨ "PtrBytes", 12, 1, false, "", "", 8⟩, ⟨ "Hash", 139, 2, false, "", "", 16⟩, ⟨ "TFlag", 140, 3, false, "", "", 20⟩, ⟨ "Align_", 5, 4, false, "", "", 21⟩, ⟨ "FieldAlign_", 5, 5, false, "", "", 22⟩, ⟨ "Kind_", 141, 6, false, "", "", 23⟩, ⟨ "Equal", 142, 7, false, "", "", 24⟩, ⟨ "GCData", 143, 8, false, "", "", 32⟩, ⟨ "Str", 144, 9, false, "", "", 40⟩, ⟨ "PtrToThis", 145, 10, false, "", "", 44⟩], _, by kernel_rfl, rfl, rfl, rfl⟩
instance : FldI Try.prog 146 9 9 144 := ⟨#[⟨ "Size_", 12, 0, false, "", "", 0⟩, ⟨ "PtrBytes", 12, 1, false, "", "", 8⟩, ⟨ "Hash", 139, 2, false, "", "", 16⟩, ⟨ "TFlag", 140, 3, false, "", "", 20⟩, ⟨ "Align_", 5, 4, false, "", "", 21⟩, ⟨ "FieldAlign_", 5, 5, false, "", "", 22⟩, ⟨ "Kind_", 141, 6, false, "", "", 23⟩, ⟨ "Equal", 142, 7, false, "", "", 24⟩, ⟨ "GCData", 143, 8, false, "", "", 32⟩, ⟨ "Str", 144, 9, false, "", "", 40⟩, ⟨ "PtrToThis", 145, 10, false, "", "", 44⟩], _, by kernel_rfl, rfl, rfl, rfl⟩
instance : FldI Try.prog 146 10 10 145 := ⟨#[⟨ "Size_", 12, 0, false, "", "", 0⟩, ⟨ "PtrBytes", 12, 1, false, "", "", 8⟩, ⟨ "Hash", 139, 2, false, "", "", 16⟩, ⟨ "TFlag", 140, 3, false, "", "", 20⟩, ⟨ "Align_", 5, 4, false, "", "", 21⟩, ⟨ "FieldAlign_", 5, 5, false, "", "", 22⟩, ⟨ "Kind_", 141, 6, false, "", "", 23⟩, ⟨ "Equal", 142, 7, false, "", "", 24⟩, ⟨ "GCData", 143, 8, false, "", "", 32⟩, ⟨ "Str", 144, 9, false, "", "", 40⟩, ⟨ "PtrToThis", 145, 10, false, "", "", 44⟩], _, by kernel_rfl, rfl, rfl, rfl⟩
instance : TyF Try.prog 146 [(0, 1), (1, 1), (2, 1), (3, 1), (4, 1), (5, 1), (6, 1), (7, 1), (8, 1), (9, 1), (10, 1)] := ⟨#[⟨ "Size_", 12, 0, false, "", "", 0⟩, ⟨ "PtrBytes", 12, 1, false, "", "", 8⟩, ⟨ "Hash", 139, 2, false, "", "", 16⟩, ⟨ "TFlag", 140, 3, false, "", "", 20⟩, ⟨ "Align_", 5, 4, false, "", "", 21⟩, ⟨ "FieldAlign_", 5, 5, false, "", "", 22⟩, ⟨ "Kind_", 141, 6, false, "", "", 23⟩, ⟨ "Equal", 142, 7, false, "", "", 24⟩, ⟨ "GCData", 143, 8, false, "", "", 32⟩, ⟨ "Str", 144, 9, false, "", "", 40⟩, ⟨ "PtrToThis", 145, 10, false, "", "", 44⟩], by kernel_rfl, by kernel_rfl⟩
instance : FldI Try.prog 147 0 0 12 := ⟨#[⟨ "Size_", 12, 0, false, "", "", 0⟩, ⟨ "PtrBytes", 12, 1, false, "", "", 8⟩, ⟨ "Hash", 139, 2, false, "", "", 16⟩, ⟨ "TFlag", 140, 3, false, "", "", 20⟩, ⟨ "Align_", 5, 4, false, "", "", 21⟩, ⟨ "FieldAlign_", 5, 5, false, "", "", 22⟩, ⟨ "Kind_", 141, 6, false, "", "", 23⟩, ⟨ "Equal", 142, 7, false, "", "", 24⟩, ⟨ "GCData", 143, 8, false, "", "", 32⟩, ⟨ "Str", 144, 9, false, "", "", 40⟩, ⟨ "PtrToThis", 145, 10, false, "", "", 44⟩], _, by kernel_rfl, rfl, rfl, rfl⟩
instance : FldI Try.prog 147 1 1 12 := ⟨#[⟨ "Size_", 12, 0, false, "", "", 0⟩, ⟨ "PtrBytes", 12, 1, false, "", "", 8⟩, ⟨ "Hash", 139, 2, false, "", "", 16⟩, ⟨ "TFlag", 140, 3, false, "", "", 20⟩, ⟨ "Align_", 5, 4, false, "", "", 21⟩, ⟨ "FieldAlign_", 5, 5, false, "", "", 22⟩, ⟨ "Kind_", 141, 6, false, "", "", 23⟩, ⟨ "Equal", 142, 7, false, "", "", 24⟩, ⟨ "GCData", 143, 8, false, "", "", 32⟩, ⟨ "Str", 144, 9, false, "", "", 40⟩, ⟨ "PtrToThis", 145, 10, false, "", "", 44⟩], _, by kernel_rfl, rfl, rfl, rfl⟩
instance : FldI Try.prog 147 2 2 139 := ⟨#[⟨ "Size_", 12, 0, false, "", "", 0⟩, ⟨ "PtrBytes", 12, 1, false, "", "", 8⟩, ⟨ "Hash", 139, 2, false, "", "", 16⟩, ⟨ "TFlag", 140, 3, false, "", "", 20⟩, ⟨ "Align_", 5, 4, false, "", "", 21⟩, ⟨ "FieldAlign_", 5, 5, false, "", "", 22⟩, ⟨ "Kind_", 141, 6, false, "", "", 23⟩, ⟨ "Equal", 142, 7, false, "", "", 24⟩, ⟨ "GCData", 143, 8, false, "", "", 32⟩, ⟨ "Str", 144, 9, false, "", "", 40⟩, ⟨ "PtrToThis", 145, 10, false, "", "", 44⟩], _, by kernel_rfl, rfl, rfl, rfl⟩
instance : FldI Try.prog 147 3 3 140 := ⟨#[⟨ "Size_", 12, 0, false, "", "", 0⟩, ⟨ "PtrBytes", 12, 1, false, "", "", 8⟩, ⟨ "Hash", 139, 2, false, "", "", 16⟩, ⟨ "TFlag", 140, 3, false, "", "", 20⟩, ⟨ "Align_", 5, 4, false, "", "", 21⟩, ⟨ "FieldAlign_", 5, 5, false, "", "", 22⟩, ⟨ "Kind_", 141, 6, false, "", "", 23⟩, ⟨ "Equal", 142, 7, false, "", "", 24⟩, ⟨ "GCData", 143, 8, false, "", "", 32⟩, ⟨ "Str", 144, 9, false, "", "", 40⟩, ⟨ "PtrToThis", 145, 10, false, "", "", 44⟩], _, by kernel_rfl, rfl, rfl, rfl⟩
instance : FldI Try.prog 147 4 4 5 := ⟨#[⟨ "Size_", 12, 0, false, "", "", 0⟩, ⟨ "PtrBytes", 12, 1, false, "", "", 8⟩, ⟨ "Hash", 139, 2, false, "", "", 16⟩, ⟨ "TFlag", 140, 3, false, "", "", 20⟩, ⟨ "Align_", 5, 4, false, "", "", 21⟩, ⟨ "FieldAlign_", 5, 5, false, "", "", 22⟩, ⟨ "Kind_", 141, 6, false, "", "", 23⟩, ⟨ "Equal", 142, 7, false, "", "", 24⟩, ⟨ "GCData", 143, 8, false, "", "", 32⟩, ⟨ "Str", 144, 9, false, "", "", 40⟩, ⟨ "PtrToThis", 145, 10, false, "", "", 44⟩], _, by kernel_rfl, rfl, rfl, rfl⟩
instance : FldI Try.prog 147 5 5 5 := ⟨#[⟨ "Size_", 12, 0, false, "", "", 0⟩, ⟨ "PtrBytes", 12, 1, false, "", "", 8⟩, ⟨ "Hash", 139, 2, false, "", "", 16⟩, ⟨ "TFlag", 140, 3, false, "", "", 20⟩, ⟨ "Align_", 5, 4, false, "", "", 21⟩, ⟨ "FieldAlign_", 5, 5, false, "", "", 22⟩, ⟨ "Kind_", 141, 6, false, "", "", 23⟩, ⟨ "Equal", 142, 7, false, "", "", 24⟩, ⟨ "GCData", 143, 8, false, "", "", 32⟩, ⟨ "Str", 144, 9, false, "", "", 40⟩, ⟨ "PtrToThis", 145, 10, false, "", "", 44⟩], _, by kernel_rfl, rfl, rfl, rfl⟩
instance : FldI Try.prog 147 6 6 141 := ⟨#[⟨ "Size_", 12, 0, false, "", "", 0⟩, ⟨ "PtrBytes", 12, 1, false, "", "", 8⟩, ⟨ "Hash", 139, 2, false, "", "", 16⟩, ⟨ "TFlag", 140, 3, false, "", "", 20⟩, ⟨ "Align_", 5, 4, false, "", "", 21⟩, ⟨ "FieldAlign_", 5, 5, false, "", "", 22⟩, ⟨ "Kind_", 141, 6, false, "", "", 23⟩, ⟨ "Equal", 142, 7, false, "", "", 24⟩, ⟨ "GCData", 143, 8, false, "", "", 32⟩, ⟨ "Str", 144, 9, false, "", "", 40⟩, ⟨ "PtrToThis", 145, 10, false, "", "", 44⟩], _, by kernel_rfl, rfl, rfl, rfl⟩
instance : FldI Try.prog 147 7 7 142 := ⟨#[⟨ "Size_", 12, 0, false, "", "", 0⟩, ⟨ "PtrBytes", 12, 1, false, "", "", 8⟩, ⟨ "Hash", 139, 2, false, "", "", 16⟩, ⟨ "TFlag", 140, 3, false, "", "", 20⟩, ⟨ "Align_", 5, 4, false, "", "", 21⟩, ⟨ "FieldAlign_", 5, 5, false, "", "", 22⟩, ⟨ "Kind_", 141, 6, false, "", "", 23⟩, ⟨ "Equal", 142, 7, false, "", "", 24⟩, ⟨ "GCData", 143, 8, false, "", "", 32⟩, ⟨ "Str", 144, 9, false, "", "", 40⟩, ⟨ "PtrToThis", 145, 10, false, "", "", 44⟩], _, by kernel_rfl, rfl, rfl, rfl⟩
instance : FldI Try.prog 147 8 8 143 := ⟨#[⟨ "Size_", 12, 0, false, "", "", 0⟩, ⟨ "PtrBytes", 12, 1, false, "", "", 8⟩, ⟨ "Hash", 139, 2, false, "", "", 16⟩, ⟨ "TFlag", 140, 3, false, "", "", 20⟩, ⟨ "Align_", 5, 4, false, "", "", 21⟩, ⟨ "FieldAlign_", 5, 5, false, "", "", 22⟩, ⟨ "Kind_", 141, 6, false, "", "", 23⟩, ⟨ "Equal", 142, 7, false, "", "", 24⟩, ⟨ "GCData", 143, 8, false, "", "", 32⟩, ⟨ "Str", 144, 9, false, "", "", 40⟩, ⟨ "PtrToThis", 145, 10, false, "", "", 44⟩], _, by kernel_rfl, rfl, rfl, rfl⟩
instance : FldI Try.prog 147 9 9 144 := ⟨#[⟨ "Size_", 12, 0, false, "", "", 0⟩, ⟨ "PtrBytes", 12, 1, false, "", "", 8⟩, ⟨ "Hash", 139, 2, false, "", "", 16⟩, ⟨ "TFlag", 140, 3, false, "", "", 20⟩, ⟨ "Align_", 5, 4, false, "", "", 21⟩, ⟨ "FieldAlign_", 5, 5, false, "", "", 22⟩, ⟨ "Kind_", 141, 6, false, "", "", 23⟩, ⟨ "Equal", 142, 7, false, "", "", 24⟩, ⟨ "GCData", 143, 8, false, "", "", 32⟩, ⟨ "Str", 144, 9, false, "", "", 40⟩, ⟨ "PtrToThis", 145, 10, false, "", "", 44⟩], _, by kernel_rfl, rfl, rfl, rfl⟩
instance : FldI Try.prog 147 10 10 145 := ⟨#[⟨ "Size_", 12, 0, false, "", "", 0⟩, ⟨ "PtrBytes", 12, 1, false, "", "", 8⟩, ⟨ "Hash", 139, 2, false, "", "", 16⟩, ⟨ "TFlag", 140, 3, false, "", "", 20⟩, ⟨ "Align_", 5, 4, false, "", "", 21⟩, ⟨ "FieldAlign_", 5, 5, false, "", "", 22⟩, ⟨ "Kind_", 141, 6, false, "", "", 23⟩, ⟨ "Equal", 142, 7, false, "", "", 24⟩, ⟨ "GCData", 143, 8, false, "", "", 32⟩, ⟨ "Str", 144, 9, false, "", "", 40⟩, ⟨ "PtrToThis", 145, 10, false, "", "", 44⟩], _, by kernel_rfl, rfl, rfl, rfl⟩
instance : TyF Try.prog 147 [(0, 1), (1, 1), (2, 1), (3, 1), (4, 1), (5, 1), (6, 1), (7, 1), (8, 1), (9, 1), (10, 1)] := ⟨#[⟨ "Size_", 12, 0, false, "", "", 0⟩, ⟨ "PtrBytes", 12, 1, false, "", "", 8⟩, ⟨ "Hash", 139, 2, false, "", "", 16⟩, ⟨ "TFlag", 140, 3, false, "", "", 20⟩, ⟨ "Align_", 5, 4, false, "", "", 21⟩, ⟨ "FieldAlign_", 5, 5, false, "", "", 22⟩, ⟨ "Kind_", 141, 6, false, "", "", 23⟩, ⟨ "Equal", 142, 7, false, "", "", 24⟩, ⟨ "GCData", 143, 8, false, "", "", 32⟩, ⟨ "Str", 144, 9, false, "", "", 40⟩, ⟨ "PtrToThis", 145, 10, false, "", "", 44⟩], by kernel_rfl, by kernel_rfl⟩
instance : FnI Try.prog 3 := ⟨Try.f3, Try.func3, by kernel_rfl, by kernel_rfl⟩ -- gosper/gosperlaw09.LeapTells
instance : FnI Try.prog 4 := ⟨Try.f4, Try.func4, by kernel_rfl, by kernel_rfl⟩ -- gosper/gosperlaw09.LeapStands
instance : FnI Try.prog 5 := ⟨Try.f5, Try.func5, by kernel_rfl, by kernel_rfl⟩ -- gosper/gosperlaw09.LeapRuns
instance : FnI Try.prog 6 := ⟨Try.f6, Try.func6, by kernel_rfl, by kernel_rfl⟩ -- gosper/gosperlaw09.LeapSteps
instance : FnI Try.prog 7 := ⟨Try.f7, Try.func7, by kernel_rfl, by kernel_rfl⟩ -- gosper/gosperlaw09.LeapFar
instance : FnI Try.prog 8 := ⟨Try.f8, Try.func8, by kernel_rfl, by kernel_rfl⟩ -- gosper/gosperlaw09.LeapTrims
instance : FnI Try.prog 9 := ⟨Try.f9, Try.func9, by kernel_rfl, by kernel_rfl⟩ -- gosper/gosperlaw09.LeapHalves
instance : FnI Try.prog 10 := ⟨Try.f10, Try.func10, by kernel_rfl, by kernel_rfl⟩ -- gosper/gosperlaw09.LeapDead
instance : FnI Try.prog 11 := ⟨Try.f11, Try.func11, by kernel_rfl, by kernel_rfl⟩ -- gosper/gosperlaw09.LeapMirror
instance : FnI Try.prog 12 := ⟨Try.f12, Try.func12, by kernel_rfl, by kernel_rfl⟩ -- gosper/gosperlaw09.awake
instance : FnI Try.prog 13 := ⟨Try.f13, Try.func13, by kernel_rfl, by kernel_rfl⟩ -- gosper/gosperlaw09.Field
instance : FnI Try.prog 14 := ⟨Try.f14, Try.func14, by kernel_rfl, by kernel_rfl⟩ -- gosper/gosperlaw09.pick
instance : FnI Try.prog 15 := ⟨Try.f15, Try.func15, by kernel_rfl, by kernel_rfl⟩ -- gosper/leap.Leap
instance : FnI Try.prog 16 := ⟨Try.f16, Try.func16, by kernel_rfl, by kernel_rfl⟩ -- gosper/gosperref09.Leap
instance : FnI Try.prog 17 := ⟨Try.f17, Try.func17, by kernel_rfl, by kernel_rfl⟩ -- gosper/gosperref06.Same
instance : FnI Try.prog 18 := ⟨Try.f18, Try.func18, by kernel_rfl, by kernel_rfl⟩ -- gosper/leap.Trim
instance : FnI Try.prog 19 := ⟨Try.f19, Try.func19, by kernel_rfl, by kernel_rfl⟩ -- gosper/gosperref09.Trim
instance : FnI Try.prog 20 := ⟨Try.f20, Try.func20, by kernel_rfl, by kernel_rfl⟩ -- gosper/leap.Run
instance : FnI Try.prog 21 := ⟨Try.f21, Try.func21, by kernel_rfl, by kernel_rfl⟩ -- gosper/gosperref09.Run
instance : FnI Try.prog 22 := ⟨Try.f22, Try.func22, by kernel_rfl, by kernel_rfl⟩ -- gosper/gosperref01.Of
instance : FnI Try.prog 23 := ⟨Try.f23, Try.func23, by kernel_rfl, by kernel_rfl⟩ -- gosper/gosperref07.Of
instance : FnI Try.prog 24 := ⟨Try.f24, Try.func24, by kernel_rfl, by kernel_rfl⟩ -- gosper/gosperref01.Put
instance : FnI Try.prog 25 := ⟨Try.f25, Try.func25, by kernel_rfl, by kernel_rfl⟩ -- gosper/gosperref02.Run
instance : FnI Try.prog 26 := ⟨Try.f26, Try.func26, by kernel_rfl, by kernel_rfl⟩ -- gosper/gosperref01.Same
instance : FnI Try.prog 27 := ⟨Try.f27, Try.func27, by kernel_rfl, by kernel_rfl⟩ -- gosper/gosperlaw09.crop
instance : FnI Try.prog 28 := ⟨Try.f28, Try.func28, by kernel_rfl, by kernel_rfl⟩ -- gosper/gosperref06.Right
instance : FnI Try.prog 29 := ⟨Try.f29, Try.func29, by kernel_rfl, by kernel_rfl⟩ -- gosper/gosperlaw01.Set
instance : FnI Try.prog 30 := ⟨Try.f30, Try.func30, by kernel_rfl, by kernel_rfl⟩ -- gosper/gosperref07.Make
instance : FnI Try.prog 31 := ⟨Try.f31, Try.func31, by kernel_rfl, by kernel_rfl⟩ -- gosper/gosperref06.New
instance : FnI Try.prog 32 := ⟨Try.f32, Try.func32, by kernel_rfl, by kernel_rfl⟩ -- gosper/gosperlaw09.glider
instance : FnI Try.prog 33 := ⟨Try.f33, Try.func33, by kernel_rfl, by kernel_rfl⟩ -- gosper/gosperref01.Shift
instance : FnI Try.prog 34 := ⟨Try.f34, Try.func34, by kernel_rfl, by kernel_rfl⟩ -- gosper/gosperref07.Grow
instance : FnI Try.prog 35 := ⟨Try.f35, Try.func35, by kernel_rfl, by kernel_rfl⟩ -- gosper/gosperref07.In
instance : FnI Try.prog 36 := ⟨Try.f36, Try.func36, by kernel_rfl, by kernel_rfl⟩ -- gosper/gosperref06.Empty
instance : FnI Try.prog 37 := ⟨Try.f37, Try.func37, by kernel_rfl, by kernel_rfl⟩ -- gosper/gosperref01.Has
instance : FnI Try.prog 38 := ⟨Try.f38, Try.func38, by kernel_rfl, by kernel_rfl⟩ -- gosper/gosperref06.Intern
instance : FnI Try.prog 39 := ⟨Try.f39, Try.func39, by kernel_rfl, by kernel_rfl⟩ -- gosper/leap.told
instance : FnI Try.prog 40 := ⟨Try.f40, Try.func40, by kernel_rfl, by kernel_rfl⟩ -- gosper/leap.Leap$1
instance : FnI Try.prog 41 := ⟨Try.f41, Try.func41, by kernel_rfl, by kernel_rfl⟩ -- (*gosper/leap.Leaper).level
instance : FnI Try.prog 42 := ⟨Try.f42, Try.func42, by kernel_rfl, by kernel_rfl⟩ -- gosper/leap.Leap$2
instance : FnI Try.prog 43 := ⟨Try.f43, Try.func43, by kernel_rfl, by kernel_rfl⟩ -- (*gosper/leap.Leaper).Leap
instance : FnI Try.prog 44 := ⟨Try.f44, Try.func44, by kernel_rfl, by kernel_rfl⟩ -- gosper/gosperref08.May
instance : FnI Try.prog 45 := ⟨Try.f45, Try.func45, by kernel_rfl, by kernel_rfl⟩ -- (*gosper/gosperref09.Leaper).leap
instance : FnI Try.prog 46 := ⟨Try.f46, Try.func46, by kernel_rfl, by kernel_rfl⟩ -- gosper/leap.Trim$1
instance : FnI Try.prog 47 := ⟨Try.f47, Try.func47, by kernel_rfl, by kernel_rfl⟩ -- gosper/leap.Trim$2
instance : FnI Try.prog 48 := ⟨Try.f48, Try.func48, by kernel_rfl, by kernel_rfl⟩ -- (*gosper/leap.Leaper).Trim
instance : FnI Try.prog 49 := ⟨Try.f49, Try.func49, by kernel_rfl, by kernel_rfl⟩ -- (*gosper/gosperref09.Leaper).trim
instance : FnI Try.prog 50 := ⟨Try.f50, Try.func50, by kernel_rfl, by kernel_rfl⟩ -- gosper/leap.Run$1
instance : FnI Try.prog 51 := ⟨Try.f51, Try.func51, by kernel_rfl, by kernel_rfl⟩ -- gosper/leap.Run$2
instance : FnI Try.prog 52 := ⟨Try.f52, Try.func52, by kernel_rfl, by kernel_rfl⟩ -- (*gosper/leap.Leaper).Run
instance : FnI Try.prog 53 := ⟨Try.f53, Try.func53, by kernel_rfl, by kernel_rfl⟩ -- gosper/gosperref03.Bits
instance : FnI Try.prog 54 := ⟨Try.f54, Try.func54, by kernel_rfl, by kernel_rfl⟩ -- (*gosper/gosperref09.Leaper).grow
instance : FnI Try.prog 55 := ⟨Try.f55, Try.func55, by kernel_rfl, by kernel_rfl⟩ -- gosper/gosperref01.In
instance : FnI Try.prog 56 := ⟨Try.f56, Try.func56, by kernel_rfl, by kernel_rfl⟩ -- gosper/gosperref07.Flat
instance : FnI Try.prog 57 := ⟨Try.f57, Try.func57, by kernel_rfl, by kernel_rfl⟩ -- gosper/gosperref01.less
instance : FnI Try.prog 58 := ⟨Try.f58, Try.func58, by kernel_rfl, by kernel_rfl⟩ -- gosper/gosperref01.Right
instance : FnI Try.prog 59 := ⟨Try.f59, Try.func59, by kernel_rfl, by kernel_rfl⟩ -- gosper/gosperref02.Next
instance : FnI Try.prog 60 := ⟨Try.f60, Try.func60, by kernel_rfl, by kernel_rfl⟩ -- gosper/gosperref06.fits
instance : FnI Try.prog 61 := ⟨Try.f61, Try.func61, by kernel_rfl, by kernel_rfl⟩ -- gosper/gosperlaw01.pick
instance : FnI Try.prog 62 := ⟨Try.f62, Try.func62, by kernel_rfl, by kernel_rfl⟩ -- gosper/gosperref07.build
instance : FnI Try.prog 63 := ⟨Try.f63, Try.func63, by kernel_rfl, by kernel_rfl⟩ -- gosper/gosperref07.corner
instance : FnI Try.prog 64 := ⟨Try.f64, Try.func64, by kernel_rfl, by kernel_rfl⟩ -- gosper/gosperref07.May
instance : FnI Try.prog 65 := ⟨Try.f65, Try.func65, by kernel_rfl, by kernel_rfl⟩ -- gosper/gosperref07.Larger
instance : FnI Try.prog 66 := ⟨Try.f66, Try.func66, by kernel_rfl, by kernel_rfl⟩ -- gosper/gosperref06.Put
instance : FnI Try.prog 67 := ⟨Try.f67, Try.func67, by kernel_rfl, by kernel_rfl⟩ -- gosper/leap.Of
instance : FnI Try.prog 68 := ⟨Try.f68, Try.func68, by kernel_rfl, by kernel_rfl⟩ -- (gosper/base.Maker).Step
instance : FnI Try.prog 69 := ⟨Try.f69, Try.func69, by kernel_rfl, by kernel_rfl⟩ -- (*gosper/leap.Leaper).make
instance : FnI Try.prog 70 := ⟨Try.f70, Try.func70, by kernel_rfl, by kernel_rfl⟩ -- gosper/gosperref08.One
instance : FnI Try.prog 71 := ⟨Try.f71, Try.func71, by kernel_rfl, by kernel_rfl⟩ -- (*gosper/gosperref09.Leaper).far
instance : FnI Try.prog 72 := ⟨Try.f72, Try.func72, by kernel_rfl, by kernel_rfl⟩ -- (*gosper/leap.Leaper).edged
instance : FnI Try.prog 73 := ⟨Try.f73, Try.func73, by kernel_rfl, by kernel_rfl⟩ -- (gosper/base.Maker).Centre
instance : FnI Try.prog 74 := ⟨Try.f74, Try.func74, by kernel_rfl, by kernel_rfl⟩ -- gosper/gosperref09.edge
instance : FnI Try.prog 75 := ⟨Try.f75, Try.func75, by kernel_rfl, by kernel_rfl⟩ -- gosper/gosperref08.Middle
instance : FnI Try.prog 76 := ⟨Try.f76, Try.func76, by kernel_rfl, by kernel_rfl⟩ -- gosper/count.Bits
instance : FnI Try.prog 77 := ⟨Try.f77, Try.func77, by kernel_rfl, by kernel_rfl⟩ -- (*gosper/leap.Leaper).power
instance : FnI Try.prog 78 := ⟨Try.f78, Try.func78, by kernel_rfl, by kernel_rfl⟩ -- gosper/gosperref02.Lives
instance : FnI Try.prog 79 := ⟨Try.f79, Try.func79, by kernel_rfl, by kernel_rfl⟩ -- gosper/gosperref02.around
instance : FnI Try.prog 80 := ⟨Try.f80, Try.func80, by kernel_rfl, by kernel_rfl⟩ -- gosper/gosperref06.at
instance : FnI Try.prog 81 := ⟨Try.f81, Try.func81, by kernel_rfl, by kernel_rfl⟩ -- gosper/gosperref07.empty
instance : FnI Try.prog 82 := ⟨Try.f82, Try.func82, by kernel_rfl, by kernel_rfl⟩ -- gosper/gosperref07.parts
instance : FnI Try.prog 83 := ⟨Try.f83, Try.func83, by kernel_rfl, by kernel_rfl⟩ -- gosper/base.Of
instance : FnI Try.prog 84 := ⟨Try.f84, Try.func84, by kernel_rfl, by kernel_rfl⟩ -- (gosper/base.Maker).sixteen
instance : FnI Try.prog 85 := ⟨Try.f85, Try.func85, by kernel_rfl, by kernel_rfl⟩ -- gosper/life.Lives
instance : FnI Try.prog 86 := ⟨Try.f86, Try.func86, by kernel_rfl, by kernel_rfl⟩ -- (gosper/base.sixteen).around
instance : FnI Try.prog 87 := ⟨Try.f87, Try.func87, by kernel_rfl, by kernel_rfl⟩ -- (*gosper/node.Index).Put
instance : FnI Try.prog 88 := ⟨Try.f88, Try.func88, by kernel_rfl, by kernel_rfl⟩ -- (*gosper/leap.Leaper).half
instance : FnI Try.prog 89 := ⟨Try.f89, Try.func89, by kernel_rfl, by kernel_rfl⟩ -- gosper/gosperref08.Sixteen
instance : FnI Try.prog 90 := ⟨Try.f90, Try.func90, by kernel_rfl, by kernel_rfl⟩ -- gosper/gosperref08.All
instance : FnI Try.prog 91 := ⟨Try.f91, Try.func91, by kernel_rfl, by kernel_rfl⟩ -- (*gosper/gosperref09.Leaper).put
instance : FnI Try.prog 92 := ⟨Try.f92, Try.func92, by kernel_rfl, by kernel_rfl⟩ -- (gosper/base.sixteen).square
instance : FnI Try.prog 93 := ⟨Try.f93, Try.func93, by kernel_rfl, by kernel_rfl⟩ -- gosper/gosperref08.square
instance : FnI Try.prog 94 := ⟨Try.f94, Try.func94, by kernel_rfl, by kernel_rfl⟩ -- (*gosper/leap.Leaper).grow
instance : FnI Try.prog 95 := ⟨Try.f95, Try.func95, by kernel_rfl, by kernel_rfl⟩ -- gosper/node.Of
instance : FnI Try.prog 96 := ⟨Try.f96, Try.func96, by kernel_rfl, by kernel_rfl⟩ -- (*gosper/node.Index).parent
instance : FnI Try.prog 97 := ⟨Try.f97, Try.func97, by kernel_rfl, by kernel_rfl⟩ -- (gosper/base.Maker).Nine
instance : FnI Try.prog 98 := ⟨Try.f98, Try.func98, by kernel_rfl, by kernel_rfl⟩ -- (*gosper/node.Index).Empty
instance : FnI Try.prog 99 := ⟨Try.f99, Try.func99, by kernel_rfl, by kernel_rfl⟩ -- slices.Clone[[]gosper/api.Node,gosper/api.Node]
theorem mixed : Try.prog.follows .mixedOrders = true := by kernel_rfl
end Go.GL


set_option linter.unusedSimpArgs false
namespace Go.GL
section
variable {w0 : World} {n : Nat} {F : Frm} {A : List Asrt} {I : List Chunk} {P : Program}
variable {dst : Option Tmp} {ty : TypeId} {pos : String} {af : Array Edge} {gd : Option (Nat × Bool)}
variable {x y : Operand} {xt yt : TypeId}
theorem opv_notD {p : Prop} [Decidable p] (hx : ev F x = some (.bool (decide p))) : OpV P w0 n ⟨dst, .unOp .not xt x, ty, pos, af, gd⟩ F A I (.bool (decide (¬ p))) :=
 fun t w hf hs => by simp [execOp, hf.eval hx, Op.unary]
section
variable {s by_ : Nat} {z : List Value}
theorem run_equal_bool [TyI P xt .bool s by_ z] (a b : Bool) (w : World) : (Op.equal xt (.bool a) (.bool b)).run P w = .ok (decide (a = b)) w := by
 show (Op.equalIn (_ + 1) xt (.bool a) (.bool b)).run P w = _
 unfold Op.equalIn
 rw [Sem.run_bind, run_und (P := P) (t := xt)]
 cases a <;> cases b <;> simp
theorem opv_eqlB {a b : Bool} [TyI P xt .bool s by_ z] (hx : ev F x = some (.bool a)) (hy : ev F y = some (.bool b)) : OpV P w0 n ⟨dst, .binOp .eql xt x y yt, ty, pos, af, gd⟩ F A I (.bool (decide (a = b))) :=
 fun t w hf hs => by simp only [execOp, hf.eval hx, hf.eval hy, eqGuard_at_bool, binOp, Sem.run_bind, Sem.run_pure, Result.andThen_ok, run_equal_bool]
theorem opv_neqB {a b : Bool} [TyI P xt .bool s by_ z] (hx : ev F x = some (.bool a)) (hy : ev F y = some (.bool b)) : OpV P w0 n ⟨dst, .binOp .neq xt x y yt, ty, pos, af, gd⟩ F A I (.bool (decide (a ≠ b))) :=
 fun t w hf hs => by
  have e : (!decide (a = b)) = decide (a ≠ b) := by simp
  simp only [execOp, hf.eval hx, hf.eval hy, eqGuard_at_bool, binOp, Sem.run_bind, Sem.run_pure, Result.andThen_ok, run_equal_bool, e]
end
/-- '1 << b'. -/
theorem opv_shl1 {b : Int} {yk : IntKind} (hx : ev F x = some (.int .i64 1)) (hy : ev F y = some (.int yk b)) (hb : 0 ≤ b) (hb2 : b ≤ 62) : OpV P w0 n ⟨dst, .binOp .shl xt x y yt, ty, pos, af, gd⟩ F A I (.int .i64 (2 ^ b.toNat)) := by
 refine opv_shl hx hy hb ?_
 have h1 : min b.toNat IntKind.i64.bits = b.toNat := by
  show min b.toNat 64 = b.toNat
  omega
 rw [h1, Int.one_mul]
 have h3 : (2:Nat) ^ b.toNat ≤ 2 ^ 62 := Nat.pow_le_pow_right (by omega) (by omega)
 have h4 : ((2:Int)) ^ b.toNat = ((2 ^ b.toNat : Nat) : Int) := by simp
 rw [h4]
 generalize (2:Nat) ^ b.toNat = k at h3
 exact w64 (by omega) (by omega)
/-! #### places told by plain numbers -/
theorem opv_indexAddrSN {α : Type} [Enc α] {xs : List α} {k : IntKind} {i : Nat} {ix : Operand} {t e : TypeId} {s by_ s' by' : Nat} {z z' : List Value} {d' : TypeDesc} {a : Option Addr} {len cap : Nat} [TyI P t (.slice e) s by_ z] [TyI P e d' s' by' z'] (hx : ev F x = some (.slice a len cap)) (hi : ev F ix = some (.int k (Int.ofNat i))) (h1 : i < len) (hs : SlAt I a xs) (hl : len = xs.length) :
  OpV P w0 n ⟨dst, .indexAddr t x ix, ty, pos, af, gd⟩ F A I (epf a s' i 0) := opv_indexAddrS hx hi (Int.natCast_nonneg i) (Int.ofNat_lt.2 h1) hs hl
theorem opv_remE {a b : Int} (hx : ev F x = some (.int .i64 a)) (hy : ev F y = some (.int .i64 b)) (ha : 0 ≤ a) (hb : 0 < b) : OpV P w0 n ⟨dst, .binOp .rem xt x y yt, ty, pos, af, gd⟩ F A I (.int .i64 (a % b)) :=
 opv_rem hx hy (by omega) (Int.tmod_eq_emod_of_nonneg ha)
theorem opv_quoE {a b : Int} (hx : ev F x = some (.int .i64 a)) (hy : ev F y = some (.int .i64 b)) (ha : 0 ≤ a) (hb : 0 < b) (ha2 : a < 9223372036854775808) : OpV P w0 n ⟨dst, .binOp .quo xt x y yt, ty, pos, af, gd⟩ F A I (.int .i64 (a / b)) :=
 opv_quo hx hy (by omega) (by
  rw [Int.tdiv_eq_ediv_of_nonneg ha]
  have h1 : a / b ≤ a := Int.ediv_le_self b ha
  have h2 : 0 ≤ a / b := Int.ediv_nonneg ha (by omega)
  generalize a / b = q at h1 h2
  exact w64 (by omega) (by omega))
/-- A slice to be read, with its room. -/
structure StA {α : Type} [Enc α] (I : List Chunk) (a : Option Addr) (cap : Nat) (xs : List α) : Prop where
 sl : SlAt I a xs
 le : xs.length ≤ cap
theorem StA.mono {α : Type} [Enc α] {I J : List Chunk} {a : Option Addr} {cap : Nat} {xs : List α} (h : StA I a cap xs) (hs : I ⊆ J) : StA J a cap xs := ⟨h.sl.mono hs, h.le⟩
theorem StA.nil {α : Type} [Enc α] {I : List Chunk} {a : Option Addr} {cap : Nat} : StA I a cap ([] : List α) := ⟨SlAt.nil, Nat.zero_le _⟩
theorem tri_freezeRowC {α : Type} [Enc α] {xs : List α} {E : TypeId} {a : Option Addr} {cap : Nat} {K : Act → World → Prop} (hz : Nat.beq (Enc.sz α) 0 = false) (h : ∀ I', I ⊆ I' → StA I' a cap xs → Tri w0 n F A I' K) : Tri w0 n F (Row a cap xs.length E (Enc.sz α) (encs xs) :: A) I K := by
 by_cases hle : xs.length ≤ cap
 ·exact tri_freezeRow hz fun I' hI hs => h I' hI ⟨hs, hle⟩
 ·intro t w hf hst
  obtain ⟨cs, h1, h2⟩ := hst
  obtain ⟨c, cs', rfl, ⟨hl, ha⟩, hr⟩ := h1.cons_inv
  rcases ha with ⟨_, h3, h4, _⟩ | ⟨_, _, _, _, _, h3, _⟩ <;> omega
/-- A block that will not be written any more is a slice to be read. -/
theorem tri_freezeBoxS {α : Type} [Enc α] (xs : List α) {b : Nat} {cs : List Value} {T : TypeId} {K : Act → World → Prop} (hc : cs = encs xs) (h : ∀ I', I ⊆ I' → SlAt I' (some ⟨b, 0, none⟩) xs → Tri w0 n F A I' K) : Tri w0 n F (Box b cs T :: A) I K := by
 refine tri_freezeBox (h _ (fun _ h => List.mem_cons_of_mem _ h) (.inr ⟨b, 0, rfl, _, T, (0, 0), List.mem_cons_self, fun j v hj => ?_⟩))
 rw [← hc] at hj
 simpa using hj
theorem opv_negE {a : Int} (hx : ev F x = some (.int .i64 a)) (h1 : -9223372036854775808 ≤ -a) (h2 : -a ≤ 9223372036854775807) : OpV P w0 n ⟨dst, .unOp .neg xt x, ty, pos, af, gd⟩ F A I (.int .i64 (-a)) :=
 opv_neg hx (by rw [Int.zero_sub]; exact w64 (by omega) (by omega))
/-! #### what is held, in another order -/
theorem range_filterMap (A : List Asrt) : ∀ n, (List.range n).filterMap (A[·]?) = A.take n
 | 0 => by simp
 | n + 1 => by
  rw [List.range_succ, List.filterMap_append, range_filterMap A n, List.take_add_one]
  cases h : A[n]? <;> simp [h]
theorem permL (σ : List Nat) (ys T : List Asrt) (hσ : σ.Perm (List.range σ.length)) (hl : ys.length = σ.length) : (ys ++ T).Perm (σ.filterMap (ys[·]?) ++ T) := by
 have h1 := hσ.filterMap (ys[·]?)
 rw [range_filterMap, ← hl, List.take_length] at h1
 exact (h1.symm).append_right T
variable {Q : Exit → Act → World → Prop} {ops : Array Oper} {rest : List Oper} {d : Nat}
/-! #### A guard that was not made itself -/
theorem yielded_u {t : Array Value} (hf : Fr t n F) {j dj : Nat} (hj : (ops[j]?).bind (·.dst) = some dj) (hv : look F dj = some undef) : yielded ops t j = none := by
 unfold yielded
 rw [hj, Option.bind_some, hf.get dj _ hv]
 rfl
theorem tri_guard_skip_u {op : Op} {j dj : Nat} {c : Bool} (hj : (ops[j]?).bind (·.dst) = some dj) (hv : look F dj = some undef) (hn : dOk n ⟨dst, op, ty, pos, af, none⟩ = true)
  (k : Tri w0 n (putF dst undef F) A I (wpList P ops Q rest)) : Tri w0 n F A I (wpList P ops Q (⟨dst, op, ty, pos, af, some (j, c)⟩ :: rest)) := by
 intro t w hf hs
 have hy := yielded_u (ops := ops) hf hj hv
 unfold wpList
 rw [if_neg (by simp [Region.wanted, hy]), act_put]
 exact k _ _ (hf.putF (o := ⟨dst, op, ty, pos, af, none⟩) hn undef) hs
theorem th_skip_u {B : List Asrt} {J : List Chunk} {i j dj : Nat} {c : Bool} {ord : List Nat} {listed : Array Bool} {op : Op} (ho : ops[i]? = some ⟨some d, op, ty, pos, af, some (j, c)⟩) (hn : Nat.blt d n = true)
  (hj : (ops[j]?).bind (·.dst) = some dj) (hv : look F dj = some undef)
  (hfree : (Region.noSelect ops && Region.free .any ops listed i && (Region.ready .any ops listed).contains i) = true) [hQ : QP Q]
  (k : TriH P w0 n ops Q B J ord (listed.setIfInBounds i true) ((d, undef) :: F) A I) : TriH P w0 n ops Q B J (i :: ord) listed F A I := by
 simp only [Bool.and_eq_true] at hfree
 intro t w hf hs hS
 refine wpAnyH_take (v := undef) ho hfree.1.1 hfree.1.2 hfree.2 (fun c a w h => hQ.h c _ _ w (by cases a; rfl) h) (.inr ⟨by simp [Region.wanted, yielded_u (ops := ops) hf hj hv], rfl⟩) hS ?_
 exact k _ _ (hf.put d (Nat.le_of_ble_eq_true hn) undef) hs hS
theorem step_skip_u {B : List Asrt} {J : List Chunk} {i j dj : Nat} {c : Bool} {ord : List Nat} {listed : Array Bool} {op : Op} (ho : ops[i]? = some ⟨dst, op, ty, pos, af, some (j, c)⟩) (hn : dOk n ⟨dst, op, ty, pos, af, some (j, c)⟩ = true)
  (hj : (ops[j]?).bind (·.dst) = some dj) (hv : look F dj = some undef)
  (k : TriH P w0 n ops Q B J ord (listed.setIfInBounds i true) (putF dst undef F) A I) : Step P w0 n ops Q B J i ord listed F A I := by
 intro t w hf hs hS
 unfold wpOp
 simp only [ho]
 rw [if_neg (by simp [Region.wanted, yielded_u (ops := ops) hf hj hv])]
 refine ⟨hS, ?_⟩
 rw [act_put]
 exact k _ _ (hf.putF (o := ⟨dst, op, ty, pos, af, some (j, c)⟩) hn undef) hs hS
end
end Go.GL


set_option linter.unusedSimpArgs false
namespace Go.GL
open Enc (enc)
theorem encs_drop {α : Type} [Enc α] (xs : List α) {l : Nat} (hl : l ≤ xs.length) (j : Nat) : (encs (xs.drop l))[j]? = (encs xs)[l * Enc.sz α + j]? := by
 have h1 : encs xs = encs (xs.take l) ++ encs (xs.drop l) := by rw [← encs_append, List.take_append_drop]
 have h2 : (encs (xs.take l)).length = l * Enc.sz α := by rw [encs_length, List.length_take, Nat.min_eq_left hl]
 rw [h1, List.getElem?_append_right (by omega), h2]
 congr 1
 omega
theorem encs_take {α : Type} [Enc α] (xs : List α) (l j : Nat) (v : Value) (h : (encs (xs.take l))[j]? = some v) : (encs xs)[j]? = some v := by
 have h1 : encs xs = encs (xs.take l) ++ encs (xs.drop l) := by rw [← encs_append, List.take_append_drop]
 rw [h1, List.getElem?_append_left (List.getElem?_eq_some_iff.1 h).1]
 exact h
theorem SlAt.take {α : Type} [Enc α] {I : List Chunk} {a : Option Addr} {xs : List α} (h : SlAt I a xs) (l : Nat) : SlAt I a (xs.take l) := by
 rcases h with rfl | ⟨b, off, rfl, cs, T, fz, hm, hc⟩
 ·exact .inl (by simp)
 ·exact .inr ⟨b, off, rfl, cs, T, fz, hm, fun j v hj => hc j v (encs_take xs l j v hj)⟩
theorem tk_intro : ∀ {n off : Nat} {cs vs : List Value}, vs.length = n → 0 < n → (∀ j, j < n → cs[off + j]? = vs[j]?) → tk cs off n = some vs
 | 0, _, cs, vs, _, h0, _ => absurd h0 (by omega)
 | n + 1, 0, cs, vs, h, _, hj => by
  cases vs with
  | nil => simp at h
  | cons v vs =>
   have h0 := hj 0 (by omega)
   cases cs with
   | nil => simp at h0
   | cons c cs =>
    simp only [Nat.add_zero, List.getElem?_cons_zero, Option.some.injEq] at h0
    subst h0
    have : tk cs 0 n = some vs := by
     rcases Nat.eq_zero_or_pos n with rfl | hn
     ·have : vs = [] := List.eq_nil_of_length_eq_zero (by simpa using h)
      subst this
      cases cs <;> rfl
     ·exact tk_intro (n := n) (off := 0) (cs := cs) (vs := vs) (by simpa using h) hn (fun j hj' => by have := hj (j + 1) (by omega); simpa using this)
    simp [tk, this]
 | n + 1, off + 1, cs, vs, h, _, hj => by
  cases cs with
  | nil =>
   cases vs with
   | nil => simp at h
   | cons v vs => have h0 := hj 0 (by omega); simp at h0
  | cons c cs =>
   have := tk_intro (n := n + 1) (off := off) (cs := cs) (vs := vs) h (by omega) (fun j hj' => by have := hj j hj'; rw [show off + 1 + j = (off + j) + 1 by omega] at this; simpa using this)
   simpa [tk] using this
section
variable {w0 : World} {n : Nat} {F : Frm} {A : List Asrt} {I : List Chunk} {P : Program}
variable {dst : Option Tmp} {ty : TypeId} {pos : String} {af : Array Edge} {gd : Option (Nat × Bool)}
variable {x y ix : Operand} {t e E : TypeId} {d d' : TypeDesc} {s by_ s' by' : Nat} {z z' : List Value} {a : Option Addr} {len cap : Nat}
/-- A place of an array that is a value. -/
theorem opv_index {vs : List Value} {l2 : Nat} {k : IntKind} {i : Int} {v : Value} [TyI P t (.array l2 e) s by_ z] [TyI P e d' s' by' z'] (hx : ev F x = some (.agg vs.toArray)) (hi : ev F ix = some (.int k i)) (h0 : 0 ≤ i) (h1 : i < l2) (hd : isA d' = false) (hv : vs[i.toNat * s']? = some v) :
  OpV P w0 n ⟨dst, .index t x ix, ty, pos, af, gd⟩ F A I v := by
 intro tt w hf hs
 simp [execOp, hf.eval hx, hf.eval hi, Instr.index, asIntOf, run_und (P := P) (t := t), h0, h1, run_size (P := P) (t := e), part, run_isA (P := P) (t := e), hd, hv]
theorem opv_makeFunc {f : Fn} {fs cs : List Operand} {vf vc : List Value} (hf1 : fs.map (ev F) = vf.map some) (hc : cs.map (ev F) = vc.map some) : OpV P w0 n ⟨dst, .makeFunc f fs.toArray cs.toArray, ty, pos, af, gd⟩ F A I (.func f vf.toArray vc.toArray) := by
 intro tt w hf hs
 have e1 := evs hf hf1
 have e2 := evs hf hc
 simp only [execOp, Instr.makeFunc, e1, e2, Sem.run_bind, Sem.run_pure, Result.andThen_ok]
/-- Is the slice nil? -/
theorem opv_eqlNil {len2 cap2 : Nat} [TyI P t (.slice e) s by_ z] {yt : TypeId} (hx : ev F x = some (.slice a len cap)) (hy : ev F y = some (.slice none len2 cap2)) : OpV P w0 n ⟨dst, .binOp .eql t x y yt, ty, pos, af, gd⟩ F A I (.bool a.isNone) := by
 intro tt w hf hs
 have he : (Op.equal t (.slice a len cap) (.slice none len2 cap2)).run P w = .ok a.isNone w := by
  show (Op.equalIn (_ + 1) t _ _).run P w = _
  unfold Op.equalIn
  rw [Sem.run_bind, run_und (P := P) (t := t)]
  cases a <;> simp
 simp only [execOp, hf.eval hx, hf.eval hy, eqGuard_at_slice, binOp, Sem.run_bind, Sem.run_pure, Result.andThen_ok, he]
/-- 'x[:h]'. -/
theorem opv_sliceHi {α : Type} [Enc α] {xs : List α} {hi : Operand} {k : IntKind} {h : Int} [TyI P t (.slice e) s by_ z] [TyI P e d' s' by' z'] (hx : ev F x = some (.slice a len cap)) (hh : ev F hi = some (.int k h)) (h0 : 0 ≤ h) (h1 : h ≤ len) (hs : StA I a cap xs) (hl : len = xs.length) :
  OpV P w0 n ⟨dst, .slice t x none (some hi) none, ty, pos, af, gd⟩ F A I (.slice a (xs.take h.toNat).length cap) := by
 intro tt w hf hst
 have hle := hs.le
 have hc : h ≤ cap := by omega
 have hlen : (xs.take h.toNat).length = h.toNat := by rw [List.length_take]; omega
 have ha : (if cap = 0 then a else a.map (fun q => q.add (0 * s'))) = a := by
  split
  ·rfl
  ·rcases hs.sl with rfl | ⟨b, off, rfl, _⟩
   ·cases a with
    | none => rfl
    | some q => cases q with
     | mk bl of pa => cases pa <;> simp [Addr.add]
   ·simp [add_pt]
 rw [hlen]
 simp [execOp, hf.eval hx, hf.eval hh, Instr.sliceAt, Instr.slice, run_und (P := P) (t := t), Instr.sliceBounds, Instr.sliceBound, asIntOf, h0, hc, run_size (P := P) (t := e)]
 simpa using ha
/-- 'x[l:]'. -/
theorem opg_sliceLo {α : Type} [Enc α] {xs : List α} {lo : Operand} {k : IntKind} {l : Int} [TyI P t (.slice e) s by_ z] [TyI P e d' s' by' z'] (hx : ev F x = some (.slice a len cap)) (hh : ev F lo = some (.int k l)) (h0 : 0 ≤ l) (h1 : l ≤ len) (hs : StA I a cap xs) (hl : len = xs.length) (hz : Enc.sz α = s') :
  OpG P w0 n ⟨dst, .slice t x (some lo) none none, ty, pos, af, gd⟩ F A I (fun v A' I' => ∃ a', v = .slice a' (xs.drop l.toNat).length (cap - l.toNat) ∧ StA I a' (cap - l.toNat) (xs.drop l.toNat) ∧ A = A' ∧ I = I') := by
 refine opg_run fun tt w hf hst => ?_
 have hle := hs.le
 have hlen : (xs.drop l.toNat).length = len - l.toNat := by rw [List.length_drop]; omega
 refine ⟨.slice (if cap = l.toNat then a else a.map (fun q => q.add (l.toNat * s'))) (len - l.toNat) (cap - l.toNat), w, A, I, ?_, ⟨_, by rw [hlen], ?_, rfl, rfl⟩, hst⟩
 ·simp [execOp, hf.eval hx, hf.eval hh, Instr.sliceAt, Instr.slice, run_und (P := P) (t := t), Instr.sliceBounds, Instr.sliceBound, asIntOf, h0, h1, run_size (P := P) (t := e)]
 ·refine ⟨?_, by rw [hlen]; omega⟩
  split
  ·left
   exact List.drop_of_length_le (by omega)
  ·rcases hs.sl with rfl | ⟨b, off, rfl, cs, T, fz, hm, hc⟩
   ·exact .inl (by simp)
   ·refine .inr ⟨b, off + l.toNat * s', by simp [add_pt], cs, T, fz, hm, fun j v hj => ?_⟩
    rw [encs_drop xs (by omega), hz] at hj
    rw [Nat.add_assoc]
    exact hc _ v hj
/-- Loads out of a row whose cells are told as plain things. -/
theorem opv_loadRX1 {α : Type} [Enc α] [Inhabited α] {xs : List α} {i fo sz : Nat} {v : Value} {u : Asrt → List Asrt} [SelR A a cap len E sz (encs xs) u] [TyI P t d s by_ z] (hx : ev F x = some (epf a sz i fo)) (hz : Enc.sz α = sz) (hi : i < xs.length) (hd : isA d = false) (hv : (enc (xs.getD i default))[fo]? = some v) : OpV P w0 n ⟨dst, .load t x, ty, pos, af, gd⟩ F A I v := by
 subst hz
 have hfo : fo < Enc.sz α := by have := (List.getElem?_eq_some_iff.1 hv).1; rwa [Enc.hlen] at this
 exact opv_loadR1 (gd := gd) hx hd (by rw [encs_get xs i fo hi hfo, hv])
theorem opv_loadRXA {α : Type} [Enc α] [Inhabited α] {xs : List α} {i fo sz : Nat} {vs : List Value} {u : Asrt → List Asrt} [SelR A a cap len E sz (encs xs) u] [TyI P t d s by_ z] (hx : ev F x = some (epf a sz i fo)) (hz : Enc.sz α = sz) (hi : i < xs.length) (hd : isA d = true) (h0 : Nat.blt 0 s = true) (hv : tk (enc (xs.getD i default)) fo s = some vs) : OpV P w0 n ⟨dst, .load t x, ty, pos, af, gd⟩ F A I (.agg vs.toArray) := by
 subst hz
 obtain ⟨h1, h2⟩ := tk_spec hv
 refine opv_loadRA (gd := gd) hx hd h0 (tk_intro h1 (Nat.le_of_ble_eq_true h0) fun j hj => ?_)
 have hlt : fo + j < Enc.sz α := by
  have : (enc (xs.getD i default))[fo + j]? = some vs[j] := by rw [h2 j hj]; simp [show j < vs.length by omega]
  have := (List.getElem?_eq_some_iff.1 this).1
  rwa [Enc.hlen] at this
 rw [Nat.add_assoc, encs_get xs i (fo + j) hi hlt, h2 j hj]
/-- A whole number out of a block of such. -/
theorem opv_loadIX {l : List Int} {b off : Nat} {T : TypeId} {u : List Value → List Asrt} [TyI P t d s by_ z] [Sel A b (ints l) T u] (hx : ev F x = some (pt b off)) (hd : isA d = false) (hl : off < l.length) : OpV P w0 n ⟨dst, .load t x, ty, pos, af, gd⟩ F A I (.int .i64 (l.getD off default)) :=
 opv_load1 (gd := gd) hx hd (by simp [ints, hl])
/-- A block of one's own as a slice's row. -/
theorem tri_boxRow {b sz k : Nat} {cs : List Value} {T : TypeId} {K : Act → World → Prop} (hl : cs.length = k * sz) (h : Tri w0 n F (Row (some ⟨b, 0, none⟩) k k T sz cs :: A) I K) : Tri w0 n F (Box b cs T :: A) I K :=
 tri_weaken (fun c hc => ⟨hl, .inr ⟨b, cs.toArray, rfl, hc, by simpa using hl, Nat.le_refl _, by simp [← hl]⟩⟩) h
end
end Go.GL


namespace Go.GL

/-! ### The program's data, as plain data -/
structure Node where
 lv : Int
 k0 : Int
 k1 : Int
 k2 : Int
 k3 : Int
 pop : Int
 deriving DecidableEq, Inhabited
def Node.kids (x : Node) : List Int := [x.k0, x.k1, x.k2, x.k3]
instance : Enc Node := ⟨fun x => [.int .i64 x.lv, .int .i64 x.k0, .int .i64 x.k1, .int .i64 x.k2, .int .i64 x.k3, .int .i64 x.pop], 6, fun _ => rfl, fun _ => rfl⟩
structure Cell where
 x : Int
 y : Int
 deriving DecidableEq, Inhabited
instance : Enc Cell := ⟨fun c => [.int .i64 c.x, .int .i64 c.y], 2, fun _ => rfl, fun _ => rfl⟩

/-! ### Layer 6, as the document has it -/
namespace R6
def atFrom (k : List Int) : Nat → List Node → Int
 | _, [] => -1
 | i, x :: xs => if x.kids = k then i else atFrom k (i + 1) xs
def at_ (ns : List Node) (k : List Int) : Int := atFrom k 2 (ns.drop 2)
/-- The node at a place. -/
def nd (ns : List Node) (k : Int) : Node := ns.getD k.toNat default
def inS (ns : List Node) (k : Int) : Prop := 0 ≤ k ∧ k < ns.length
instance (ns : List Node) (k : Int) : Decidable (inS ns k) := inferInstanceAs (Decidable (_ ∧ _))
def mn (a b : Int) : Int := if b < a then b else a
def cap62 : Int := 4611686018427387903
def pop4 (ns : List Node) (q0 q1 q2 q3 : Int) : Int := mn (mn (mn (mn (0 + (nd ns q0).pop) cap62 + (nd ns q1).pop) cap62 + (nd ns q2).pop) cap62 + (nd ns q3).pop) cap62
/-- Four nodes of one level, that have room above them. -/
def fit4 (ns : List Node) (q0 q1 q2 q3 : Int) : Prop := inS ns q0 ∧ (inS ns q1 ∧ (nd ns q1).lv = (nd ns q0).lv) ∧ (inS ns q2 ∧ (nd ns q2).lv = (nd ns q0).lv) ∧ (inS ns q3 ∧ (nd ns q3).lv = (nd ns q0).lv) ∧ (nd ns q0).lv + 1 ≤ 42
instance (ns : List Node) (q0 q1 q2 q3 : Int) : Decidable (fit4 ns q0 q1 q2 q3) := inferInstanceAs (Decidable (_ ∧ _))
def mk4 (ns : List Node) (q0 q1 q2 q3 : Int) : Node := ⟨(nd ns q0).lv + 1, q0, q1, q2, q3, pop4 ns q0 q1 q2 q3⟩
def put (ns : List Node) (room : Int) (q0 q1 q2 q3 : Int) : List Node × Int × Int :=
 if fit4 ns q0 q1 q2 q3 then
  if 0 ≤ at_ ns [q0, q1, q2, q3] then (ns, at_ ns [q0, q1, q2, q3], 0)
  else if room ≤ ns.length then (ns, 0, 40) else (ns ++ [mk4 ns q0 q1 q2 q3], ns.length, 0)
 else (ns, 0, 1)
/-- What nodes' numbers keep to. -/
def Mod (ns : List Node) : Prop := ∀ x ∈ ns, 0 ≤ x.lv ∧ x.lv ≤ 42 ∧ 0 ≤ x.pop ∧ x.pop ≤ cap62
theorem Mod.nd {ns : List Node} (h : Mod ns) {k : Int} (hk : inS ns k) : 0 ≤ (nd ns k).lv ∧ (nd ns k).lv ≤ 42 ∧ 0 ≤ (nd ns k).pop ∧ (nd ns k).pop ≤ cap62 := by
 have hlt : k.toNat < ns.length := by obtain ⟨h1, h2⟩ := hk; omega
 have : R6.nd ns k = ns[k.toNat] := by simp [R6.nd, hlt]
 rw [this]
 exact h _ (List.getElem_mem hlt)
theorem Mod.at {ns : List Node} (h : Mod ns) {k : Int} (h1 : ¬ k < 0) (h2 : ¬ (ns.length : Int) ≤ k) : 0 ≤ (ns.getD k.toNat default).lv ∧ (ns.getD k.toNat default).lv ≤ 42 ∧ 0 ≤ (ns.getD k.toNat default).pop ∧ (ns.getD k.toNat default).pop ≤ 4611686018427387903 :=
 h.nd ⟨by omega, by omega⟩
theorem mn_bd {x : Int} (h : 0 ≤ x) : 0 ≤ (if 4611686018427387903 < x then 4611686018427387903 else x) ∧ (if 4611686018427387903 < x then 4611686018427387903 else x) ≤ 4611686018427387903 := by
 split <;> omega
end R6
/-- A store as a value. -/
abbrev storeV (a : Option Addr) (len cap : Nat) (room : Int) : Value := .agg [.slice a len cap, .int .i64 room].toArray
abbrev int4V (q0 q1 q2 q3 : Int) : Value := .agg [.int .i64 q0, .int .i64 q1, .int .i64 q2, .int .i64 q3].toArray
end Go.GL


namespace Go.GL
open Go.Proofs
attribute [local irreducible] wpList Code.wp Exit.then Exit.inBlock Ends Tri TriH OpV OpG FnC epf wpAnyH
variable {A : List Asrt} {I : List Chunk}
theorem R6.atFrom_get {k : List Int} : ∀ (ns : List Node) (i j : Nat), i < ns.length → R6.atFrom k j (ns.drop i) = if (ns.getD i default).kids = k then (j : Int) else R6.atFrom k (j + 1) (ns.drop (i + 1)) := by
 intro ns i j h
 rw [List.drop_eq_getElem_cons h]
 simp [R6.atFrom, h]
theorem R6.atFrom_end {k : List Int} (ns : List Node) (i j : Nat) (h : ns.length ≤ i) : R6.atFrom k j (ns.drop i) = -1 := by
 rw [List.drop_of_length_le h]; rfl
set_option maxRecDepth 100000 in
theorem ref06_at {ns : List Node} {a : Option Addr} {cap : Nat} {room q0 q1 q2 q3 : Int} (hs : SlAt I a ns) (hn : ns.length ≤ 1000000000) :
  FnC Try.prog 80 [.agg [.slice a ns.length cap, .int .i64 room].toArray, .agg [.int .i64 q0, .int .i64 q1, .int .i64 q2, .int .i64 q3].toArray].toArray A I (fun v A' I' => v = .int .i64 (R6.at_ ns [q0, q1, q2, q3]) ∧ A = A' ∧ I = I') := by
 refine fn_enter2 Try.func80 rfl Try.ntmps80 rfl fun w0 => ?_
 refine tS (tR ?_)
 refine tri_g (opg_box_agg rfl) rfl ?_
 rintro _ _ _ ⟨b, rfl, rfl, rfl⟩
 refine tri_g (opg_box_agg rfl) rfl ?_
 rintro _ _ _ ⟨b, rfl, rfl, rfl⟩
 refine tA rfl rfl (tN (tT (tS (tS (tR (tA rfl rfl (tN ?_)))))))
 refine tT (tri_block ?_)
 rename_i b1
 refine tri_sub (F' := [(2, pt b1 0), (3, pt b 0), (5, .int .i64 (2 : Nat))]) ⟨rfl, rfl, rfl, trivial⟩ ?_
 refine loop_ind (G := Nat) (fun i => ns.length + 2 - i) (fun i => 2 ≤ i ∧ i ≤ ns.length + 2 ∧ R6.at_ ns [q0, q1, q2, q3] = R6.atFrom [q0, q1, q2, q3] i (ns.drop i)) (fun i => [(2, pt b1 0), (3, pt b 0), (5, .int .i64 (i : Nat))]) (fun _ => _) (fun _ => _) ?_ 2 ⟨by omega, by omega, rfl⟩
 rintro i ⟨hi, hi2, hat⟩ K hK
 skip
 refine tS (tS (tR (tM rfl rfl (yF rfl ?_))))
 refine yL rfl rfl ?_
 refine tri_v (opv_len rfl) rfl ?_
 refine yC rfl rfl (tN (tT ?_))
 refine tri_cond_dec rfl (fun h => ?_) (fun h => ?_)
 ·refine tri_skip (tT (tS (tri_block (tS ?_))))
  refine tri_draw [0, 1, 2, 3, 4, 5, 6, 7] rfl [] rfl mixed ?_
  refine yf rfl rfl ?_
  refine yl rfl rfl rfl ?_
  refine yM rfl rfl ?_
  refine th_take rfl rfl (by kernel_rfl)  (opv_indexAddrSN rfl rfl (by omega) (by assumption) rfl) ?_
  refine th_take rfl rfl (by kernel_rfl)  (opv_fieldAddrE rfl (by assumption) (by omega) rfl) ?_
  refine th_take rfl rfl (by kernel_rfl)  (opv_loadEA rfl (by assumption) rfl (by omega) rfl rfl) ?_
  refine th_take rfl rfl (by kernel_rfl)  (opv_loadA rfl rfl rfl) ?_
  refine th_take rfl rfl (by kernel_rfl)  (opv_eqlI rfl rfl rfl rfl rfl rfl) ?_
  refine yD (tT ?_)
  have hg := R6.atFrom_get (k := [q0, q1, q2, q3]) ns i i (by omega)
  refine tri_cond_dec rfl (fun h2 => ?_) (fun h2 => ?_)
  ·refine tS (tR (tM rfl rfl (tA rfl rfl (tN (tT (tri_ret (tri_inBlock_ret ?_)))))))
   refine tri_then_ret (tri_then_ret (tri_inBlock_ret (tri_then_ret ?_)))
   refine tri_end A Suf.h rfl (.cons (rv_tmp rfl) .nil) ⟨?_, rfl, rfl⟩
   rw [hat, hg]; exact congrArg (Value.int .i64) (if_pos h2).symm
  ·refine tri_skip (tri_inBlock (tT (tR (tM rfl rfl ?_))))
   refine yU rfl rfl ?_
   refine tA rfl rfl (tN (tT ?_))
   refine tri_sub ?_ (hK (i + 1) ⟨by omega, by omega, ?_⟩ (by omega))
   ·exact ⟨rfl, rfl, rfl, trivial⟩
   ·rw [hat, hg]; exact if_neg h2
 ·refine tri_exit ?_
  refine tri_then_exit (tri_then_exit ?_)
  refine tri_inBlock_hit rfl ?_
  refine tT (tS (tR (tA rfl rfl (tN (tT (tri_ret ?_))))))
  refine tri_end A Suf.h rfl (.cons (rv_tmp rfl) .nil) ⟨?_, rfl, rfl⟩
  rw [hat, R6.atFrom_end ns i i (by omega)]; rfl
end Go.GL


namespace Go.GL
open Go.Proofs
attribute [local irreducible] wpList Code.wp Exit.then Exit.inBlock Ends Tri TriH OpV OpG FnC epf wpAnyH
variable {A : List Asrt} {I : List Chunk}
set_option maxHeartbeats 1000000 in
set_option maxRecDepth 100000 in
theorem ref06_put {ns : List Node} {a : Option Addr} {cap : Nat} {room q0 q1 q2 q3 : Int} (hst : StA I a cap ns) (hn : ns.length ≤ 1000000000) (hm : R6.Mod ns) :
  FnC Try.prog 66 [storeV a ns.length cap room, int4V q0 q1 q2 q3].toArray A I (fun v A' I' => ∃ a' cap', v = .tuple [storeV a' (R6.put ns room q0 q1 q2 q3).1.length cap' room, .int .i64 (R6.put ns room q0 q1 q2 q3).2.1, .int .i64 (R6.put ns room q0 q1 q2 q3).2.2].toArray ∧ StA I' a' cap' (R6.put ns room q0 q1 q2 q3).1 ∧ A = A' ∧ I ⊆ I') := by
 have hs := hst.sl
 have bad : ¬ R6.fit4 ns q0 q1 q2 q3 → R6.put ns room q0 q1 q2 q3 = (ns, 0, 1) := fun h => if_neg h
 refine fn_enter2 Try.func66 rfl Try.ntmps66 rfl fun w0 => ?_
 refine tS (tR ?_)
 refine tri_g (opg_box_agg rfl) rfl ?_
 rintro _ _ _ ⟨b, rfl, rfl, rfl⟩
 refine tri_g (opg_box_agg rfl) rfl ?_
 rintro _ _ _ ⟨b, rfl, rfl, rfl⟩
 refine tri_g opg_alloc rfl ?_
 rintro _ _ _ ⟨b, rfl, rfl, rfl⟩
 refine tA rfl rfl (tA rfl rfl (tN (tT (tS (tR (tA rfl rfl (tN ?_)))))))
 refine tT (tS (tS (tR (tA rfl rfl (tN (tT (tri_block ?_)))))))
 rename_i bs bk
 revert b; intro br
 refine tri_rounds 5 ?_
 refine tri_round (tS (tS (tR (tM rfl rfl (yC rfl rfl (tN (tT ?_)))))))
 refine tri_cond_is rfl (by decide) ?_
 refine tri_skip (tT (tS (tri_block (tS (tS ?_)))))
 refine tri_draw [0, 1, 2, 3, 4, 5, 6, 7, 8, 9, 10, 11, 12, 13, 14, 15, 16, 17, 18, 19, 20, 21, 22, 23, 24, 25, 26, 27, 28, 29, 30] rfl [] rfl mixed ?_
 refine yM rfl rfl ?_
 refine th_take rfl rfl (by kernel_rfl)  (opv_indexAddrA rfl rfl (by decide) (by decide)) ?_
 refine yl rfl rfl rfl ?_
 refine th_take rfl rfl (by kernel_rfl)  (opv_lss rfl rfl) ?_
 refine yM rfl rfl ?_
 refine th_split rfl rfl rfl (fun h0a => ?_) (fun h0a => ?_)
 ·refine yS rfl rfl rfl (yS rfl rfl rfl (yS rfl rfl rfl (yS rfl rfl rfl (yS rfl rfl rfl (yS rfl rfl rfl (yS rfl rfl rfl ?_))))))
  refine th_take rfl rfl (by kernel_rfl)  (opv_pick_t rfl rfl) ?_
  refine yM rfl rfl (yS rfl rfl rfl (yS rfl rfl rfl (yS rfl rfl rfl (yS rfl rfl rfl (yS rfl rfl rfl (yS rfl rfl rfl (yS rfl rfl rfl ?_)))))))
  refine yS rfl rfl rfl (yS rfl rfl rfl (yS rfl rfl rfl (yS rfl rfl rfl (yS rfl rfl rfl (yS rfl rfl rfl (yS rfl rfl rfl (yS rfl rfl rfl ?_)))))))
  refine yS rfl rfl rfl ?_
  refine th_take rfl rfl (by kernel_rfl)  (opv_pick_t rfl rfl) ?_
  refine yD (tT ?_)
  refine tri_cond_true rfl ?_
  refine tS (tR ?_)
  refine yB rfl rfl ?_
  refine yG rfl rfl rfl rfl rfl rfl ?_
  rintro _ _ _ ⟨rfl, rfl⟩
  refine tA rfl rfl (tA rfl rfl (tN (tT (tri_ret (tri_then_ret (tri_inBlock_ret (tri_then_ret ?_)))))))
  refine tri_then_ret (tri_inBlock_ret (tri_then_ret ?_))
  refine tri_end A Suf.h rfl (.cons (rv_cellA rfl rfl rfl) (.cons (rv_tmp rfl) (.cons (rv_tmp rfl) .nil))) ?_
  rw [bad (by unfold R6.fit4 R6.inS; omega)]
  exact ⟨a, cap, rfl, hst, rfl, fun _ h => h⟩
 refine th_take_g rfl rfl rfl rfl rfl (by kernel_rfl)  (opv_move rfl) ?_
 refine th_take_g rfl rfl rfl rfl rfl (by kernel_rfl)  (opv_indexAddrA rfl rfl (by decide) (by decide)) ?_
 refine th_take_g rfl rfl rfl rfl rfl (by kernel_rfl)  (opv_load1 rfl rfl rfl) ?_
 refine th_take_g rfl rfl rfl rfl rfl (by kernel_rfl)  (opv_fieldAddr rfl rfl) ?_
 refine th_take_g rfl rfl rfl rfl rfl (by kernel_rfl)  (opv_load1 rfl rfl rfl) ?_
 refine th_take_g rfl rfl rfl rfl rfl (by kernel_rfl)  (opv_len rfl) ?_
 refine th_take_g rfl rfl rfl rfl rfl (by kernel_rfl)  (opv_geq rfl rfl) ?_
 refine th_take rfl rfl (by kernel_rfl)  (opv_pick_f rfl rfl) ?_
 refine yM rfl rfl ?_
 refine th_split rfl rfl rfl (fun h0b => ?_) (fun h0b => ?_)
 ·refine yS rfl rfl rfl (yS rfl rfl rfl (yS rfl rfl rfl (yS rfl rfl rfl (yS rfl rfl rfl (yS rfl rfl rfl (yS rfl rfl rfl (yS rfl rfl rfl ?_)))))))
  refine yS rfl rfl rfl (yS rfl rfl rfl (yS rfl rfl rfl (yS rfl rfl rfl (yS rfl rfl rfl (yS rfl rfl rfl (yS rfl rfl rfl (yS rfl rfl rfl ?_)))))))
  refine th_take rfl rfl (by kernel_rfl)  (opv_pick_t rfl rfl) ?_
  refine yD (tT ?_)
  refine tri_cond_true rfl ?_
  refine tS (tR ?_)
  refine yB rfl rfl ?_
  refine yG rfl rfl rfl rfl rfl rfl ?_
  rintro _ _ _ ⟨rfl, rfl⟩
  refine tA rfl rfl (tA rfl rfl (tN (tT (tri_ret (tri_then_ret (tri_inBlock_ret (tri_then_ret ?_)))))))
  refine tri_then_ret (tri_inBlock_ret (tri_then_ret ?_))
  refine tri_end A Suf.h rfl (.cons (rv_cellA rfl rfl rfl) (.cons (rv_tmp rfl) (.cons (rv_tmp rfl) .nil))) ?_
  rw [bad (by unfold R6.fit4 R6.inS; omega)]
  exact ⟨a, cap, rfl, hst, rfl, fun _ h => h⟩
 refine th_take_g rfl rfl rfl rfl rfl (by kernel_rfl)  (opv_fieldAddr rfl rfl) ?_
 refine th_take_g rfl rfl rfl rfl rfl (by kernel_rfl)  (opv_load1 rfl rfl rfl) ?_
 refine th_take_g rfl rfl rfl rfl rfl (by kernel_rfl)  (opv_move rfl) ?_
 refine th_take_g rfl rfl rfl rfl rfl (by kernel_rfl)  (opv_indexAddrA rfl rfl (by decide) (by decide)) ?_
 refine th_take_g rfl rfl rfl rfl rfl (by kernel_rfl)  (opv_load1 rfl rfl rfl) ?_
 refine th_take_g rfl rfl rfl rfl rfl (by kernel_rfl)  (opv_indexAddrS rfl rfl (by omega) (by omega) (by assumption) rfl) ?_
 refine th_take_g rfl rfl rfl rfl rfl (by kernel_rfl)  (opv_fieldAddrE rfl (by assumption) (by omega) rfl) ?_
 refine th_take_g rfl rfl rfl rfl rfl (by kernel_rfl)  (opv_loadE1 rfl (by assumption) rfl (by omega) rfl rfl) ?_
 refine th_take_g rfl rfl rfl rfl rfl (by kernel_rfl)  (opv_fieldAddr rfl rfl) ?_
 refine th_take_g rfl rfl rfl rfl rfl (by kernel_rfl)  (opv_load1 rfl rfl rfl) ?_
 refine th_take_g rfl rfl rfl rfl rfl (by kernel_rfl)  (opv_indexAddrA rfl rfl (by decide) (by decide)) ?_
 refine th_take_g rfl rfl rfl rfl rfl (by kernel_rfl)  (opv_load1 rfl rfl rfl) ?_
 refine th_take_g rfl rfl rfl rfl rfl (by kernel_rfl)  (opv_indexAddrS rfl rfl (by omega) (by omega) (by assumption) rfl) ?_
 refine th_take_g rfl rfl rfl rfl rfl (by kernel_rfl)  (opv_fieldAddrE rfl (by assumption) (by omega) rfl) ?_
 refine th_take_g rfl rfl rfl rfl rfl (by kernel_rfl)  (opv_loadE1 rfl (by assumption) rfl (by omega) rfl rfl) ?_
 refine th_take_g rfl rfl rfl rfl rfl (by kernel_rfl)  (opv_neq rfl rfl) ?_
 refine th_take rfl rfl (by kernel_rfl)  (opv_pick_f rfl rfl) ?_
 refine yD (tT ?_)
 refine tri_cond_not rfl (fun h => h rfl) ?_
 have b0 := hm.at h0a h0b
 refine tri_skip (tT ?_)
 refine tri_draw [0, 1, 2, 3, 4, 5, 6, 7, 8, 9, 10, 11] rfl [] rfl mixed ?_
 refine yM rfl rfl (yf rfl rfl ?_)
 refine yl rfl rfl rfl ?_
 refine yM rfl rfl ?_
 refine th_take rfl rfl (by kernel_rfl)  (opv_indexAddrA rfl rfl (by decide) (by decide)) ?_
 refine yl rfl rfl rfl ?_
 refine th_take rfl rfl (by kernel_rfl)  (opv_indexAddrS rfl rfl (by omega) (by omega) (by assumption) rfl) ?_
 refine th_take rfl rfl (by kernel_rfl)  (opv_fieldAddrE rfl (by assumption) (by omega) rfl) ?_
 refine th_take rfl rfl (by kernel_rfl)  (opv_loadE1 rfl (by assumption) rfl (by omega) rfl rfl) ?_
 refine th_take rfl rfl (by kernel_rfl)  (opv_add rfl rfl (w64 (by omega) (by omega))) ?_
 refine th_take rfl rfl (by kernel_rfl)  (opv_min2 rfl rfl) ?_
 refine yA rfl rfl (yD (tri_inBlock (tT (tR (tM rfl rfl ?_)))))
 refine yU rfl rfl ?_
 refine tA rfl rfl (tN (tT (tri_round (tS (tS (tR (tM rfl rfl ?_)))))))
 refine yC rfl rfl (tN (tT ?_))
 refine tri_cond_is rfl (by decide) ?_
 refine tri_skip (tT (tS (tri_block (tS (tS ?_)))))
 refine tri_draw [0, 1, 2, 3, 4, 5, 6, 7, 8, 9, 10, 11, 12, 13, 14, 15, 16, 17, 18, 19, 20, 21, 22, 23, 24, 25, 26, 27, 28, 29, 30] rfl [] rfl mixed ?_
 refine yM rfl rfl ?_
 refine th_take rfl rfl (by kernel_rfl)  (opv_indexAddrA rfl rfl (by decide) (by decide)) ?_
 refine yl rfl rfl rfl ?_
 refine th_take rfl rfl (by kernel_rfl)  (opv_lss rfl rfl) ?_
 refine yM rfl rfl ?_
 refine th_split rfl rfl rfl (fun h1a => ?_) (fun h1a => ?_)
 ·refine yS rfl rfl rfl (yS rfl rfl rfl (yS rfl rfl rfl (yS rfl rfl rfl (yS rfl rfl rfl (yS rfl rfl rfl (yS rfl rfl rfl ?_))))))
  refine th_take rfl rfl (by kernel_rfl)  (opv_pick_t rfl rfl) ?_
  refine yM rfl rfl (yS rfl rfl rfl (yS rfl rfl rfl (yS rfl rfl rfl (yS rfl rfl rfl (yS rfl rfl rfl (yS rfl rfl rfl (yS rfl rfl rfl ?_)))))))
  refine yS rfl rfl rfl (yS rfl rfl rfl (yS rfl rfl rfl (yS rfl rfl rfl (yS rfl rfl rfl (yS rfl rfl rfl (yS rfl rfl rfl (yS rfl rfl rfl ?_)))))))
  refine yS rfl rfl rfl ?_
  refine th_take rfl rfl (by kernel_rfl)  (opv_pick_t rfl rfl) ?_
  refine yD (tT ?_)
  refine tri_cond_true rfl ?_
  refine tS (tR ?_)
  refine yB rfl rfl ?_
  refine yG rfl rfl rfl rfl rfl rfl ?_
  rintro _ _ _ ⟨rfl, rfl⟩
  refine tA rfl rfl (tA rfl rfl (tN (tT (tri_ret (tri_then_ret (tri_inBlock_ret (tri_then_ret ?_)))))))
  refine tri_then_ret (tri_inBlock_ret (tri_then_ret ?_))
  refine tri_end A Suf.h rfl (.cons (rv_cellA rfl rfl rfl) (.cons (rv_tmp rfl) (.cons (rv_tmp rfl) .nil))) ?_
  rw [bad (by unfold R6.fit4 R6.inS; omega)]
  exact ⟨a, cap, rfl, hst, rfl, fun _ h => h⟩
 refine th_take_g rfl rfl rfl rfl rfl (by kernel_rfl)  (opv_move rfl) ?_
 refine th_take_g rfl rfl rfl rfl rfl (by kernel_rfl)  (opv_indexAddrA rfl rfl (by decide) (by decide)) ?_
 refine th_take_g rfl rfl rfl rfl rfl (by kernel_rfl)  (opv_load1 rfl rfl rfl) ?_
 refine th_take_g rfl rfl rfl rfl rfl (by kernel_rfl)  (opv_fieldAddr rfl rfl) ?_
 refine th_take_g rfl rfl rfl rfl rfl (by kernel_rfl)  (opv_load1 rfl rfl rfl) ?_
 refine th_take_g rfl rfl rfl rfl rfl (by kernel_rfl)  (opv_len rfl) ?_
 refine th_take_g rfl rfl rfl rfl rfl (by kernel_rfl)  (opv_geq rfl rfl) ?_
 refine th_take rfl rfl (by kernel_rfl)  (opv_pick_f rfl rfl) ?_
 refine yM rfl rfl ?_
 refine th_split rfl rfl rfl (fun h1b => ?_) (fun h1b => ?_)
 ·refine yS rfl rfl rfl (yS rfl rfl rfl (yS rfl rfl rfl (yS rfl rfl rfl (yS rfl rfl rfl (yS rfl rfl rfl (yS rfl rfl rfl (yS rfl rfl rfl ?_)))))))
  refine yS rfl rfl rfl (yS rfl rfl rfl (yS rfl rfl rfl (yS rfl rfl rfl (yS rfl rfl rfl (yS rfl rfl rfl (yS rfl rfl rfl (yS rfl rfl rfl ?_)))))))
  refine th_take rfl rfl (by kernel_rfl)  (opv_pick_t rfl rfl) ?_
  refine yD (tT ?_)
  refine tri_cond_true rfl ?_
  refine tS (tR ?_)
  refine yB rfl rfl ?_
  refine yG rfl rfl rfl rfl rfl rfl ?_
  rintro _ _ _ ⟨rfl, rfl⟩
  refine tA rfl rfl (tA rfl rfl (tN (tT (tri_ret (tri_then_ret (tri_inBlock_ret (tri_then_ret ?_)))))))
  refine tri_then_ret (tri_inBlock_ret (tri_then_ret ?_))
  refine tri_end A Suf.h rfl (.cons (rv_cellA rfl rfl rfl) (.cons (rv_tmp rfl) (.cons (rv_tmp rfl) .nil))) ?_
  rw [bad (by unfold R6.fit4 R6.inS; omega)]
  exact ⟨a, cap, rfl, hst, rfl, fun _ h => h⟩
 refine th_take_g rfl rfl rfl rfl rfl (by kernel_rfl)  (opv_fieldAddr rfl rfl) ?_
 refine th_take_g rfl rfl rfl rfl rfl (by kernel_rfl)  (opv_load1 rfl rfl rfl) ?_
 refine th_take_g rfl rfl rfl rfl rfl (by kernel_rfl)  (opv_move rfl) ?_
 refine th_take_g rfl rfl rfl rfl rfl (by kernel_rfl)  (opv_indexAddrA rfl rfl (by decide) (by decide)) ?_
 refine th_take_g rfl rfl rfl rfl rfl (by kernel_rfl)  (opv_load1 rfl rfl rfl) ?_
 refine th_take_g rfl rfl rfl rfl rfl (by kernel_rfl)  (opv_indexAddrS rfl rfl (by omega) (by omega) (by assumption) rfl) ?_
 refine th_take_g rfl rfl rfl rfl rfl (by kernel_rfl)  (opv_fieldAddrE rfl (by assumption) (by omega) rfl) ?_
 refine th_take_g rfl rfl rfl rfl rfl (by kernel_rfl)  (opv_loadE1 rfl (by assumption) rfl (by omega) rfl rfl) ?_
 refine th_take_g rfl rfl rfl rfl rfl (by kernel_rfl)  (opv_fieldAddr rfl rfl) ?_
 refine th_take_g rfl rfl rfl rfl rfl (by kernel_rfl)  (opv_load1 rfl rfl rfl) ?_
 refine th_take_g rfl rfl rfl rfl rfl (by kernel_rfl)  (opv_indexAddrA rfl rfl (by decide) (by decide)) ?_
 refine th_take_g rfl rfl rfl rfl rfl (by kernel_rfl)  (opv_load1 rfl rfl rfl) ?_
 refine th_take_g rfl rfl rfl rfl rfl (by kernel_rfl)  (opv_indexAddrS rfl rfl (by omega) (by omega) (by assumption) rfl) ?_
 refine th_take_g rfl rfl rfl rfl rfl (by kernel_rfl)  (opv_fieldAddrE rfl (by assumption) (by omega) rfl) ?_
 refine th_take_g rfl rfl rfl rfl rfl (by kernel_rfl)  (opv_loadE1 rfl (by assumption) rfl (by omega) rfl rfl) ?_
 refine th_take_g rfl rfl rfl rfl rfl (by kernel_rfl)  (opv_neq rfl rfl) ?_
 refine th_take rfl rfl (by kernel_rfl)  (opv_pick_f rfl rfl) ?_
 refine yD (tT ?_)
 refine tri_cond_dec rfl (fun h1c => ?_) (fun h1c => ?_)
 ·refine tS (tR ?_)
  refine yB rfl rfl ?_
  refine yG rfl rfl rfl rfl rfl rfl ?_
  rintro _ _ _ ⟨rfl, rfl⟩
  refine tA rfl rfl (tA rfl rfl (tN (tT (tri_ret (tri_then_ret (tri_inBlock_ret (tri_then_ret ?_)))))))
  refine tri_then_ret (tri_inBlock_ret (tri_then_ret ?_))
  refine tri_end A Suf.h rfl (.cons (rv_cellA rfl rfl rfl) (.cons (rv_tmp rfl) (.cons (rv_tmp rfl) .nil))) ?_
  rw [bad (by unfold R6.fit4 R6.inS; exact fun h => h1c h.2.1.2)]
  exact ⟨a, cap, rfl, hst, rfl, fun _ h => h⟩
 have b1 := hm.at h1a h1b
 have e1 := R6.mn_bd (x := 0 + (ns.getD q0.toNat default).pop) (by omega)
 refine tri_skip (tT ?_)
 refine tri_draw [0, 1, 2, 3, 4, 5, 6, 7, 8, 9, 10, 11] rfl [] rfl mixed ?_
 refine yM rfl rfl (yf rfl rfl ?_)
 refine yl rfl rfl rfl ?_
 refine yM rfl rfl ?_
 refine th_take rfl rfl (by kernel_rfl)  (opv_indexAddrA rfl rfl (by decide) (by decide)) ?_
 refine yl rfl rfl rfl ?_
 refine th_take rfl rfl (by kernel_rfl)  (opv_indexAddrS rfl rfl (by omega) (by omega) (by assumption) rfl) ?_
 refine th_take rfl rfl (by kernel_rfl)  (opv_fieldAddrE rfl (by assumption) (by omega) rfl) ?_
 refine th_take rfl rfl (by kernel_rfl)  (opv_loadE1 rfl (by assumption) rfl (by omega) rfl rfl) ?_
 refine th_take rfl rfl (by kernel_rfl)  (opv_add rfl rfl (w64 (by omega) (by omega))) ?_
 refine th_take rfl rfl (by kernel_rfl)  (opv_min2 rfl rfl) ?_
 refine yA rfl rfl (yD (tri_inBlock (tT (tR (tM rfl rfl ?_)))))
 refine yU rfl rfl ?_
 refine tA rfl rfl (tN (tT (tri_round (tS (tS (tR (tM rfl rfl ?_)))))))
 refine yC rfl rfl (tN (tT ?_))
 refine tri_cond_is rfl (by decide) ?_
 refine tri_skip (tT (tS (tri_block (tS (tS ?_)))))
 refine tri_draw [0, 1, 2, 3, 4, 5, 6, 7, 8, 9, 10, 11, 12, 13, 14, 15, 16, 17, 18, 19, 20, 21, 22, 23, 24, 25, 26, 27, 28, 29, 30] rfl [] rfl mixed ?_
 refine yM rfl rfl ?_
 refine th_take rfl rfl (by kernel_rfl)  (opv_indexAddrA rfl rfl (by decide) (by decide)) ?_
 refine yl rfl rfl rfl ?_
 refine th_take rfl rfl (by kernel_rfl)  (opv_lss rfl rfl) ?_
 refine yM rfl rfl ?_
 refine th_split rfl rfl rfl (fun h2a => ?_) (fun h2a => ?_)
 ·refine yS rfl rfl rfl (yS rfl rfl rfl (yS rfl rfl rfl (yS rfl rfl rfl (yS rfl rfl rfl (yS rfl rfl rfl (yS rfl rfl rfl ?_))))))
  refine th_take rfl rfl (by kernel_rfl)  (opv_pick_t rfl rfl) ?_
  refine yM rfl rfl (yS rfl rfl rfl (yS rfl rfl rfl (yS rfl rfl rfl (yS rfl rfl rfl (yS rfl rfl rfl (yS rfl rfl rfl (yS rfl rfl rfl ?_)))))))
  refine yS rfl rfl rfl (yS rfl rfl rfl (yS rfl rfl rfl (yS rfl rfl rfl (yS rfl rfl rfl (yS rfl rfl rfl (yS rfl rfl rfl (yS rfl rfl rfl ?_)))))))
  refine yS rfl rfl rfl ?_
  refine th_take rfl rfl (by kernel_rfl)  (opv_pick_t rfl rfl) ?_
  refine yD (tT ?_)
  refine tri_cond_true rfl ?_
  refine tS (tR ?_)
  refine yB rfl rfl ?_
  refine yG rfl rfl rfl rfl rfl rfl ?_
  rintro _ _ _ ⟨rfl, rfl⟩
  refine tA rfl rfl (tA rfl rfl (tN (tT (tri_ret (tri_then_ret (tri_inBlock_ret (tri_then_ret ?_)))))))
  refine tri_then_ret (tri_inBlock_ret (tri_then_ret ?_))
  refine tri_end A Suf.h rfl (.cons (rv_cellA rfl rfl rfl) (.cons (rv_tmp rfl) (.cons (rv_tmp rfl) .nil))) ?_
  rw [bad (by unfold R6.fit4 R6.inS; omega)]
  exact ⟨a, cap, rfl, hst, rfl, fun _ h => h⟩
 refine th_take_g rfl rfl rfl rfl rfl (by kernel_rfl)  (opv_move rfl) ?_
 refine th_take_g rfl rfl rfl rfl rfl (by kernel_rfl)  (opv_indexAddrA rfl rfl (by decide) (by decide)) ?_
 refine th_take_g rfl rfl rfl rfl rfl (by kernel_rfl)  (opv_load1 rfl rfl rfl) ?_
 refine th_take_g rfl rfl rfl rfl rfl (by kernel_rfl)  (opv_fieldAddr rfl rfl) ?_
 refine th_take_g rfl rfl rfl rfl rfl (by kernel_rfl)  (opv_load1 rfl rfl rfl) ?_
 refine th_take_g rfl rfl rfl rfl rfl (by kernel_rfl)  (opv_len rfl) ?_
 refine th_take_g rfl rfl rfl rfl rfl (by kernel_rfl)  (opv_geq rfl rfl) ?_
 refine th_take rfl rfl (by kernel_rfl)  (opv_pick_f rfl rfl) ?_
 refine yM rfl rfl ?_
 refine th_split rfl rfl rfl (fun h2b => ?_) (fun h2b => ?_)
 ·refine yS rfl rfl rfl (yS rfl rfl rfl (yS rfl rfl rfl (yS rfl rfl rfl (yS rfl rfl rfl (yS rfl rfl rfl (yS rfl rfl rfl (yS rfl rfl rfl ?_)))))))
  refine yS rfl rfl rfl (yS rfl rfl rfl (yS rfl rfl rfl (yS rfl rfl rfl (yS rfl rfl rfl (yS rfl rfl rfl (yS rfl rfl rfl (yS rfl rfl rfl ?_)))))))
  refine th_take rfl rfl (by kernel_rfl)  (opv_pick_t rfl rfl) ?_
  refine yD (tT ?_)
  refine tri_cond_true rfl ?_
  refine tS (tR ?_)
  refine yB rfl rfl ?_
  refine yG rfl rfl rfl rfl rfl rfl ?_
  rintro _ _ _ ⟨rfl, rfl⟩
  refine tA rfl rfl (tA rfl rfl (tN (tT (tri_ret (tri_then_ret (tri_inBlock_ret (tri_then_ret ?_)))))))
  refine tri_then_ret (tri_inBlock_ret (tri_then_ret ?_))
  refine tri_end A Suf.h rfl (.cons (rv_cellA rfl rfl rfl) (.cons (rv_tmp rfl) (.cons (rv_tmp rfl) .nil))) ?_
  rw [bad (by unfold R6.fit4 R6.inS; omega)]
  exact ⟨a, cap, rfl, hst, rfl, fun _ h => h⟩
 refine th_take_g rfl rfl rfl rfl rfl (by kernel_rfl)  (opv_fieldAddr rfl rfl) ?_
 refine th_take_g rfl rfl rfl rfl rfl (by kernel_rfl)  (opv_load1 rfl rfl rfl) ?_
 refine th_take_g rfl rfl rfl rfl rfl (by kernel_rfl)  (opv_move rfl) ?_
 refine th_take_g rfl rfl rfl rfl rfl (by kernel_rfl)  (opv_indexAddrA rfl rfl (by decide) (by decide)) ?_
 refine th_take_g rfl rfl rfl rfl rfl (by kernel_rfl)  (opv_load1 rfl rfl rfl) ?_
 refine th_take_g rfl rfl rfl rfl rfl (by kernel_rfl)  (opv_indexAddrS rfl rfl (by omega) (by omega) (by assumption) rfl) ?_
 refine th_take_g rfl rfl rfl rfl rfl (by kernel_rfl)  (opv_fieldAddrE rfl (by assumption) (by omega) rfl) ?_
 refine th_take_g rfl rfl rfl rfl rfl (by kernel_rfl)  (opv_loadE1 rfl (by assumption) rfl (by omega) rfl rfl) ?_
 refine th_take_g rfl rfl rfl rfl rfl (by kernel_rfl)  (opv_fieldAddr rfl rfl) ?_
 refine th_take_g rfl rfl rfl rfl rfl (by kernel_rfl)  (opv_load1 rfl rfl rfl) ?_
 refine th_take_g rfl rfl rfl rfl rfl (by kernel_rfl)  (opv_indexAddrA rfl rfl (by decide) (by decide)) ?_
 refine th_take_g rfl rfl rfl rfl rfl (by kernel_rfl)  (opv_load1 rfl rfl rfl) ?_
 refine th_take_g rfl rfl rfl rfl rfl (by kernel_rfl)  (opv_indexAddrS rfl rfl (by omega) (by omega) (by assumption) rfl) ?_
 refine th_take_g rfl rfl rfl rfl rfl (by kernel_rfl)  (opv_fieldAddrE rfl (by assumption) (by omega) rfl) ?_
 refine th_take_g rfl rfl rfl rfl rfl (by kernel_rfl)  (opv_loadE1 rfl (by assumption) rfl (by omega) rfl rfl) ?_
 refine th_take_g rfl rfl rfl rfl rfl (by kernel_rfl)  (opv_neq rfl rfl) ?_
 refine th_take rfl rfl (by kernel_rfl)  (opv_pick_f rfl rfl) ?_
 refine yD (tT ?_)
 refine tri_cond_dec rfl (fun h2c => ?_) (fun h2c => ?_)
 ·refine tS (tR ?_)
  refine yB rfl rfl ?_
  refine yG rfl rfl rfl rfl rfl rfl ?_
  rintro _ _ _ ⟨rfl, rfl⟩
  refine tA rfl rfl (tA rfl rfl (tN (tT (tri_ret (tri_then_ret (tri_inBlock_ret (tri_then_ret ?_)))))))
  refine tri_then_ret (tri_inBlock_ret (tri_then_ret ?_))
  refine tri_end A Suf.h rfl (.cons (rv_cellA rfl rfl rfl) (.cons (rv_tmp rfl) (.cons (rv_tmp rfl) .nil))) ?_
  rw [bad (by unfold R6.fit4 R6.inS; exact fun h => h2c h.2.2.1.2)]
  exact ⟨a, cap, rfl, hst, rfl, fun _ h => h⟩
 have b2 := hm.at h2a h2b
 have e2 := R6.mn_bd (x := (if 4611686018427387903 < 0 + (ns.getD q0.toNat default).pop then 4611686018427387903 else 0 + (ns.getD q0.toNat default).pop) + (ns.getD q1.toNat default).pop) (by omega)
 refine tri_skip (tT ?_)
 refine tri_draw [0, 1, 2, 3, 4, 5, 6, 7, 8, 9, 10, 11] rfl [] rfl mixed ?_
 refine yM rfl rfl (yf rfl rfl ?_)
 refine yl rfl rfl rfl ?_
 refine yM rfl rfl ?_
 refine th_take rfl rfl (by kernel_rfl)  (opv_indexAddrA rfl rfl (by decide) (by decide)) ?_
 refine yl rfl rfl rfl ?_
 refine th_take rfl rfl (by kernel_rfl)  (opv_indexAddrS rfl rfl (by omega) (by omega) (by assumption) rfl) ?_
 refine th_take rfl rfl (by kernel_rfl)  (opv_fieldAddrE rfl (by assumption) (by omega) rfl) ?_
 refine th_take rfl rfl (by kernel_rfl)  (opv_loadE1 rfl (by assumption) rfl (by omega) rfl rfl) ?_
 refine th_take rfl rfl (by kernel_rfl)  (opv_add rfl rfl (w64 (by omega) (by omega))) ?_
 refine th_take rfl rfl (by kernel_rfl)  (opv_min2 rfl rfl) ?_
 refine yA rfl rfl (yD (tri_inBlock (tT (tR (tM rfl rfl ?_)))))
 refine yU rfl rfl ?_
 refine tA rfl rfl (tN (tT (tri_round (tS (tS (tR (tM rfl rfl ?_)))))))
 refine yC rfl rfl (tN (tT ?_))
 refine tri_cond_is rfl (by decide) ?_
 refine tri_skip (tT (tS (tri_block (tS (tS ?_)))))
 refine tri_draw [0, 1, 2, 3, 4, 5, 6, 7, 8, 9, 10, 11, 12, 13, 14, 15, 16, 17, 18, 19, 20, 21, 22, 23, 24, 25, 26, 27, 28, 29, 30] rfl [] rfl mixed ?_
 refine yM rfl rfl ?_
 refine th_take rfl rfl (by kernel_rfl)  (opv_indexAddrA rfl rfl (by decide) (by decide)) ?_
 refine yl rfl rfl rfl ?_
 refine th_take rfl rfl (by kernel_rfl)  (opv_lss rfl rfl) ?_
 refine yM rfl rfl ?_
 refine th_split rfl rfl rfl (fun h3a => ?_) (fun h3a => ?_)
 ·refine yS rfl rfl rfl (yS rfl rfl rfl (yS rfl rfl rfl (yS rfl rfl rfl (yS rfl rfl rfl (yS rfl rfl rfl (yS rfl rfl rfl ?_))))))
  refine th_take rfl rfl (by kernel_rfl)  (opv_pick_t rfl rfl) ?_
  refine yM rfl rfl (yS rfl rfl rfl (yS rfl rfl rfl (yS rfl rfl rfl (yS rfl rfl rfl (yS rfl rfl rfl (yS rfl rfl rfl (yS rfl rfl rfl ?_)))))))
  refine yS rfl rfl rfl (yS rfl rfl rfl (yS rfl rfl rfl (yS rfl rfl rfl (yS rfl rfl rfl (yS rfl rfl rfl (yS rfl rfl rfl (yS rfl rfl rfl ?_)))))))
  refine yS rfl rfl rfl ?_
  refine th_take rfl rfl (by kernel_rfl)  (opv_pick_t rfl rfl) ?_
  refine yD (tT ?_)
  refine tri_cond_true rfl ?_
  refine tS (tR ?_)
  refine yB rfl rfl ?_
  refine yG rfl rfl rfl rfl rfl rfl ?_
  rintro _ _ _ ⟨rfl, rfl⟩
  refine tA rfl rfl (tA rfl rfl (tN (tT (tri_ret (tri_then_ret (tri_inBlock_ret (tri_then_ret ?_)))))))
  refine tri_then_ret (tri_inBlock_ret (tri_then_ret ?_))
  refine tri_end A Suf.h rfl (.cons (rv_cellA rfl rfl rfl) (.cons (rv_tmp rfl) (.cons (rv_tmp rfl) .nil))) ?_
  rw [bad (by unfold R6.fit4 R6.inS; omega)]
  exact ⟨a, cap, rfl, hst, rfl, fun _ h => h⟩
 refine th_take_g rfl rfl rfl rfl rfl (by kernel_rfl)  (opv_move rfl) ?_
 refine th_take_g rfl rfl rfl rfl rfl (by kernel_rfl)  (opv_indexAddrA rfl rfl (by decide) (by decide)) ?_
 refine th_take_g rfl rfl rfl rfl rfl (by kernel_rfl)  (opv_load1 rfl rfl rfl) ?_
 refine th_take_g rfl rfl rfl rfl rfl (by kernel_rfl)  (opv_fieldAddr rfl rfl) ?_
 refine th_take_g rfl rfl rfl rfl rfl (by kernel_rfl)  (opv_load1 rfl rfl rfl) ?_
 refine th_take_g rfl rfl rfl rfl rfl (by kernel_rfl)  (opv_len rfl) ?_
 refine th_take_g rfl rfl rfl rfl rfl (by kernel_rfl)  (opv_geq rfl rfl) ?_
 refine th_take rfl rfl (by kernel_rfl)  (opv_pick_f rfl rfl) ?_
 refine yM rfl rfl ?_
 refine th_split rfl rfl rfl (fun h3b => ?_) (fun h3b => ?_)
 ·refine yS rfl rfl rfl (yS rfl rfl rfl (yS rfl rfl rfl (yS rfl rfl rfl (yS rfl rfl rfl (yS rfl rfl rfl (yS rfl rfl rfl (yS rfl rfl rfl ?_)))))))
  refine yS rfl rfl rfl (yS rfl rfl rfl (yS rfl rfl rfl (yS rfl rfl rfl (yS rfl rfl rfl (yS rfl rfl rfl (yS rfl rfl rfl (yS rfl rfl rfl ?_)))))))
  refine th_take rfl rfl (by kernel_rfl)  (opv_pick_t rfl rfl) ?_
  refine yD (tT ?_)
  refine tri_cond_true rfl ?_
  refine tS (tR ?_)
  refine yB rfl rfl ?_
  refine yG rfl rfl rfl rfl rfl rfl ?_
  rintro _ _ _ ⟨rfl, rfl⟩
  refine tA rfl rfl (tA rfl rfl (tN (tT (tri_ret (tri_then_ret (tri_inBlock_ret (tri_then_ret ?_)))))))
  refine tri_then_ret (tri_inBlock_ret (tri_then_ret ?_))
  refine tri_end A Suf.h rfl (.cons (rv_cellA rfl rfl rfl) (.cons (rv_tmp rfl) (.cons (rv_tmp rfl) .nil))) ?_
  rw [bad (by unfold R6.fit4 R6.inS; omega)]
  exact ⟨a, cap, rfl, hst, rfl, fun _ h => h⟩
 refine th_take_g rfl rfl rfl rfl rfl (by kernel_rfl)  (opv_fieldAddr rfl rfl) ?_
 refine th_take_g rfl rfl rfl rfl rfl (by kernel_rfl)  (opv_load1 rfl rfl rfl) ?_
 refine th_take_g rfl rfl rfl rfl rfl (by kernel_rfl)  (opv_move rfl) ?_
 refine th_take_g rfl rfl rfl rfl rfl (by kernel_rfl)  (opv_indexAddrA rfl rfl (by decide) (by decide)) ?_
 refine th_take_g rfl rfl rfl rfl rfl (by kernel_rfl)  (opv_load1 rfl rfl rfl) ?_
 refine th_take_g rfl rfl rfl rfl rfl (by kernel_rfl)  (opv_indexAddrS rfl rfl (by omega) (by omega) (by assumption) rfl) ?_
 refine th_take_g rfl rfl rfl rfl rfl (by kernel_rfl)  (opv_fieldAddrE rfl (by assumption) (by omega) rfl) ?_
 refine th_take_g rfl rfl rfl rfl rfl (by kernel_rfl)  (opv_loadE1 rfl (by assumption) rfl (by omega) rfl rfl) ?_
 refine th_take_g rfl rfl rfl rfl rfl (by kernel_rfl)  (opv_fieldAddr rfl rfl) ?_
 refine th_take_g rfl rfl rfl rfl rfl (by kernel_rfl)  (opv_load1 rfl rfl rfl) ?_
 refine th_take_g rfl rfl rfl rfl rfl (by kernel_rfl)  (opv_indexAddrA rfl rfl (by decide) (by decide)) ?_
 refine th_take_g rfl rfl rfl rfl rfl (by kernel_rfl)  (opv_load1 rfl rfl rfl) ?_
 refine th_take_g rfl rfl rfl rfl rfl (by kernel_rfl)  (opv_indexAddrS rfl rfl (by omega) (by omega) (by assumption) rfl) ?_
 refine th_take_g rfl rfl rfl rfl rfl (by kernel_rfl)  (opv_fieldAddrE rfl (by assumption) (by omega) rfl) ?_
 refine th_take_g rfl rfl rfl rfl rfl (by kernel_rfl)  (opv_loadE1 rfl (by assumption) rfl (by omega) rfl rfl) ?_
 refine th_take_g rfl rfl rfl rfl rfl (by kernel_rfl)  (opv_neq rfl rfl) ?_
 refine th_take rfl rfl (by kernel_rfl)  (opv_pick_f rfl rfl) ?_
 refine yD (tT ?_)
 refine tri_cond_dec rfl (fun h3c => ?_) (fun h3c => ?_)
 ·refine tS (tR ?_)
  refine yB rfl rfl ?_
  refine yG rfl rfl rfl rfl rfl rfl ?_
  rintro _ _ _ ⟨rfl, rfl⟩
  refine tA rfl rfl (tA rfl rfl (tN (tT (tri_ret (tri_then_ret (tri_inBlock_ret (tri_then_ret ?_)))))))
  refine tri_then_ret (tri_inBlock_ret (tri_then_ret ?_))
  refine tri_end A Suf.h rfl (.cons (rv_cellA rfl rfl rfl) (.cons (rv_tmp rfl) (.cons (rv_tmp rfl) .nil))) ?_
  rw [bad (by unfold R6.fit4 R6.inS; exact fun h => h3c h.2.2.2.1.2)]
  exact ⟨a, cap, rfl, hst, rfl, fun _ h => h⟩
 have b3 := hm.at h3a h3b
 have e3 := R6.mn_bd (x := (if 4611686018427387903 < (if 4611686018427387903 < 0 + (ns.getD q0.toNat default).pop then 4611686018427387903 else 0 + (ns.getD q0.toNat default).pop) + (ns.getD q1.toNat default).pop then 4611686018427387903 else (if 4611686018427387903 < 0 + (ns.getD q0.toNat default).pop then 4611686018427387903 else 0 + (ns.getD q0.toNat default).pop) + (ns.getD q1.toNat default).pop) + (ns.getD q2.toNat default).pop) (by omega)
 refine tri_skip (tT ?_)
 refine tri_draw [0, 1, 2, 3, 4, 5, 6, 7, 8, 9, 10, 11] rfl [] rfl mixed ?_
 refine yM rfl rfl (yf rfl rfl ?_)
 refine yl rfl rfl rfl ?_
 refine yM rfl rfl ?_
 refine th_take rfl rfl (by kernel_rfl)  (opv_indexAddrA rfl rfl (by decide) (by decide)) ?_
 refine yl rfl rfl rfl ?_
 refine th_take rfl rfl (by kernel_rfl)  (opv_indexAddrS rfl rfl (by omega) (by omega) (by assumption) rfl) ?_
 refine th_take rfl rfl (by kernel_rfl)  (opv_fieldAddrE rfl (by assumption) (by omega) rfl) ?_
 refine th_take rfl rfl (by kernel_rfl)  (opv_loadE1 rfl (by assumption) rfl (by omega) rfl rfl) ?_
 refine th_take rfl rfl (by kernel_rfl)  (opv_add rfl rfl (w64 (by omega) (by omega))) ?_
 refine th_take rfl rfl (by kernel_rfl)  (opv_min2 rfl rfl) ?_
 refine yA rfl rfl (yD (tri_inBlock (tT (tR (tM rfl rfl ?_)))))
 refine yU rfl rfl ?_
 refine tA rfl rfl (tN (tT (tri_round (tS (tS (tR (tM rfl rfl ?_)))))))
 refine yC rfl rfl (tN (tT ?_))
 refine tri_cond_not rfl (by decide) ?_
 refine tri_exit ?_
 refine tri_then_exit (tri_then_exit ?_)
 refine tri_inBlock_hit rfl ?_
 refine tT (tS (tR (yF rfl ?_)))
 refine yL rfl rfl ?_
 refine tri_v (opv_indexAddrA rfl rfl (by decide) (by decide)) rfl ?_
 refine yL rfl rfl ?_
 refine tri_v (opv_indexAddrS rfl rfl (by omega) (by omega) (by assumption) rfl) rfl ?_
 refine tri_v (opv_fieldAddrE rfl (by assumption) (by omega) rfl) rfl ?_
 refine tri_v (opv_loadE1 rfl (by assumption) rfl (by omega) rfl rfl) rfl ?_
 refine yU rfl rfl ?_
 refine tA rfl rfl (tN (tT (tS (tS (tR (tM rfl rfl ?_))))))
 refine tri_v (opv_gtr rfl rfl) rfl ?_
 refine tN (tT ?_)
 refine tri_cond_dec rfl (fun h4 => ?_) (fun h4 => ?_)
 ·refine tS (tR ?_)
  refine yB rfl rfl ?_
  refine yG rfl rfl rfl rfl rfl rfl ?_
  rintro _ _ _ ⟨rfl, rfl⟩
  refine tA rfl rfl (tA rfl rfl (tN (tT (tri_ret (tri_then_ret ?_)))))
  refine tri_end A Suf.h rfl (.cons (rv_cellA rfl rfl rfl) (.cons (rv_tmp rfl) (.cons (rv_tmp rfl) .nil))) ?_
  rw [bad (by unfold R6.fit4 R6.inS R6.nd; omega)]
  exact ⟨a, cap, rfl, hst, rfl, fun _ h => h⟩
 refine tri_skip (tT (tS (tR ?_)))
 refine yB rfl rfl ?_
 refine yB rfl rfl ?_
 refine tri_g (opg_call (xs := [_, _]) rfl (ref06_at hs hn)) rfl ?_
 rintro _ _ _ ⟨rfl, rfl, rfl⟩
 refine tA rfl rfl (tN (tT (tS (tS (tR (tM rfl rfl ?_))))))
 refine tri_v (opv_geq rfl rfl) rfl ?_
 refine tN (tT ?_)
 have fit : R6.fit4 ns q0 q1 q2 q3 := by unfold R6.fit4 R6.inS R6.nd; omega
 refine tri_cond_dec rfl (fun h6 => ?_) (fun h6 => ?_)
 ·refine tS (tR ?_)
  refine yB rfl rfl ?_
  refine tM rfl rfl ?_
  refine yG rfl rfl rfl rfl rfl rfl ?_
  rintro _ _ _ ⟨rfl, rfl⟩
  refine tA rfl rfl (tA rfl rfl (tN (tT (tri_ret (tri_then_ret ?_)))))
  refine tri_end A Suf.h rfl (.cons (rv_cellA rfl rfl rfl) (.cons (rv_tmp rfl) (.cons (rv_tmp rfl) .nil))) ?_
  rw [show R6.put ns room q0 q1 q2 q3 = (ns, R6.at_ ns [q0, q1, q2, q3], 0) by unfold R6.put; rw [if_pos fit, if_pos h6]]
  exact ⟨a, cap, rfl, hst, rfl, fun _ h => h⟩
 refine tri_skip (tT (tS (tS (tR (yF rfl ?_)))))
 refine yL rfl rfl ?_
 refine tri_v (opv_len rfl) rfl ?_
 refine yF rfl ?_
 refine yL rfl rfl ?_
 refine tri_v (opv_geq rfl rfl) rfl ?_
 refine tN (tT ?_)
 refine tri_cond_dec rfl (fun h7 => ?_) (fun h7 => ?_)
 ·refine tS (tR ?_)
  refine yB rfl rfl ?_
  refine yG rfl rfl rfl rfl rfl rfl ?_
  rintro _ _ _ ⟨rfl, rfl⟩
  refine tA rfl rfl (tA rfl rfl (tN (tT (tri_ret (tri_then_ret ?_)))))
  refine tri_end A Suf.h rfl (.cons (rv_cellA rfl rfl rfl) (.cons (rv_tmp rfl) (.cons (rv_tmp rfl) .nil))) ?_
  rw [show R6.put ns room q0 q1 q2 q3 = (ns, 0, 40) by unfold R6.put; rw [if_pos fit, if_neg h6, if_pos h7]]
  exact ⟨a, cap, rfl, hst, rfl, fun _ h => h⟩
 skip
 refine tri_skip (tT (tS ?_))
 refine tri_nilRow (E := 35) (sz := 6) ?_
 skip
 refine tri_cut (fun F' A' I' => ∃ b3 a2 cap2, F' = [(2, pt bs 0), (3, pt bk 0), (4, pt br 0), (7, .int .i64 (R6.pop4 ns q0 q1 q2 q3)), (9, .int .i64 ((R6.nd ns q0).lv + 1)), (11, pt b3 0)] ∧ A' = Box b3 [.slice a2 (0 + ns.length) cap2, .int .i64 room] 26 :: Row a2 cap2 (0 + ns.length) 35 6 ([] ++ encs ns) :: Box br [.slice none 0 0, .int .i64 0] 26 :: Box bk [.int .i64 q0, .int .i64 q1, .int .i64 q2, .int .i64 q3] 33 :: Box bs [.slice a ns.length cap, .int .i64 room] 26 :: A ∧ I' = I) ?_ ?_
 ·refine tri_draw [0, 1, 2, 3, 4, 5, 6, 7] rfl [_] rfl mixed ?_
  refine yf rfl rfl ?_
  refine yl rfl rfl rfl ?_
  refine yf rfl rfl ?_
  refine yl rfl rfl rfl ?_
  refine th_two (j := 6) [4, 5, 7] (by kernel_rfl) rfl ?_ ?_
  ·refine (step_m rfl rfl (opg_appendS rfl rfl hs rfl rfl (by omega) rfl) ?_)
   rintro _ _ _ ⟨a2, cap2, rfl, rfl, rfl⟩
   refine ⟨Suf.h, (fun _ h => h), ?_⟩
   refine th_take rfl rfl (by kernel_rfl)  (opv_buildS rfl rfl) ?_
   refine th_one (by kernel_rfl) (step_m rfl rfl opg_alloc ?_)
   rintro _ _ _ ⟨b, rfl, rfl, rfl⟩
   refine ⟨Suf.h, (fun _ h => h), ?_⟩
   refine th_one (by kernel_rfl) (step_m rfl rfl (opg_store rfl rfl rfl rfl rfl rfl) ?_)
   rintro _ _ _ ⟨rfl, rfl⟩
   refine ⟨Suf.h, (fun _ h => h), ?_⟩
   refine yD ?_
   refine tri_cutEnd _ ⟨b, a2, cap2, rfl, rfl, rfl⟩ ⟨rfl, rfl, rfl, rfl, rfl, rfl, trivial⟩
  ·refine (step_m rfl rfl opg_alloc ?_)
   rintro _ _ _ ⟨b, rfl, rfl, rfl⟩
   refine ⟨Suf.h, (fun _ h => h), ?_⟩
   refine th_one (by kernel_rfl) (step_m rfl rfl (opg_appendS rfl rfl hs rfl rfl (by omega) rfl) ?_)
   rintro _ _ _ ⟨a2, cap2, rfl, rfl, rfl⟩
   refine ⟨Suf.h, (fun _ h => h), ?_⟩
   refine th_take rfl rfl (by kernel_rfl)  (opv_buildS rfl rfl) ?_
   refine th_one (by kernel_rfl) (step_m rfl rfl (opg_store rfl rfl rfl rfl rfl rfl) ?_)
   rintro _ _ _ ⟨rfl, rfl⟩
   refine ⟨Suf.h, (fun _ h => h), ?_⟩
   refine yD ?_
   refine tri_cutEnd _ ⟨b, a2, cap2, rfl, rfl, rfl⟩ ⟨rfl, rfl, rfl, rfl, rfl, rfl, trivial⟩
 rintro _ _ _ ⟨b3, a2, cap2, rfl, rfl, rfl⟩
 skip
 refine tT (tS (tR (yF rfl ?_)))
 refine yL rfl rfl ?_
 refine tM rfl rfl ?_
 refine yB rfl rfl ?_
 refine tM rfl rfl ?_
 refine tri_v (opv_buildS rfl rfl) rfl ?_
 refine tri_g (opg_buildSlice rfl rfl rfl rfl) rfl ?_
 rintro _ _ _ ⟨b, rfl, rfl, rfl⟩
 refine tri_g (opg_appendB rfl rfl rfl rfl (by omega) rfl) rfl ?_
 rintro _ _ _ ⟨a3, cap3, rfl, rfl, rfl⟩
 refine yF rfl ?_
 refine yG rfl rfl rfl rfl rfl rfl ?_
 rintro _ _ _ ⟨rfl, rfl⟩
 refine tN (tT (tS ?_))
 refine tri_pull3 ?_
 skip
 refine tri_draw [0, 1, 2, 3, 4, 5, 6] rfl [_] rfl mixed ?_
 refine th_take rfl rfl (by kernel_rfl)  (opv_loadA rfl rfl rfl) ?_
 refine yf rfl rfl ?_
 refine yl rfl rfl rfl ?_
 refine th_take rfl rfl (by kernel_rfl)  (opv_len rfl) ?_
 refine th_one (by kernel_rfl) (step_m rfl rfl (opg_store rfl rfl rfl rfl rfl rfl) ?_)
 rintro _ _ _ ⟨rfl, rfl⟩
 refine ⟨Suf.h, (fun _ h => h), ?_⟩
 refine yA rfl rfl (yA rfl rfl (yD (tT (tri_ret ?_))))
 refine tri_pull3 ?_
 refine tri_rowEq (len' := (ns ++ [R6.mk4 ns q0 q1 q2 q3]).length) (cells' := encs (ns ++ [R6.mk4 ns q0 q1 q2 q3])) (by simp) (by rw [encs_append]; rfl) ?_
 refine tri_freezeRowC rfl fun I' hI hs' => ?_
 refine tri_end A Suf.h rfl (.cons (rv_cellA rfl rfl rfl) (.cons (rv_tmp rfl) (.cons (rv_tmp rfl) .nil))) ?_
 rw [show R6.put ns room q0 q1 q2 q3 = (ns ++ [R6.mk4 ns q0 q1 q2 q3], (ns.length : Int), 0) by unfold R6.put; rw [if_pos fit, if_neg h6, if_neg h7]]
 exact ⟨a3, cap3, by simp [retV], hs', rfl, hI⟩
end Go.GL


namespace Go.GL
theorem Node.ext_iff' {a b : Node} : a = b ↔ [a.lv, a.k0, a.k1, a.k2, a.k3, a.pop] = [b.lv, b.k0, b.k1, b.k2, b.k3, b.pop] := by
 cases a; cases b; simp
theorem Node.ne_iff' {a b : Node} : a ≠ b ↔ [a.lv, a.k0, a.k1, a.k2, a.k3, a.pop] ≠ [b.lv, b.k0, b.k1, b.k2, b.k3, b.pop] := by rw [Ne, Node.ext_iff']
abbrev nodeV (x : Node) : Value := .agg [.int .i64 x.lv, .int .i64 x.k0, .int .i64 x.k1, .int .i64 x.k2, .int .i64 x.k3, .int .i64 x.pop].toArray
namespace R6
def kidOk (ns : List Node) (n : Nat) (q lv : Int) : Prop := 0 ≤ q ∧ q < n ∧ (nd ns q).lv = lv - 1
instance (ns : List Node) (n : Nat) (q lv : Int) : Decidable (kidOk ns n q lv) := inferInstanceAs (Decidable (_ ∧ _))
def fitsX (ns : List Node) (n : Nat) (x : Node) : Prop := kidOk ns n x.k0 x.lv ∧ kidOk ns n x.k1 x.lv ∧ kidOk ns n x.k2 x.lv ∧ kidOk ns n x.k3 x.lv ∧ 1 ≤ x.lv ∧ x.lv ≤ 42 ∧ x.pop = pop4 ns x.k0 x.k1 x.k2 x.k3 ∧ at_ ns x.kids = n
instance (ns : List Node) (n : Nat) (x : Node) : Decidable (fitsX ns n x) := inferInstanceAs (Decidable (_ ∧ _))
def fits (ns : List Node) (n : Nat) : Prop := fitsX ns n (ns.getD n default)
instance (ns : List Node) (n : Nat) : Decidable (fits ns n) := inferInstanceAs (Decidable (fitsX _ _ _))
def n0 : Node := ⟨0, 0, 0, 0, 0, 0⟩
def n1 : Node := ⟨0, 0, 0, 0, 0, 1⟩
def right (ns : List Node) (room : Int) : Prop := (2 ≤ room ∧ room ≤ 100000 ∧ 2 ≤ ns.length ∧ ns.length ≤ room ∧ ns.getD 0 default = n0 ∧ ns.getD 1 default = n1) ∧ ∀ i, i < ns.length → 2 ≤ i → fits ns i
instance (ns : List Node) (room : Int) : Decidable (right ns room) := inferInstanceAs (Decidable (_ ∧ _))
def Rng (ns : List Node) : Prop := ∀ x ∈ ns, -9223372036854775808 ≤ x.lv ∧ x.lv ≤ 9223372036854775807
def ModTo (ns : List Node) (n : Nat) : Prop := ∀ j, j < n → 0 ≤ (ns.getD j default).lv ∧ (ns.getD j default).lv ≤ 42 ∧ 0 ≤ (ns.getD j default).pop ∧ (ns.getD j default).pop ≤ 4611686018427387903
theorem ModTo.at {ns : List Node} {n : Nat} (h : ModTo ns n) {k : Int} (h1 : ¬ k < 0) (h2 : ¬ (n : Int) ≤ k) : 0 ≤ (ns.getD k.toNat default).lv ∧ (ns.getD k.toNat default).lv ≤ 42 ∧ 0 ≤ (ns.getD k.toNat default).pop ∧ (ns.getD k.toNat default).pop ≤ 4611686018427387903 := h k.toNat (by omega)
theorem wrapNe {u v : Int} (h1 : 0 ≤ u) (h2 : u ≤ 42) (h3 : -9223372036854775808 ≤ v) (h4 : v ≤ 9223372036854775807) : (u ≠ IntKind.i64.wrap (v - 1)) ↔ u ≠ v - 1 := by
 by_cases e : v = -9223372036854775808
 ·subst e
  have : IntKind.i64.wrap (-9223372036854775808 - 1) = 9223372036854775807 := by decide
  rw [this]
  omega
 ·rw [w64 (by omega) (by omega)]
theorem pop4_bd {ns : List Node} {n : Nat} (h : ModTo ns n) {q0 q1 q2 q3 : Int} (h3 : 0 ≤ q3 ∧ q3 < n) (h0 : 0 ≤ q0 ∧ q0 < n) (h1 : 0 ≤ q1 ∧ q1 < n) (h2 : 0 ≤ q2 ∧ q2 < n) : 0 ≤ pop4 ns q0 q1 q2 q3 ∧ pop4 ns q0 q1 q2 q3 ≤ 4611686018427387903 := by
 have b0 := (h q0.toNat (by omega)).2.2
 have b1 := (h q1.toNat (by omega)).2.2
 have b2 := (h q2.toNat (by omega)).2.2
 have b3 := (h q3.toNat (by omega)).2.2
 unfold pop4 nd cap62
 have e0 := mn_bd (x := 0 + (ns.getD q0.toNat default).pop) (by omega)
 unfold mn
 generalize (if 4611686018427387903 < 0 + (ns.getD q0.toNat default).pop then (4611686018427387903 : Int) else 0 + (ns.getD q0.toNat default).pop) = p0 at *
 have e1 := mn_bd (x := p0 + (ns.getD q1.toNat default).pop) (by omega)
 generalize (if 4611686018427387903 < p0 + (ns.getD q1.toNat default).pop then (4611686018427387903 : Int) else p0 + (ns.getD q1.toNat default).pop) = p1 at *
 have e2 := mn_bd (x := p1 + (ns.getD q2.toNat default).pop) (by omega)
 generalize (if 4611686018427387903 < p1 + (ns.getD q2.toNat default).pop then (4611686018427387903 : Int) else p1 + (ns.getD q2.toNat default).pop) = p2 at *
 exact mn_bd (x := p2 + (ns.getD q3.toNat default).pop) (by omega)
theorem ModTo.step {ns : List Node} {n : Nat} (h : ModTo ns n) (hf : fits ns n) : ModTo ns (n + 1) := by
 intro j hj
 by_cases e : j = n
 ·subst e
  obtain ⟨⟨a0, b0, _⟩, ⟨a1, b1, _⟩, ⟨a2, b2, _⟩, ⟨a3, b3, _⟩, h5, h6, h7, _⟩ := hf
  have := pop4_bd h ⟨a3, b3⟩ ⟨a0, b0⟩ ⟨a1, b1⟩ ⟨a2, b2⟩
  rw [h7]
  exact ⟨by omega, h6, this⟩
 ·exact h j (by omega)
theorem right.modTo {ns : List Node} {room : Int} (h : right ns room) : ModTo ns ns.length := by
 have key : ∀ n, n ≤ ns.length → ModTo ns n := by
  intro n
  induction n with
  | zero => intro _ j hj; omega
  | succ n ih =>
   intro hn
   have hm := ih (by omega)
   by_cases h2 : 2 ≤ n
   ·exact hm.step (h.2 n (by omega) h2)
   ·intro j hj
    have h0 := h.1.2.2.2.2.1
    have h1 := h.1.2.2.2.2.2
    rcases (by omega : j = 0 ∨ j = 1) with rfl | rfl
    ·rw [h0]; decide
    ·rw [h1]; decide
 exact key _ (Nat.le_refl _)
theorem ModTo.mod {ns : List Node} (h : ModTo ns ns.length) : Mod ns := by
 intro x hx
 obtain ⟨i, hi, rfl⟩ := List.getElem_of_mem hx
 have := h i hi
 simpa [hi, cap62] using this
end R6
end Go.GL

