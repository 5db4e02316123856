/- Part 1: a logic of frames and held blocks over the kit's wp, and plain models of the document's functions. No condition beyond those that each theorem states. -/
import Derived.WalkKit
import Derived.KernelRfl
import Derived.LoopN
import Derived.OrdersHeld
import Derived.Laws.StructEq
import Derived.ChangeKeysEq
import Derived.Carry
import Derived.ProofKit
import Derived.OpenShut
import Derived.JoinedCond
import Derived.Deep.Slices
import Derived.ChangeSame
import Derived.Below
/-
 The core of a small program logic over the kit's 'wp': frames and heaps as lists of facts.
-/
set_option linter.unusedVariables false
set_option linter.unusedSimpArgs false
namespace Go.GL

/-! ### 1. Frames -/
theorem nbeq_false {a b : Nat} (h : a ≠ b) : Nat.beq a b = false := by
 cases hb : Nat.beq a b with
 | false => rfl
 | true => exact absurd (Nat.eq_of_beq_eq_true hb) h
abbrev Frm := List (Nat × Value)
def look : Frm → Nat → Option Value
 | [], _ => none
 | (d, v) :: F, k => bif Nat.beq d k then some v else look F k
def ev (F : Frm) : Operand → Option Value
 | .tmp d => look F d
 | .const v => some v
 | .global g => some (.pointer (some ⟨g, 0, none⟩))
 | .func f => some (.func (.func f) #[] #[])
structure Fr (t : Array Value) (n : Nat) (F : Frm) : Prop where
 size : t.size = n
 get : ∀ d v, look F d = some v → t[d]? = some v

theorem Fr.eval {t : Array Value} {n : Nat} {F : Frm} (h : Fr t n F) {ds : List Deferred} {x : Operand} {v : Value} (hx : ev F x = some v) : Act.eval ⟨t, ds⟩ x = v := by
 cases x with
 | tmp d =>
  have := h.get d v hx
  simp only [Act.eval, Array.getD_eq_getD_getElem?]
  simp [this]
 | const c => simpa [ev, Act.eval] using hx
 | global g => simpa [ev, Act.eval] using hx
 | func f => simpa [ev, Act.eval] using hx

theorem Fr.put {t : Array Value} {n : Nat} {F : Frm} (h : Fr t n F) (d : Nat) (hd : d < n) (v : Value) : Fr (t.setIfInBounds d v) n ((d, v) :: F) := by
 refine ⟨by simp [h.size], fun k u hk => ?_⟩
 simp only [look] at hk
 by_cases e : d = k
 ·subst e
  simp only [Nat.beq_refl, cond_true, Option.some.injEq] at hk
  subst hk
  rw [Array.getElem?_setIfInBounds]
  simp [h.size, hd]
 ·have : Nat.beq d k = false := nbeq_false e
  rw [this, cond_false] at hk
  rw [Array.getElem?_setIfInBounds, if_neg e]
  exact h.get k u hk

/-- The frame F' says no more than F. -/
def Sub : Frm → Frm → Prop
 | [], _ => True
 | (d, v) :: F', F => look F d = some v ∧ Sub F' F
theorem Sub.look {F' F : Frm} (h : Sub F' F) {d : Nat} {v : Value} (hl : look F' d = some v) : look F d = some v := by
 induction F' with
 | nil => simp [GL.look] at hl
 | cons p F' ih =>
  obtain ⟨e, u⟩ := p
  obtain ⟨h1, h2⟩ := h
  simp only [GL.look] at hl
  by_cases he : e = d
  ·subst he
   simp only [Nat.beq_refl, cond_true, Option.some.injEq] at hl
   exact hl ▸ h1
  ·have : Nat.beq e d = false := nbeq_false he
   rw [this, cond_false] at hl
   exact ih h2 hl
theorem Fr.sub {t : Array Value} {n : Nat} {F F' : Frm} (h : Fr t n F) (hs : Sub F' F) : Fr t n F' := ⟨h.size, fun d v hl => h.get d v (hs.look hl)⟩

/-! ### 2. Heaps -/
abbrev Chunk := Nat × Obj
structure Wd (w0 w : World) (L : List Chunk) : Prop where
 os : w.os = w0.os
 tape : w.tape = w0.tape
 output : w.output = w0.output
 size : w0.heap.size ≤ w.heap.size
 nd : (L.map (·.1)).Nodup
 has : ∀ c ∈ L, w.heap[c.1]? = some c.2

theorem Wd.lt {w0 w : World} {L : List Chunk} (h : Wd w0 w L) {c : Chunk} (hc : c ∈ L) : c.1 < w.heap.size := (Array.getElem?_eq_some_iff.1 (h.has c hc)).1
theorem Wd.fresh {w0 w : World} {L : List Chunk} (h : Wd w0 w L) : w.heap.size ∉ L.map (·.1) := by
 intro hm
 obtain ⟨c, hc, e⟩ := List.mem_map.1 hm
 have := h.lt hc
 omega
theorem Wd.alloc {w0 w : World} {L : List Chunk} (h : Wd w0 w L) (o : Obj) : Wd w0 (w.alloc o) ((w.heap.size, o) :: L) := by
 refine ⟨h.os, h.tape, h.output, by have := h.size; rw [World.size_alloc]; omega, ?_, ?_⟩
 ·simp only [List.map_cons, List.nodup_cons]
  exact ⟨h.fresh, h.nd⟩
 ·intro c hc
  rcases List.mem_cons.1 hc with rfl | hc
  ·show (w.heap.push o)[w.heap.size]? = some o
   simp
  ·have := h.lt hc
   show (w.heap.push o)[c.1]? = some c.2
   rw [Array.getElem?_push, if_neg (by omega)]
   exact h.has c hc
theorem Wd.drawn {w0 w : World} {L : List Chunk} (h : Wd w0 w L) (n : Nat) : Wd w0 { w with drawn := n } L := ⟨h.os, h.tape, h.output, h.size, h.nd, h.has⟩
theorem Wd.perm {w0 w : World} {L L' : List Chunk} (h : Wd w0 w L) (hp : L.Perm L') : Wd w0 w L' :=
 ⟨h.os, h.tape, h.output, h.size, (hp.map (·.1)).nodup_iff.1 h.nd, fun c hc => h.has c (hp.mem_iff.2 hc)⟩
theorem Wd.drop {w0 w : World} {L L' : List Chunk} (h : Wd w0 w (L ++ L')) : Wd w0 w L' := by
 refine ⟨h.os, h.tape, h.output, h.size, ?_, fun c hc => h.has c (by simp [hc])⟩
 have := h.nd
 rw [List.map_append] at this
 exact (List.nodup_append.1 this).2.1
theorem Wd.tail {w0 w : World} {c : Chunk} {L : List Chunk} (h : Wd w0 w (c :: L)) : Wd w0 w L := Wd.drop (L := [c]) h
/-- Setting the object of the first block. -/
theorem Wd.setObj {w0 w : World} {b : Nat} {o : Obj} {L : List Chunk} (h : Wd w0 w ((b, o) :: L)) (o' : Obj) (heap' : Array Obj) (hsz : heap'.size = w.heap.size) (hb : heap'[b]? = some o') (hne : ∀ k, k ≠ b → heap'[k]? = w.heap[k]?) :
  Wd w0 { w with heap := heap' } ((b, o') :: L) := by
 have hnd := h.nd
 simp only [List.map_cons, List.nodup_cons] at hnd
 refine ⟨h.os, h.tape, h.output, by simpa [hsz] using h.size, by simpa using hnd, ?_⟩
 intro c hc
 rcases List.mem_cons.1 hc with rfl | hc
 ·exact hb
 ·have hcb : c.1 ≠ b := fun e => hnd.1 (List.mem_map.2 ⟨c, hc, e⟩)
  exact (hne c.1 hcb).trans (h.has c (List.mem_cons_of_mem _ hc))

/-- What is held: a word on a list of chunks. -/
abbrev Asrt := List Chunk → Prop
inductive Seps : List Asrt → List Chunk → Prop
 | nil : Seps [] []
 | cons {a : Asrt} {c cs : List Chunk} {A : List Asrt} : a c → Seps A cs → Seps (a :: A) (c ++ cs)
def St (w0 w : World) (A : List Asrt) (I : List Chunk) : Prop := ∃ cs, Seps A cs ∧ Wd w0 w (cs ++ I)

theorem Seps.cons_inv {a : Asrt} {A : List Asrt} {cs : List Chunk} (h : Seps (a :: A) cs) : ∃ c cs', cs = c ++ cs' ∧ a c ∧ Seps A cs' := by
 cases h with
 | cons h1 h2 => exact ⟨_, _, rfl, h1, h2⟩
theorem Seps.append_inv {A B : List Asrt} {cs : List Chunk} (h : Seps (A ++ B) cs) : ∃ c1 c2, cs = c1 ++ c2 ∧ Seps A c1 ∧ Seps B c2 := by
 induction A generalizing cs with
 | nil => exact ⟨[], cs, rfl, .nil, h⟩
 | cons a A ih =>
  obtain ⟨c, cs', rfl, ha, hr⟩ := Seps.cons_inv (by simpa using h)
  obtain ⟨c1, c2, rfl, h1, h2⟩ := ih hr
  exact ⟨c ++ c1, c2, by simp, .cons ha h1, h2⟩
theorem Seps.append {A B : List Asrt} {c1 c2 : List Chunk} (h1 : Seps A c1) (h2 : Seps B c2) : Seps (A ++ B) (c1 ++ c2) := by
 induction h1 with
 | nil => simpa
 | cons ha _ ih => rw [List.cons_append, List.append_assoc]; exact .cons ha ih
theorem Seps.perm {A B : List Asrt} (hp : A.Perm B) : ∀ {cs : List Chunk}, Seps A cs → ∃ cs', Seps B cs' ∧ cs.Perm cs' := by
 induction hp with
 | nil => intro cs h; exact ⟨cs, h, .refl _⟩
 | cons a _ ih =>
  intro cs h
  obtain ⟨c, cs', rfl, ha, hr⟩ := h.cons_inv
  obtain ⟨cs2, h2, hp⟩ := ih hr
  exact ⟨c ++ cs2, .cons ha h2, hp.append_left c⟩
 | swap a b l =>
  intro cs h
  obtain ⟨c, cs', rfl, ha, hr⟩ := h.cons_inv
  obtain ⟨d, cs2, rfl, hb, hr⟩ := hr.cons_inv
  refine ⟨d ++ (c ++ cs2), .cons hb (.cons ha hr), ?_⟩
  rw [← List.append_assoc, ← List.append_assoc]
  exact List.Perm.append_right _ List.perm_append_comm
 | trans _ _ ih1 ih2 =>
  intro cs h
  obtain ⟨c1, h1, p1⟩ := ih1 h
  obtain ⟨c2, h2, p2⟩ := ih2 h1
  exact ⟨c2, h2, p1.trans p2⟩
theorem St.perm {w0 w : World} {A B : List Asrt} {I : List Chunk} (h : St w0 w A I) (hp : A.Perm B) : St w0 w B I := by
 obtain ⟨cs, hs, hw⟩ := h
 obtain ⟨cs', hs', hp'⟩ := hs.perm hp
 exact ⟨cs', hs', hw.perm (hp'.append_right I)⟩
theorem St.drawn {w0 w : World} {A : List Asrt} {I : List Chunk} (h : St w0 w A I) (n : Nat) : St w0 { w with drawn := n } A I := let ⟨cs, hs, hw⟩ := h; ⟨cs, hs, hw.drawn n⟩
theorem St.drew {w0 w : World} {A : List Asrt} {I : List Chunk} (h : St w0 w A I) : St w0 w.drew A I := h.drawn _
theorem St.drop {w0 w : World} {a : Asrt} {A : List Asrt} {I : List Chunk} (h : St w0 w (a :: A) I) : St w0 w A I := by
 obtain ⟨cs, hs, hw⟩ := h
 obtain ⟨c, cs', rfl, ha, hr⟩ := hs.cons_inv
 exact ⟨cs', hr, by rw [List.append_assoc] at hw; exact hw.drop⟩
theorem St.opens {w0 w : World} {a : Asrt} {A : List Asrt} {I : List Chunk} (h : St w0 w (a :: A) I) : ∃ c, a c ∧ St w0 w ((fun x => x = c) :: A) I := by
 obtain ⟨cs, hs, hw⟩ := h
 obtain ⟨c, cs', rfl, ha, hr⟩ := hs.cons_inv
 exact ⟨c, ha, c ++ cs', .cons rfl hr, hw⟩
theorem St.weaken {w0 w : World} {a b : Asrt} {A : List Asrt} {I : List Chunk} (h : St w0 w (a :: A) I) (hab : ∀ c, a c → b c) : St w0 w (b :: A) I := by
 obtain ⟨cs, hs, hw⟩ := h
 obtain ⟨c, cs', rfl, ha, hr⟩ := hs.cons_inv
 exact ⟨c ++ cs', .cons (hab c ha) hr, hw⟩

/-- One block. -/
def Pt (b : Nat) (o : Obj) : Asrt := fun c => c = [(b, o)]
/-- One block of cells. -/
def Box (b : Nat) (cells : List Value) (T : TypeId) : Asrt := Pt b (.cells cells.toArray T (0, 0))

theorem St.alloc {w0 w : World} {A : List Asrt} {I : List Chunk} (h : St w0 w A I) (o : Obj) : St w0 (w.alloc o) (Pt w.heap.size o :: A) I := by
 obtain ⟨cs, hs, hw⟩ := h
 exact ⟨[(w.heap.size, o)] ++ cs, .cons rfl hs, by simpa using hw.alloc o⟩
theorem St.at {w0 w : World} {b : Nat} {o : Obj} {A : List Asrt} {I : List Chunk} (h : St w0 w (Pt b o :: A) I) : w.heap[b]? = some o := by
 obtain ⟨cs, hs, hw⟩ := h
 obtain ⟨c, cs', rfl, rfl, hr⟩ := hs.cons_inv
 exact hw.has (b, o) (by simp)
theorem St.set {w0 w : World} {b : Nat} {o : Obj} {A : List Asrt} {I : List Chunk} (h : St w0 w (Pt b o :: A) I) (o' : Obj) (heap' : Array Obj) (hsz : heap'.size = w.heap.size) (hb : heap'[b]? = some o') (hne : ∀ k, k ≠ b → heap'[k]? = w.heap[k]?) :
  St w0 { w with heap := heap' } (Pt b o' :: A) I := by
 obtain ⟨cs, hs, hw⟩ := h
 obtain ⟨c, cs', rfl, rfl, hr⟩ := hs.cons_inv
 exact ⟨[(b, o')] ++ cs', .cons rfl hr, by simpa using Wd.setObj (by simpa using hw) o' heap' hsz hb hne⟩
/-- What will not be written any more. -/
theorem St.freeze {w0 w : World} {b : Nat} {o : Obj} {A : List Asrt} {I : List Chunk} (h : St w0 w (Pt b o :: A) I) : St w0 w A ((b, o) :: I) := by
 obtain ⟨cs, hs, hw⟩ := h
 obtain ⟨c, cs', rfl, rfl, hr⟩ := hs.cons_inv
 refine ⟨cs', hr, hw.perm ?_⟩
 simpa using (List.perm_middle (l₁ := cs') (a := (b, o)) (l₂ := I)).symm
theorem St.inI {w0 w : World} {A : List Asrt} {I : List Chunk} (h : St w0 w A I) {c : Chunk} (hc : c ∈ I) : w.heap[c.1]? = some c.2 := by
 obtain ⟨cs, hs, hw⟩ := h
 exact hw.has c (by simp [hc])

/-! ### 3. The judgement -/
def Tri (w0 : World) (n : Nat) (F : Frm) (A : List Asrt) (I : List Chunk) (K : Act → World → Prop) : Prop := ∀ t w, Fr t n F → St w0 w A I → K ⟨t, []⟩ w

section
variable {w0 : World} {n : Nat} {F : Frm} {A : List Asrt} {I : List Chunk} {P : Program} {Q : Exit → Act → World → Prop}

theorem tri_sub {F' : Frm} {K : Act → World → Prop} (hs : Sub F' F) (h : Tri w0 n F' A I K) : Tri w0 n F A I K := fun t w hf hst => h t w (hf.sub hs) hst
theorem tri_perm {B : List Asrt} {K : Act → World → Prop} (hp : A.Perm B) (h : Tri w0 n F B I K) : Tri w0 n F A I K := fun t w hf hst => h t w hf (hst.perm hp)
theorem tri_pull1 {a b : Asrt} {K : Act → World → Prop} (hh : Tri w0 n F (b :: a :: A) I K) : Tri w0 n F (a :: b :: A) I K := tri_perm (B := b :: a :: A) (by simpa using (List.perm_middle (l₁ := [a]) (a := b) (l₂ := A))) hh
theorem tri_pull2 {a b c : Asrt} {K : Act → World → Prop} (hh : Tri w0 n F (c :: a :: b :: A) I K) : Tri w0 n F (a :: b :: c :: A) I K := tri_perm (B := c :: a :: b :: A) (by simpa using (List.perm_middle (l₁ := [a, b]) (a := c) (l₂ := A))) hh
theorem tri_pull3 {a b c d : Asrt} {K : Act → World → Prop} (hh : Tri w0 n F (d :: a :: b :: c :: A) I K) : Tri w0 n F (a :: b :: c :: d :: A) I K := tri_perm (B := d :: a :: b :: c :: A) (by simpa using (List.perm_middle (l₁ := [a, b, c]) (a := d) (l₂ := A))) hh
theorem tri_pull4 {a b c d e : Asrt} {K : Act → World → Prop} (hh : Tri w0 n F (e :: a :: b :: c :: d :: A) I K) : Tri w0 n F (a :: b :: c :: d :: e :: A) I K := tri_perm (B := e :: a :: b :: c :: d :: A) (by simpa using (List.perm_middle (l₁ := [a, b, c, d]) (a := e) (l₂ := A))) hh
theorem tri_pull5 {a b c d e f : Asrt} {K : Act → World → Prop} (hh : Tri w0 n F (f :: a :: b :: c :: d :: e :: A) I K) : Tri w0 n F (a :: b :: c :: d :: e :: f :: A) I K := tri_perm (B := f :: a :: b :: c :: d :: e :: A) (by simpa using (List.perm_middle (l₁ := [a, b, c, d, e]) (a := f) (l₂ := A))) hh
theorem tri_pull6 {a b c d e f g : Asrt} {K : Act → World → Prop} (hh : Tri w0 n F (g :: a :: b :: c :: d :: e :: f :: A) I K) : Tri w0 n F (a :: b :: c :: d :: e :: f :: g :: A) I K := tri_perm (B := g :: a :: b :: c :: d :: e :: f :: A) (by simpa using (List.perm_middle (l₁ := [a, b, c, d, e, f]) (a := g) (l₂ := A))) hh
theorem tri_pull7 {a b c d e f g h : Asrt} {K : Act → World → Prop} (hh : Tri w0 n F (h :: a :: b :: c :: d :: e :: f :: g :: A) I K) : Tri w0 n F (a :: b :: c :: d :: e :: f :: g :: h :: A) I K := tri_perm (B := h :: a :: b :: c :: d :: e :: f :: g :: A) (by simpa using (List.perm_middle (l₁ := [a, b, c, d, e, f, g]) (a := h) (l₂ := A))) hh
theorem tri_drop {a : Asrt} {K : Act → World → Prop} (h : Tri w0 n F A I K) : Tri w0 n F (a :: A) I K := fun t w hf hst => h t w hf hst.drop
theorem tri_open {a : Asrt} {K : Act → World → Prop} (h : ∀ c, a c → Tri w0 n F ((fun x => x = c) :: A) I K) : Tri w0 n F (a :: A) I K := fun t w hf hst =>
 let ⟨c, hc, hs⟩ := hst.opens; h c hc t w hf hs
theorem tri_weaken {a b : Asrt} {K : Act → World → Prop} (hab : ∀ c, a c → b c) (h : Tri w0 n F (b :: A) I K) : Tri w0 n F (a :: A) I K := fun t w hf hst => h t w hf (hst.weaken hab)
theorem tri_freeze {b : Nat} {o : Obj} {K : Act → World → Prop} (h : Tri w0 n F A ((b, o) :: I) K) : Tri w0 n F (Pt b o :: A) I K := fun t w hf hst => h t w hf hst.freeze
theorem tri_freezeBox {b : Nat} {cs : List Value} {T : TypeId} {K : Act → World → Prop} (h : Tri w0 n F A ((b, .cells cs.toArray T (0, 0)) :: I) K) : Tri w0 n F (Box b cs T :: A) I K := tri_freeze h

/-! #### code -/
theorem tri_seq {x y : Code} (h : Tri w0 n F A I (Code.wp P x (Exit.then (Code.wp P y Q) Q))) : Tri w0 n F A I (Code.wp P (.seq x y) Q) := fun t w hf hs => wp_seq (h t w hf hs)
theorem tri_skip (h : Tri w0 n F A I (Q .normal)) : Tri w0 n F A I (Code.wp P .skip Q) := fun t w hf hs => wp_skip (h t w hf hs)
theorem tri_exit {id : Nat} (h : Tri w0 n F A I (Q (.exit id))) : Tri w0 n F A I (Code.wp P (.exit id) Q) := fun t w hf hs => wp_exit (h t w hf hs)
theorem tri_ret (h : Tri w0 n F A I (Q .ret)) : Tri w0 n F A I (Code.wp P .ret Q) := fun t w hf hs => wp_ret (h t w hf hs)
theorem tri_block {id : Nat} {c : Code} (h : Tri w0 n F A I (Code.wp P c (Exit.inBlock id Q))) : Tri w0 n F A I (Code.wp P (.block id c) Q) := fun t w hf hs => wp_block (h t w hf hs)
theorem tri_region {id : Nat} {l : List Oper} (h : Tri w0 n F A I (wpList P l.toArray Q l)) : Tri w0 n F A I (Code.wp P (.region id l.toArray false) Q) := fun t w hf hs => wp_region_lit (h t w hf hs)
theorem tri_nil {ops : Array Oper} (h : Tri w0 n F A I (Q .normal)) : Tri w0 n F A I (wpList P ops Q []) := h
theorem tri_then {K : Act → World → Prop} (h : Tri w0 n F A I K) : Tri w0 n F A I (Exit.then K Q .normal) := h
theorem tri_then_exit {K : Act → World → Prop} {id : Nat} (h : Tri w0 n F A I (Q (.exit id))) : Tri w0 n F A I (Exit.then K Q (.exit id)) := h
theorem tri_then_ret {K : Act → World → Prop} (h : Tri w0 n F A I (Q .ret)) : Tri w0 n F A I (Exit.then K Q .ret) := h
theorem tri_inBlock {id : Nat} (h : Tri w0 n F A I (Q .normal)) : Tri w0 n F A I (Exit.inBlock id Q .normal) := h
theorem tri_inBlock_ret {id : Nat} (h : Tri w0 n F A I (Q .ret)) : Tri w0 n F A I (Exit.inBlock id Q .ret) := h
theorem tri_inBlock_hit {id id' : Nat} (he : Nat.beq id' id = true) (h : Tri w0 n F A I (Q .normal)) : Tri w0 n F A I (Exit.inBlock id Q (.exit id')) := by
 have : id' = id := Nat.eq_of_beq_eq_true he
 subst this
 intro t w hf hs
 simp only [Exit.inBlock, if_true]
 exact h t w hf hs
theorem tri_inBlock_miss {id id' : Nat} (he : Nat.beq id' id = false) (h : Tri w0 n F A I (Q (.exit id'))) : Tri w0 n F A I (Exit.inBlock id Q (.exit id')) := by
 have : id' ≠ id := Nat.ne_of_beq_eq_false he
 intro t w hf hs
 simp only [Exit.inBlock, if_neg this]
 exact h t w hf hs
theorem tri_cond {c : Operand} {x y : Code} {b : Bool} (hc : ev F c = some (.bool b)) (ht : b = true → Tri w0 n F A I (Code.wp P x Q)) (hf : b = false → Tri w0 n F A I (Code.wp P y Q)) : Tri w0 n F A I (Code.wp P (.cond c x y) Q) :=
 fun t w hfr hs => wp_cond_split (hfr.eval hc) (fun h => ht h t w hfr hs) (fun h => hf h t w hfr hs)
theorem tri_cond_true {c : Operand} {x y : Code} (hc : ev F c = some (.bool true)) (ht : Tri w0 n F A I (Code.wp P x Q)) : Tri w0 n F A I (Code.wp P (.cond c x y) Q) := tri_cond hc (fun _ => ht) (by simp)
theorem tri_cond_false {c : Operand} {x y : Code} (hc : ev F c = some (.bool false)) (hf : Tri w0 n F A I (Code.wp P y Q)) : Tri w0 n F A I (Code.wp P (.cond c x y) Q) := tri_cond hc (by simp) (fun _ => hf)
theorem tri_cond_dec {c : Operand} {x y : Code} {p : Prop} [Decidable p] (hc : ev F c = some (.bool (decide p))) (ht : p → Tri w0 n F A I (Code.wp P x Q)) (hf : ¬ p → Tri w0 n F A I (Code.wp P y Q)) : Tri w0 n F A I (Code.wp P (.cond c x y) Q) :=
 tri_cond hc (fun h => ht (of_decide_eq_true h)) (fun h => hf (of_decide_eq_false h))

/-- A loop, by a relation on frames and heaps, and a measure. -/
theorem tri_loop {c : Code} (R : Frm → List Asrt → List Chunk → Nat → Prop) (m : Nat) (h0 : R F A I m)
  (round : ∀ F A I m, R F A I m → Tri w0 n F A I (Code.wp P c (Exit.then (fun a w => ∃ F' A' I' m', R F' A' I' m' ∧ m' < m ∧ Fr a.tmps n F' ∧ a.defers = [] ∧ St w0 w A' I') Q))) :
  Tri w0 n F A I (Code.wp P (.loop c) Q) := by
 intro t w hf hs
 let J : Nat → Act → World → Prop := fun m a w => ∃ F A I, R F A I m ∧ Fr a.tmps n F ∧ a.defers = [] ∧ St w0 w A I
 refine wp_loop (fun a w => ∃ m, J m a w) (fun a w => open Classical in if h : ∃ m, J m a w then Classical.epsilon (fun m => J m a w ∧ ∀ m', J m' a w → m ≤ m') else 0) ⟨m, F, A, I, h0, hf, rfl, hs⟩ ?_
 have least : ∀ a w, (∃ m, J m a w) → ∃ m, J m a w ∧ ∀ m', J m' a w → m ≤ m' := by
  intro a w ⟨m, hm⟩
  induction m using Nat.strongRecOn with
  | _ m ih =>
   by_cases h : ∃ m', m' < m ∧ J m' a w
   ·obtain ⟨m', hlt, hm'⟩ := h
    exact ih m' hlt hm'
   ·exact ⟨m, hm, fun m' hm' => Nat.le_of_not_lt fun hlt => h ⟨m', hlt, hm'⟩⟩
 have eps : ∀ a w, (∃ m, J m a w) → J (Classical.epsilon (fun m => J m a w ∧ ∀ m', J m' a w → m ≤ m')) a w ∧ ∀ m', J m' a w → Classical.epsilon (fun m => J m a w ∧ ∀ m', J m' a w → m ≤ m') ≤ m' :=
  fun a w h => Classical.epsilon_spec (least a w h)
 intro a w hJ
 have he := eps a w hJ
 simp only [dif_pos hJ]
 generalize Classical.epsilon (fun m => J m a w ∧ ∀ m', J m' a w → m ≤ m') = m at he ⊢
 obtain ⟨⟨F, A, I, hR, hF, hd, hS⟩, _⟩ := he
 obtain ⟨t, ds⟩ := a
 simp only at hd hF
 subst hd
 refine Code.wp_mono ?_ (round F A I m hR t w hF hS)
 intro e a' w' hq
 cases e with
 | normal =>
  obtain ⟨F', A', I', m', hR', hlt, hF', hd', hS'⟩ := hq
  have hJ' : ∃ m, J m a' w' := ⟨m', F', A', I', hR', hF', hd', hS'⟩
  refine ⟨hJ', ?_⟩
  rw [dif_pos hJ']
  exact Nat.lt_of_le_of_lt ((eps a' w' hJ').2 m' ⟨F', A', I', hR', hF', hd', hS'⟩) hlt
 | exit id => exact hq
 | goto l => exact hq
 | ret => exact hq
 | panic ch => exact hq
 | outgrown => exact hq
/-- The end of a round. -/
theorem tri_again {R : Frm → List Asrt → List Chunk → Nat → Prop} {m : Nat} (F' : Frm) (m' : Nat) (hR : R F' A I m') (hm : m' < m) (hs : Sub F' F) :
  Tri w0 n F A I (fun a w => ∃ F' A' I' m', R F' A' I' m' ∧ m' < m ∧ Fr a.tmps n F' ∧ a.defers = [] ∧ St w0 w A' I') :=
 fun t w hf hst => ⟨F', A, I, m', hR, hm, hf.sub hs, rfl, hst⟩

/-- A loop, by what holds at a round's head; K: the next rounds. -/
theorem tri_rounds {c : Code} (m : Nat) (h : Tri w0 n F A I (Code.rounds P c Q m)) : Tri w0 n F A I (Code.wp P (.loop c) Q) := fun t w hf hs => wp_loop_rounds m (h t w hf hs)
theorem tri_round {c : Code} {m : Nat} (h : Tri w0 n F A I (Code.wp P c (Exit.then (Code.rounds P c Q m) Q))) : Tri w0 n F A I (Code.rounds P c Q (m + 1)) := h
theorem loop_ind {G : Type} (μ : G → Nat) (pre : G → Prop) (Fg : G → Frm) (Ag : G → List Asrt) (Ig : G → List Chunk) {c : Code}
  (round : ∀ g, pre g → ∀ K : Act → World → Prop, (∀ g', pre g' → μ g' < μ g → Tri w0 n (Fg g') (Ag g') (Ig g') K) → Tri w0 n (Fg g) (Ag g) (Ig g) (Code.wp P c (Exit.then K Q))) (g : G) (hg : pre g) :
  Tri w0 n (Fg g) (Ag g) (Ig g) (Code.wp P (.loop c) Q) := by
 have key : ∀ m g, pre g → μ g < m → Tri w0 n (Fg g) (Ag g) (Ig g) (Code.rounds P c Q m) := by
  intro m
  induction m with
  | zero => intro g _ h; omega
  | succ m ih => intro g hg hm; exact tri_round (round g hg _ fun g' hg' hlt => ih g' hg' (by omega))
 exact tri_rounds (μ g + 1) (key _ g hg (by omega))

/-- A cut: behind the piece of code one of these states. -/
def cutQ (w0 : World) (n : Nat) (C : Frm → List Asrt → List Chunk → Prop) (Q : Exit → Act → World → Prop) : Exit → Act → World → Prop
 | .normal, a, w => ∃ F' A' I', C F' A' I' ∧ Fr a.tmps n F' ∧ a.defers = [] ∧ St w0 w A' I'
 | e, a, w => Q e a w
theorem tri_cut {c : Code} (C : Frm → List Asrt → List Chunk → Prop) (h : Tri w0 n F A I (Code.wp P c (cutQ w0 n C Q))) (k : ∀ F' A' I', C F' A' I' → Tri w0 n F' A' I' (Q .normal)) : Tri w0 n F A I (Code.wp P c Q) := by
 intro t w hf hs
 refine Code.wp_mono ?_ (h t w hf hs)
 intro e a w q
 cases e with
 | normal =>
  obtain ⟨F', A', I', hC, hF, hd, hS⟩ := q
  obtain ⟨t', ds⟩ := a
  simp only at hd hF
  subst hd
  exact k F' A' I' hC t' w hF hS
 | _ => exact q
theorem tri_cutEnd {C : Frm → List Asrt → List Chunk → Prop} (F' : Frm) (hC : C F' A I) (hs : Sub F' F) : Tri w0 n F A I (cutQ w0 n C Q .normal) := fun t w hf hst => ⟨F', A, I, hC, hf.sub hs, rfl, hst⟩
theorem tri_cut_exit {C : Frm → List Asrt → List Chunk → Prop} {id : Nat} (h : Tri w0 n F A I (Q (.exit id))) : Tri w0 n F A I (cutQ w0 n C Q (.exit id)) := h
theorem tri_cut_ret {C : Frm → List Asrt → List Chunk → Prop} (h : Tri w0 n F A I (Q .ret)) : Tri w0 n F A I (cutQ w0 n C Q .ret) := h
/-- For looking alone. -/
def Dbg (F : Frm) (A : List Asrt) (I : List Chunk) : Prop := ∀ w0 n K, Tri w0 n F A I K
theorem tri_dbg {K : Act → World → Prop} (h : Dbg F A I) : Tri w0 n F A I K := h _ _ _

/-! #### calls -/
/-- What a call comes to. -/
def FnC (P : Program) (f : FuncId) (args : Array Value) (A : List Asrt) (I : List Chunk) (R : Value → List Asrt → List Chunk → Prop) : Prop :=
 ∀ w0 w, St w0 w A I → Calls P f args w fun e w' => ∃ v A' I', e = .returned v ∧ R v A' I' ∧ St w0 w' A' I'
theorem FnC.mono {f : FuncId} {args : Array Value} {R R' : Value → List Asrt → List Chunk → Prop} (h : FnC P f args A I R) (hr : ∀ v A' I', R v A' I' → R' v A' I') : FnC P f args A I R' :=
 fun w0 w hs => (h w0 w hs).mono fun e w' ⟨v, A', I', he, hR, hS⟩ => ⟨v, A', I', he, hr _ _ _ hR, hS⟩
theorem FnC.perm {f : FuncId} {args : Array Value} {B : List Asrt} {R : Value → List Asrt → List Chunk → Prop} (h : FnC P f args B I R) (hp : A.Perm B) : FnC P f args A I R :=
 fun w0 w hs => h w0 w (hs.perm hp)

/-- The post of a body. -/
def Ends (P : Program) (fn : Func) (w0 : World) (R : Value → List Asrt → List Chunk → Prop) : Exit → Act → World → Prop :=
 bodyPost P fn fun e w' => ∃ v A' I', e = .returned v ∧ R v A' I' ∧ St w0 w' A' I'

/-- The first slots. -/
def argF : List Value → Nat → Frm
 | [], _ => []
 | v :: l, k => (k, v) :: argF l (k + 1)
theorem fr_of_args : ∀ (l : List Value) (t : Array Value) (k : Nat), (∀ i v, l[i]? = some v → t[k + i]? = some v) → ∀ d v, look (argF l k) d = some v → t[d]? = some v
 | [], t, k, h, d, v, hl => by simp [argF, look] at hl
 | x :: l, t, k, h, d, v, hl => by
  simp only [argF, look] at hl
  by_cases e : k = d
  ·subst e
   simp only [Nat.beq_refl, cond_true, Option.some.injEq] at hl
   subst hl
   simpa using h 0 x (by simp)
  ·rw [nbeq_false e, cond_false] at hl
   exact fr_of_args l t (k + 1) (fun i v hi => by have := h (i + 1) v (by simpa using hi); rwa [show k + (i + 1) = k + 1 + i by omega] at this) d v hl

/-- Into a function: its arguments stand in the first slots; the others hold nothing that is known. -/
theorem fn_enter {f : FuncId} {fn : Func} {c : Code} {args : List Value} {R : Value → List Asrt → List Chunk → Prop} {m : Nat} (hf : P.funcs[f]? = some fn) (hb : fn.body = some c) (hn : fn.ntmps = m) (hle : Nat.ble args.length m = true)
  (h : ∀ w0, Tri w0 m (argF args 0) A I (Code.wp P c (Ends P fn w0 R))) : FnC P f args.toArray A I R := by
 intro w0 w hs
 have hle' := Nat.le_of_ble_eq_true hle
 refine calls_of_wp hf hb (h w0 _ w ⟨?_, ?_⟩ hs)
 ·simp only [Array.size_append, Array.size_replicate, List.size_toArray, hn]; omega
 ·refine fr_of_args args _ 0 (fun i v hi => ?_)
  have hlt : i < args.length := (List.getElem?_eq_some_iff.1 hi).1
  rw [Nat.zero_add, Array.getElem?_append, if_pos (by simpa using hlt)]
  simpa using hi
section
variable {f : FuncId} {fn : Func} {c : Code} {R : Value → List Asrt → List Chunk → Prop} {m : Nat} (hf : P.funcs[f]? = some fn) (hb : fn.body = some c) (hn : fn.ntmps = m)
include hf hb hn
theorem fn_enter0 (hle : Nat.ble 0 m = true) (h : ∀ w0, Tri w0 m [] A I (Code.wp P c (Ends P fn w0 R))) : FnC P f [].toArray A I R := fn_enter hf hb hn hle h
theorem fn_enter1 {a : Value} (hle : Nat.ble 1 m = true) (h : ∀ w0, Tri w0 m [(0, a)] A I (Code.wp P c (Ends P fn w0 R))) : FnC P f [a].toArray A I R := fn_enter (args := [a]) hf hb hn hle h
theorem fn_enter2 {a b : Value} (hle : Nat.ble 2 m = true) (h : ∀ w0, Tri w0 m [(0, a), (1, b)] A I (Code.wp P c (Ends P fn w0 R))) : FnC P f [a, b].toArray A I R := fn_enter (args := [a, b]) hf hb hn hle h
theorem fn_enter3 {a b d : Value} (hle : Nat.ble 3 m = true) (h : ∀ w0, Tri w0 m [(0, a), (1, b), (2, d)] A I (Code.wp P c (Ends P fn w0 R))) : FnC P f [a, b, d].toArray A I R := fn_enter (args := [a, b, d]) hf hb hn hle h
theorem fn_enter4 {a b d e : Value} (hle : Nat.ble 4 m = true) (h : ∀ w0, Tri w0 m [(0, a), (1, b), (2, d), (3, e)] A I (Code.wp P c (Ends P fn w0 R))) : FnC P f [a, b, d, e].toArray A I R := fn_enter (args := [a, b, d, e]) hf hb hn hle h
theorem fn_enter5 {a b d e g : Value} (hle : Nat.ble 5 m = true) (h : ∀ w0, Tri w0 m [(0, a), (1, b), (2, d), (3, e), (4, g)] A I (Code.wp P c (Ends P fn w0 R))) : FnC P f [a, b, d, e, g].toArray A I R := fn_enter (args := [a, b, d, e, g]) hf hb hn hle h
theorem fn_enter6 {a b d e g i : Value} (hle : Nat.ble 6 m = true) (h : ∀ w0, Tri w0 m [(0, a), (1, b), (2, d), (3, e), (4, g), (5, i)] A I (Code.wp P c (Ends P fn w0 R))) : FnC P f [a, b, d, e, g, i].toArray A I R := fn_enter (args := [a, b, d, e, g, i]) hf hb hn hle h
theorem fn_enter7 {a b d e g i j : Value} (hle : Nat.ble 7 m = true) (h : ∀ w0, Tri w0 m [(0, a), (1, b), (2, d), (3, e), (4, g), (5, i), (6, j)] A I (Code.wp P c (Ends P fn w0 R))) : FnC P f [a, b, d, e, g, i, j].toArray A I R := fn_enter (args := [a, b, d, e, g, i, j]) hf hb hn hle h
theorem fn_enter8 {a b d e g i j k : Value} (hle : Nat.ble 8 m = true) (h : ∀ w0, Tri w0 m [(0, a), (1, b), (2, d), (3, e), (4, g), (5, i), (6, j), (7, k)] A I (Code.wp P c (Ends P fn w0 R))) : FnC P f [a, b, d, e, g, i, j, k].toArray A I R := fn_enter (args := [a, b, d, e, g, i, j, k]) hf hb hn hle h
theorem fn_enter9 {a b d e g i j k l : Value} (hle : Nat.ble 9 m = true) (h : ∀ w0, Tri w0 m [(0, a), (1, b), (2, d), (3, e), (4, g), (5, i), (6, j), (7, k), (8, l)] A I (Code.wp P c (Ends P fn w0 R))) : FnC P f [a, b, d, e, g, i, j, k, l].toArray A I R := fn_enter (args := [a, b, d, e, g, i, j, k, l]) hf hb hn hle h
end
end
end Go.GL

set_option linter.unusedVariables false
set_option linter.unusedSimpArgs false
namespace Go.GL

/-- What is known of a type. -/
class TyI (P : Program) (t : TypeId) (d : outParam TypeDesc) (s b : outParam Nat) (z : outParam (List Value)) : Prop where
 und : P.underlying t = some d
 inf : ∃ v, (P.info? t).map (fun i => (i.size, i.bytes, i.zero)) = some (s, b, some v) ∧ v.cells.toList = z
 zl : z.length = s
/-- What is known of a field. -/
class FldI (P : Program) (t : TypeId) (i : Nat) (off ft : outParam Nat) : Prop where
 h : ∃ fs f, P.underlying t = some (.struct fs) ∧ fs[i]? = some f ∧ f.offset = off ∧ f.type = ft
/-- What is known of a function. -/
class FnI (P : Program) (f : FuncId) : Prop where
 fn : ∃ fn, P.funcs[f]? = some fn ∧ (fn.name == "runtime.NumGoroutine") = false ∧ fn.body.isNone = false

section
variable {P : Program} {t : TypeId} {d : TypeDesc} {s b : Nat} {z : List Value}
theorem TyI.info [h : TyI P t d s b z] : ∃ i v, P.info? t = some i ∧ i.size = s ∧ i.bytes = b ∧ i.zero = some v ∧ v.cells.toList = z := by
 obtain ⟨v, this, hv⟩ := h.inf
 cases hi : P.info? t with
 | none => simp [hi] at this
 | some i => exact ⟨i, v, rfl, by simp [hi] at this; exact this.1, by simp [hi] at this; exact this.2.1, by simp [hi] at this; exact this.2.2, hv⟩
theorem run_und [h : TyI P t d s b z] (w : World) : (underlying t).run P w = .ok d w := run_underlying h.und w
theorem run_tyinfo [h : TyI P t d s b z] (w : World) : ∃ i v, (typeInfo t).run P w = .ok i w ∧ i.size = s ∧ i.bytes = b ∧ i.zero = some v ∧ v.cells.toList = z := by
 obtain ⟨i, v, h1, h2⟩ := h.info
 exact ⟨i, v, by simp [typeInfo, h1], h2⟩
theorem run_size [h : TyI P t d s b z] (w : World) : (sizeOf t).run P w = .ok s w := by
 obtain ⟨i, v, h1, h2, _⟩ := run_tyinfo (P := P) (t := t) w
 simp [sizeOf, h1, h2]
theorem run_bytes [h : TyI P t d s b z] (w : World) : ∃ i, (typeInfo t).run P w = .ok i w ∧ i.bytes = b := by
 obtain ⟨i, v, h1, h2, h3, _⟩ := run_tyinfo (P := P) (t := t) w
 exact ⟨i, h1, h3⟩
theorem run_zero [h : TyI P t d s b z] (w : World) : ∃ v, (zeroValue t).run P w = .ok v w ∧ v.cells.toList = z := by
 obtain ⟨i, v, h1, h2, h3, h4, h5⟩ := run_tyinfo (P := P) (t := t) w
 exact ⟨v, by simp [zeroValue, h1, h4], h5⟩
/-- Is it a struct or an array? -/
def isA : TypeDesc → Bool | .struct _ | .array _ _ => true | _ => false
theorem run_isA [h : TyI P t d s b z] (w : World) : (isAgg t).run P w = .ok (isA d) w := by
 unfold isAgg
 rw [Sem.run_bind, run_und w]
 cases d <;> rfl
end

theorem beqd (a b : Int) : (a == b) = decide (a = b) := by rw [Bool.eq_iff_iff]; simp
def putF : Option Tmp → Value → Frm → Frm
 | some d, v, F => (d, v) :: F
 | none, _, F => F
/-- The slot that is written is one. -/
def dOk (n : Nat) (o : Oper) : Bool := match o.dst with | some d => Nat.blt d n | none => true
theorem Fr.putF {t : Array Value} {n : Nat} {F : Frm} (h : Fr t n F) {o : Oper} (hd : dOk n o = true) (v : Value) : Fr (Act.put ⟨t, []⟩ o.dst v).tmps n (putF o.dst v F) := by
 unfold dOk at hd
 cases ho : o.dst with
 | none => exact h
 | some d => rw [ho] at hd; exact h.put d (Nat.le_of_ble_eq_true hd) v
theorem act_put (t : Array Value) (dst : Option Tmp) (v : Value) : Act.put ⟨t, []⟩ dst v = ⟨(Act.put ⟨t, []⟩ dst v).tmps, []⟩ := by cases dst <;> rfl

section
variable (P : Program) (w0 : World) (n : Nat)
/-- The operation tells v and turns nothing. -/
def OpV (o : Oper) (F : Frm) (A : List Asrt) (I : List Chunk) (v : Value) : Prop :=
 ∀ t w, Fr t n F → St w0 w A I → (execOp (Act.eval ⟨t, []⟩) o).run P w = .ok (.value v) w
/-- What the operation does. -/
def OpG (o : Oper) (F : Frm) (A : List Asrt) (I : List Chunk) (G : Value → List Asrt → List Chunk → Prop) : Prop :=
 ∀ t w (K : Act → World → Prop) (Q : Exit → Act → World → Prop), Fr t n F → St w0 w A I →
  (∀ w' v A' I', G v A' I' → St w0 w' A' I' → K (Act.put ⟨t, []⟩ o.dst v) w') → o.wp P ⟨t, []⟩ w K Q
end

section
variable {w0 : World} {n : Nat} {F : Frm} {A : List Asrt} {I : List Chunk} {P : Program} {Q : Exit → Act → World → Prop}
variable {ops : Array Oper} {rest : List Oper} {d : Nat} {dst : Option Tmp} {ty : TypeId} {pos : String} {af : Array Edge} {gd : Option (Nat × Bool)} {o : Oper}

theorem OpV.toG {v : Value} (h : OpV P w0 n o F A I v) : OpG P w0 n o F A I (fun v' A' I' => v' = v ∧ A = A' ∧ I = I') := by
 intro t w K Q hf hs hk
 unfold Oper.wp
 rw [h t w hf hs, Oper.upon_value]
 exact hk w v A I ⟨rfl, rfl, rfl⟩ hs
theorem OpG.mono {G G' : Value → List Asrt → List Chunk → Prop} (h : OpG P w0 n o F A I G) (hg : ∀ v A' I', G v A' I' → G' v A' I') : OpG P w0 n o F A I G' :=
 fun t w K Q hf hs hk => h t w K Q hf hs fun w' v A' I' hG hs' => hk w' v A' I' (hg _ _ _ hG) hs'
/-- By the run alone. -/
theorem opg_run {G : Value → List Asrt → List Chunk → Prop}
  (hrun : ∀ t w, Fr t n F → St w0 w A I → ∃ v w' A' I', (execOp (Act.eval ⟨t, []⟩) o).run P w = .ok (.value v) w' ∧ G v A' I' ∧ St w0 w' A' I') : OpG P w0 n o F A I G := by
 intro t w K Q hf hs hk
 obtain ⟨v, w', A', I', hr, hG, hs'⟩ := hrun t w hf hs
 unfold Oper.wp
 rw [hr, Oper.upon_value]
 exact hk w' v A' I' hG hs'
theorem opg_unit {G : Value → List Asrt → List Chunk → Prop}
  (hrun : ∀ t w, Fr t n F → St w0 w A I → ∃ w' A' I', (execOp (Act.eval ⟨t, []⟩) o).run P w = .ok .skip w' ∧ G undef A' I' ∧ St w0 w' A' I') : OpG P w0 n o F A I G := by
 intro t w K Q hf hs hk
 obtain ⟨w', A', I', hr, hG, hs'⟩ := hrun t w hf hs
 unfold Oper.wp
 rw [hr, Oper.upon_skip]
 exact hk w' undef A' I' hG hs'

/-! ### In a region of fixed order -/
theorem tri_v {op : Op} {v : Value} (hop : OpV P w0 n ⟨some d, op, ty, pos, af, none⟩ F A I v) (hn : Nat.blt d n = true) (k : Tri w0 n ((d, v) :: F) A I (wpList P ops Q rest)) : Tri w0 n F A I (wpList P ops Q (⟨some d, op, ty, pos, af, none⟩ :: rest)) := by
 intro t w hf hs
 refine wpList_plain rfl fun K hK => ?_
 unfold Oper.wp
 rw [hop t w hf hs, Oper.upon_value]
 exact hK _ _ (k _ _ (hf.put d (Nat.le_of_ble_eq_true hn) v) hs)
theorem tri_g {G : Value → List Asrt → List Chunk → Prop} {op : Op} (hop : OpG P w0 n ⟨dst, op, ty, pos, af, none⟩ F A I G) (hn : dOk n ⟨dst, op, ty, pos, af, none⟩ = true)
  (k : ∀ v A' I', G v A' I' → Tri w0 n (putF dst v F) A' I' (wpList P ops Q rest)) : Tri w0 n F A I (wpList P ops Q (⟨dst, op, ty, pos, af, none⟩ :: rest)) := by
 intro t w hf hs
 refine wpList_plain rfl fun K hK => ?_
 refine hop t w K Q hf hs fun w' v A' I' hG hs' => ?_
 rw [act_put]
 exact hK _ _ (k v A' I' hG _ _ (hf.putF (o := ⟨dst, op, ty, pos, af, none⟩) hn v) hs')

/-! #### guards -/
theorem yielded_of {t : Array Value} (hf : Fr t n F) {j dj : Nat} {b : Bool} (hj : (ops[j]?).bind (·.dst) = some dj) (hv : look F dj = some (.bool b)) : yielded ops t j = some b := by
 unfold yielded
 rw [hj, Option.bind_some, hf.get dj _ hv]
theorem tri_guard_run {op : Op} {j dj : Nat} {b c : Bool} (hj : (ops[j]?).bind (·.dst) = some dj) (hv : look F dj = some (.bool b)) (hbc : (b == c) = true)
  (k : Tri w0 n F A I (wpList P ops Q (⟨dst, op, ty, pos, af, none⟩ :: rest))) : Tri w0 n F A I (wpList P ops Q (⟨dst, op, ty, pos, af, some (j, c)⟩ :: rest)) := by
 intro t w hf hs
 have hy := yielded_of (ops := ops) hf hj hv
 have hbc' : b = c := by simpa using hbc
 subst hbc'
 have := k t w hf hs
 unfold wpList at this ⊢
 rw [if_pos (by simp [Region.wanted])] at this
 rw [if_pos (by simp [Region.wanted, hy])]
 exact this
theorem tri_guard_skip {op : Op} {j dj : Nat} {b c : Bool} (hj : (ops[j]?).bind (·.dst) = some dj) (hv : look F dj = some (.bool b)) (hbc : (b == c) = false) (hn : dOk n ⟨dst, op, ty, pos, af, none⟩ = true)
  (k : Tri w0 n (putF dst undef F) A I (wpList P ops Q rest)) : Tri w0 n F A I (wpList P ops Q (⟨dst, op, ty, pos, af, some (j, c)⟩ :: rest)) := by
 intro t w hf hs
 have hy := yielded_of (ops := ops) hf hj hv
 unfold wpList
 rw [if_neg (by simp [Region.wanted, hy]; simpa using hbc), act_put]
 exact k _ _ (hf.putF (o := ⟨dst, op, ty, pos, af, none⟩) hn undef) hs
/-- A slot's bool is decided. -/
theorem fr_bool {t : Array Value} (hfr : Fr t n F) {dj : Nat} {b : Bool} (hv : look F dj = some (.bool b)) : Fr t n ((dj, .bool b) :: F) := by
 refine ⟨hfr.size, fun k v hk => ?_⟩
 simp only [look] at hk
 by_cases e : dj = k
 ·subst e
  simp only [Nat.beq_refl, cond_true, Option.some.injEq] at hk
  exact hfr.get _ _ (hk ▸ hv)
 ·rw [nbeq_false e, cond_false] at hk
  exact hfr.get _ _ hk
theorem tri_bool {K : Act → World → Prop} (dj : Nat) {b : Bool} (hv : look F dj = some (.bool b)) (ht : b = true → Tri w0 n ((dj, .bool true) :: F) A I K) (hf : b = false → Tri w0 n ((dj, .bool false) :: F) A I K) : Tri w0 n F A I K := by
 intro t w hfr hs
 have key := fr_bool hfr hv
 cases b
 ·exact hf rfl t w key hs
 ·exact ht rfl t w key hs
theorem tri_bool_dec {K : Act → World → Prop} (dj : Nat) {p : Prop} [Decidable p] (hv : look F dj = some (.bool (decide p))) (ht : p → Tri w0 n ((dj, .bool true) :: F) A I K) (hf : ¬ p → Tri w0 n ((dj, .bool false) :: F) A I K) : Tri w0 n F A I K :=
 tri_bool dj hv (fun h => ht (of_decide_eq_true h)) (fun h => hf (of_decide_eq_false h))

/-! ### Plain operations -/
theorem opv_move {x : Operand} {v : Value} (hx : ev F x = some v) : OpV P w0 n ⟨dst, .move x, ty, pos, af, gd⟩ F A I v := fun t w hf hs => by simp [execOp, hf.eval hx]
theorem opv_assign {x : Operand} {v : Value} (hx : ev F x = some v) : OpV P w0 n ⟨dst, .assign x, ty, pos, af, gd⟩ F A I v := fun t w hf hs => by simp [execOp, hf.eval hx]
theorem opv_pick_t {c x y : Operand} {v : Value} (hc : ev F c = some (.bool true)) (hx : ev F x = some v) : OpV P w0 n ⟨dst, .pick c x y, ty, pos, af, gd⟩ F A I v := fun t w hf hs => by simp [execOp, hf.eval hx, hf.eval hc, asBool]
theorem opv_pick_f {c x y : Operand} {v : Value} (hc : ev F c = some (.bool false)) (hy : ev F y = some v) : OpV P w0 n ⟨dst, .pick c x y, ty, pos, af, gd⟩ F A I v := fun t w hf hs => by simp [execOp, hf.eval hy, hf.eval hc, asBool]
theorem opv_pick {c x y : Operand} {b : Bool} {v u : Value} (hc : ev F c = some (.bool b)) (hx : ev F x = some v) (hy : ev F y = some u) : OpV P w0 n ⟨dst, .pick c x y, ty, pos, af, gd⟩ F A I (bif b then v else u) :=
 fun t w hf hs => by cases b <;> simp [execOp, hf.eval hx, hf.eval hy, hf.eval hc, asBool]
/-- A bool that is told in whatever case. -/
theorem opv_pick_bool {c x y : Operand} {b p q : Bool} (hc : ev F c = some (.bool b)) (hx : ev F x = some (.bool p)) (hy : ev F y = some (.bool q)) : OpV P w0 n ⟨dst, .pick c x y, ty, pos, af, gd⟩ F A I (.bool (bif b then p else q)) :=
 fun t w hf hs => by cases b <;> simp [execOp, hf.eval hx, hf.eval hy, hf.eval hc, asBool]
section ints
variable {x y : Operand} {kd : IntKind} {a b z : Int} {xt yt : TypeId}
theorem opv_add (hx : ev F x = some (.int kd a)) (hy : ev F y = some (.int kd b)) (hz : kd.wrap (a + b) = z) : OpV P w0 n ⟨dst, .binOp .add xt x y yt, ty, pos, af, gd⟩ F A I (.int kd z) :=
 fun t w hf hs => by simp [execOp, hf.eval hx, hf.eval hy, eqGuard_add, binOp_add, Op.intArith, hz]
theorem opv_sub (hx : ev F x = some (.int kd a)) (hy : ev F y = some (.int kd b)) (hz : kd.wrap (a - b) = z) : OpV P w0 n ⟨dst, .binOp .sub xt x y yt, ty, pos, af, gd⟩ F A I (.int kd z) :=
 fun t w hf hs => by simp [execOp, hf.eval hx, hf.eval hy, eqGuard_sub, binOp_sub, Op.intArith, hz]
theorem opv_mul (hx : ev F x = some (.int kd a)) (hy : ev F y = some (.int kd b)) (hz : kd.wrap (a * b) = z) : OpV P w0 n ⟨dst, .binOp .mul xt x y yt, ty, pos, af, gd⟩ F A I (.int kd z) :=
 fun t w hf hs => by simp [execOp, hf.eval hx, hf.eval hy, eqGuard_mul, binOp_mul, Op.intArith, hz]
theorem opv_quo (hx : ev F x = some (.int kd a)) (hy : ev F y = some (.int kd b)) (hb : b ≠ 0) (hz : kd.wrap (a.tdiv b) = z) : OpV P w0 n ⟨dst, .binOp .quo xt x y yt, ty, pos, af, gd⟩ F A I (.int kd z) :=
 fun t w hf hs => by simp [execOp, hf.eval hx, hf.eval hy, eqGuard_quo, binOp_quo, Op.intDiv, hb, hz]
theorem opv_rem (hx : ev F x = some (.int kd a)) (hy : ev F y = some (.int kd b)) (hb : b ≠ 0) (hz : a.tmod b = z) : OpV P w0 n ⟨dst, .binOp .rem xt x y yt, ty, pos, af, gd⟩ F A I (.int kd z) :=
 fun t w hf hs => by simp [execOp, hf.eval hx, hf.eval hy, eqGuard_rem, binOp_rem, Op.intDiv, hb, hz]
theorem opv_eql (hx : ev F x = some (.int kd a)) (hy : ev F y = some (.int kd b)) : OpV P w0 n ⟨dst, .binOp .eql xt x y yt, ty, pos, af, gd⟩ F A I (.bool (decide (a = b))) :=
 fun t w hf hs => by simp [execOp, hf.eval hx, hf.eval hy, eqGuard_at_int, binOp_eql, beqd]
theorem opv_neq (hx : ev F x = some (.int kd a)) (hy : ev F y = some (.int kd b)) : OpV P w0 n ⟨dst, .binOp .neq xt x y yt, ty, pos, af, gd⟩ F A I (.bool (decide (a ≠ b))) :=
 fun t w hf hs => by simp [execOp, hf.eval hx, hf.eval hy, eqGuard_at_int, binOp_neq, bne, beqd]
theorem opv_lss (hx : ev F x = some (.int kd a)) (hy : ev F y = some (.int kd b)) : OpV P w0 n ⟨dst, .binOp .lss xt x y yt, ty, pos, af, gd⟩ F A I (.bool (decide (a < b))) :=
 fun t w hf hs => by simp [execOp, hf.eval hx, hf.eval hy, eqGuard_at_int, binOp_lss]
theorem opv_leq (hx : ev F x = some (.int kd a)) (hy : ev F y = some (.int kd b)) : OpV P w0 n ⟨dst, .binOp .leq xt x y yt, ty, pos, af, gd⟩ F A I (.bool (decide (a ≤ b))) :=
 fun t w hf hs => by simp [execOp, hf.eval hx, hf.eval hy, eqGuard_at_int, binOp_leq]
theorem opv_gtr (hx : ev F x = some (.int kd a)) (hy : ev F y = some (.int kd b)) : OpV P w0 n ⟨dst, .binOp .gtr xt x y yt, ty, pos, af, gd⟩ F A I (.bool (decide (b < a))) :=
 fun t w hf hs => by simp [execOp, hf.eval hx, hf.eval hy, eqGuard_at_int, binOp_gtr]
theorem opv_geq (hx : ev F x = some (.int kd a)) (hy : ev F y = some (.int kd b)) : OpV P w0 n ⟨dst, .binOp .geq xt x y yt, ty, pos, af, gd⟩ F A I (.bool (decide (b ≤ a))) :=
 fun t w hf hs => by simp [execOp, hf.eval hx, hf.eval hy, eqGuard_at_int, binOp_geq]
theorem opv_neg (hx : ev F x = some (.int kd a)) (hz : kd.wrap (0 - a) = z) : OpV P w0 n ⟨dst, .unOp .neg xt x, ty, pos, af, gd⟩ F A I (.int kd z) :=
 fun t w hf hs => by simp only [execOp, hf.eval hx, Op.unary, Op.intArith, hz, Sem.run_bind, Sem.run_pure, Result.andThen_ok]
theorem opv_shl {yk : IntKind} (hx : ev F x = some (.int kd a)) (hy : ev F y = some (.int yk b)) (hb : 0 ≤ b) (hz : kd.wrap (a * 2 ^ (min b.toNat kd.bits)) = z) : OpV P w0 n ⟨dst, .binOp .shl xt x y yt, ty, pos, af, gd⟩ F A I (.int kd z) :=
 fun t w hf hs => by
  have hb' : ¬ b < 0 := by omega
  simp [execOp, hf.eval hx, hf.eval hy, eqGuard_shl, binOp_shl, Op.shift, hb', hz]
theorem opv_shr {yk : IntKind} (hx : ev F x = some (.int kd a)) (hy : ev F y = some (.int yk b)) (hb : 0 ≤ b) (hz : a.fdiv (2 ^ (min b.toNat kd.bits)) = z) : OpV P w0 n ⟨dst, .binOp .shr xt x y yt, ty, pos, af, gd⟩ F A I (.int kd z) :=
 fun t w hf hs => by
  have hb' : ¬ b < 0 := by omega
  simp [execOp, hf.eval hx, hf.eval hy, eqGuard_shr, binOp_shr, Op.shift, hb', hz]
theorem opv_convert {k2 : IntKind} {s1 b1 s2 b2 : Nat} {z1 z2 : List Value} {d1 : TypeDesc} [TyI P xt d1 s1 b1 z1] [TyI P yt (.int k2) s2 b2 z2] (hx : ev F x = some (.int kd a)) (hz : k2.wrap a = z) : OpV P w0 n ⟨dst, .convert xt yt x, ty, pos, af, gd⟩ F A I (.int k2 z) :=
 fun t w hf hs => by simp [execOp, hf.eval hx, convert, run_und (t := xt) (P := P) w, run_und (t := yt) (P := P) w, Conv.intToInt, hz]
theorem opv_min2 {ci : Array TypeId} (hx : ev F x = some (.int kd a)) (hy : ev F y = some (.int kd b)) : OpV P w0 n ⟨dst, .call ⟨.builtin .min, #[x, y], ci⟩, ty, pos, af, gd⟩ F A I (.int kd (if b < a then b else a)) :=
 fun t w hf hs => by simp [execOp, resolve, invoke, builtin, hf.eval hx, hf.eval hy, Builtin.min_, Builtin.min2]
theorem opv_max2 {ci : Array TypeId} (hx : ev F x = some (.int kd a)) (hy : ev F y = some (.int kd b)) : OpV P w0 n ⟨dst, .call ⟨.builtin .max, #[x, y], ci⟩, ty, pos, af, gd⟩ F A I (.int kd (if a < b then b else a)) :=
 fun t w hf hs => by simp [execOp, resolve, invoke, builtin, hf.eval hx, hf.eval hy, Builtin.max_, Builtin.max2]
end ints
theorem opv_not {x : Operand} {b : Bool} {xt : TypeId} (hx : ev F x = some (.bool b)) : OpV P w0 n ⟨dst, .unOp .not xt x, ty, pos, af, gd⟩ F A I (.bool (!b)) := fun t w hf hs => by simp [execOp, hf.eval hx, Op.unary]
theorem opv_extract {x : Operand} {vs : List Value} {i : Nat} {v : Value} (hx : ev F x = some (.tuple vs.toArray)) (hi : vs[i]? = some v) : OpV P w0 n ⟨dst, .extract x i, ty, pos, af, gd⟩ F A I v := fun t w hf hs => by simp [execOp, hf.eval hx, Instr.extract, hi]
theorem opv_nilCheck {x : Operand} {a : Addr} (hx : ev F x = some (.pointer (some a))) : OpV P w0 n ⟨dst, .nilCheck x, ty, pos, af, gd⟩ F A I (.pointer (some a)) := fun t w hf hs => by simp [execOp, hf.eval hx]

/-! ### Calls -/
theorem evs {t : Array Value} (hf : Fr t n F) : ∀ {xs : List Operand} {vs : List Value}, xs.map (ev F) = vs.map some → xs.toArray.map (Act.eval ⟨t, []⟩) = vs.toArray := by
 intro xs
 induction xs with
 | nil => intro vs h; cases vs <;> simp_all
 | cons x xs ih =>
  intro vs h
  cases vs with
  | nil => simp at h
  | cons v vs =>
   simp only [List.map_cons, List.cons.injEq] at h
   have := ih h.2
   simp only [List.map_toArray, List.map_cons, hf.eval h.1] at this ⊢
   have := congrArg Array.toList this
   simp at this
   simp [this]
theorem opg_call {f : FuncId} {xs : List Operand} {vs : List Value} {ats : Array TypeId} {R : Value → List Asrt → List Chunk → Prop} [hfi : FnI P f] (hxs : xs.map (ev F) = vs.map some) (hc : FnC P f vs.toArray A I R) :
  OpG P w0 n ⟨dst, .call ⟨.value (.func f), xs.toArray, ats⟩, ty, pos, af, gd⟩ F A I R := by
 intro t w K Q hf hs hk
 obtain ⟨fn, h1, h2, h3⟩ := hfi.fn
 have hrun : (execOp (Act.eval ⟨t, []⟩) ⟨dst, .call ⟨.value (.func f), xs.toArray, ats⟩, ty, pos, af, gd⟩).run P w = .ok (.enter f vs.toArray) w := by
  simp only [execOp, resolve, Act.eval, Deferred.ofValue, evs hf hxs, Sem.run_bind, Sem.run_pure, Result.andThen_ok, invoke, callFunc, run_program, h1, h2, h3, Array.append_empty, Array.empty_append]
  rfl
 unfold Oper.wp
 rw [hrun, Oper.upon_enter]
 refine (hc w0 w hs).mono ?_
 rintro e w' ⟨v, A', I', rfl, hR, hs'⟩
 exact hk w' v A' I' hR hs'
/-- A call of a function value. -/
theorem opg_callv {f : FuncId} {x : Operand} {fi ca : List Value} {xs : List Operand} {vs : List Value} {ats : Array TypeId} {R : Value → List Asrt → List Chunk → Prop} [hfi : FnI P f] (hx : ev F x = some (.func (.func f) fi.toArray ca.toArray)) (hxs : xs.map (ev F) = vs.map some) (hc : FnC P f (fi ++ vs ++ ca).toArray A I R) :
  OpG P w0 n ⟨dst, .call ⟨.value x, xs.toArray, ats⟩, ty, pos, af, gd⟩ F A I R := by
 intro t w K Q hf hs hk
 obtain ⟨fn, h1, h2, h3⟩ := hfi.fn
 have hrun : (execOp (Act.eval ⟨t, []⟩) ⟨dst, .call ⟨.value x, xs.toArray, ats⟩, ty, pos, af, gd⟩).run P w = .ok (.enter f (fi ++ vs ++ ca).toArray) w := by
  have hl : fi.toArray ++ vs.toArray ++ ca.toArray = (fi ++ vs ++ ca).toArray := by simp
  simp only [execOp, resolve, hf.eval hx, Deferred.ofValue, evs hf hxs, Sem.run_bind, Sem.run_pure, Result.andThen_ok, invoke, callFunc, run_program, h1, h2, h3, hl]
  rfl
 unfold Oper.wp
 rw [hrun, Oper.upon_enter]
 refine (hc w0 w hs).mono ?_
 rintro e w' ⟨v, A', I', rfl, hR, hs'⟩
 exact hk w' v A' I' hR hs'

/-! ### A region that draws its order -/
/-- A panic looks at no slot. -/
class QP (Q : Exit → Act → World → Prop) : Prop where
 h : ∀ c (a a' : Act) w, a.defers = a'.defers → Q (.panic c) a w → Q (.panic c) a' w
instance qp_ends {fn : Func} {R : Value → List Asrt → List Chunk → Prop} : QP (Ends P fn w0 R) := ⟨by
 intro c a a' w h hq
 exact ⟨h ▸ hq.1, hq.2⟩⟩
instance qp_then {K : Act → World → Prop} [h : QP Q] : QP (Exit.then K Q) := ⟨h.h⟩
instance qp_cut {C : Frm → List Asrt → List Chunk → Prop} [h : QP Q] : QP (cutQ w0 n C Q) := ⟨h.h⟩
instance qp_inBlock {id : Nat} [h : QP Q] : QP (Exit.inBlock id Q) := ⟨h.h⟩
/-- What lies at the end of what is held. -/
class Suf (A B : List Asrt) : Prop where
 h : ∃ Am, A = Am ++ B
instance (priority := high) sufRefl {B : List Asrt} : Suf B B := ⟨[], rfl⟩
instance (priority := low) sufCons {a : Asrt} {A B : List Asrt} [h : Suf A B] : Suf (a :: A) B := ⟨let ⟨Am, e⟩ := h.h; ⟨a :: Am, by rw [e]; rfl⟩⟩

/-- In the middle of a region: 'ord' says what is to be taken next (no more than a remark). -/
def TriH (P : Program) (w0 : World) (n : Nat) (ops : Array Oper) (Q : Exit → Act → World → Prop) (B : List Asrt) (J : List Chunk) (ord : List Nat) (listed : Array Bool) (F : Frm) (A : List Asrt) (I : List Chunk) : Prop :=
 ∀ t w, Fr t n F → St w0 w A I → St w0 w B J → wpAnyH P .any ops Q (fun w => St w0 w B J) ord.length listed ⟨t, []⟩ w

theorem St.suffix {w : World} {Am B : List Asrt} (h : St w0 w (Am ++ B) I) : St w0 w B I := by
 induction Am with
 | nil => exact h
 | cons a Am ih => exact ih h.drop
theorem Wd.sub {w : World} {cs I J : List Chunk} (h : Wd w0 w (cs ++ I)) (hs : J ⊆ I) (hn : (J.map (·.1)).Nodup) : Wd w0 w (cs ++ J) := by
 refine ⟨h.os, h.tape, h.output, h.size, ?_, ?_⟩
 ·have hnd := h.nd
  rw [List.map_append, List.nodup_append] at hnd ⊢
  refine ⟨hnd.1, hn, fun a ha b hb => hnd.2.2 a ha b ?_⟩
  obtain ⟨c, hc, rfl⟩ := List.mem_map.1 hb
  exact List.mem_map.2 ⟨c, hs hc, rfl⟩
 ·intro c hc
  rcases List.mem_append.1 hc with hc | hc
  ·exact h.has c (by simp [hc])
  ·exact h.has c (by simp [hs hc])
theorem St.sub {w : World} {J : List Chunk} (h : St w0 w A I) (hs : J ⊆ I) (hn : (J.map (·.1)).Nodup) : St w0 w A J :=
 let ⟨cs, h1, h2⟩ := h; ⟨cs, h1, h2.sub hs hn⟩
theorem St.nodupI {w : World} (h : St w0 w A I) : (I.map (·.1)).Nodup := by
 obtain ⟨cs, _, hw⟩ := h
 have := hw.nd
 rw [List.map_append, List.nodup_append] at this
 exact this.2.1

theorem tri_draw {id : Nat} {l : List Oper} (ord : List Nat) (hl : ord.length = l.length) (Am : List Asrt) {B : List Asrt} (hA : A = Am ++ B) (hm : P.follows .mixedOrders = true)
  (h : TriH P w0 n l.toArray Q B I ord (List.replicate l.length false).toArray F A I) : Tri w0 n F A I (Code.wp P (.region id l.toArray true) Q) := by
 subst hA
 intro t w hf hs
 refine wp_region_held (S := fun w => St w0 w B I) hm ?_
 have := h t _ hf (hs.drawn (w.drawn + 1)) (hs.drawn (w.drawn + 1)).suffix
 rw [hl] at this
 simpa using this

theorem th_take {B : List Asrt} {J : List Chunk} {i : Nat} {ord : List Nat} {listed : Array Bool} {op : Op} {v : Value} (ho : ops[i]? = some ⟨some d, op, ty, pos, af, none⟩) (hn : Nat.blt d n = true)
  (hfree : (Region.noSelect ops && Region.free .any ops listed i && (Region.ready .any ops listed).contains i) = true) [hQ : QP Q]
  (hop : OpV P w0 n ⟨some d, op, ty, pos, af, none⟩ F B J v) (k : TriH P w0 n ops Q B J ord (listed.setIfInBounds i true) ((d, v) :: F) A I) : TriH P w0 n ops Q B J (i :: ord) listed F A I := by
 simp only [Bool.and_eq_true] at hfree
 intro t w hf hs hS
 refine wpAnyH_take (v := v) ho hfree.1.1 hfree.1.2 hfree.2 (fun c a w h => hQ.h c _ _ w (by cases a; rfl) h) (.inl ⟨by simp [Region.wanted], fun w' hw' => hop t w' hf hw'⟩) hS ?_
 exact k _ _ (hf.put d (Nat.le_of_ble_eq_true hn) v) hs hS
theorem th_take_g {B : List Asrt} {J : List Chunk} {i j dj : Nat} {b c : Bool} {ord : List Nat} {listed : Array Bool} {op : Op} {v : Value} (ho : ops[i]? = some ⟨some d, op, ty, pos, af, some (j, c)⟩) (hn : Nat.blt d n = true)
  (hj : (ops[j]?).bind (·.dst) = some dj) (hv : look F dj = some (.bool b)) (hbc : (b == c) = true)
  (hfree : (Region.noSelect ops && Region.free .any ops listed i && (Region.ready .any ops listed).contains i) = true) [hQ : QP Q]
  (hop : OpV P w0 n ⟨some d, op, ty, pos, af, none⟩ F B J v) (k : TriH P w0 n ops Q B J ord (listed.setIfInBounds i true) ((d, v) :: F) A I) : TriH P w0 n ops Q B J (i :: ord) listed F A I := by
 simp only [Bool.and_eq_true] at hfree
 have hbc' : b = c := by simpa using hbc
 subst hbc'
 intro t w hf hs hS
 refine wpAnyH_take (v := v) ho hfree.1.1 hfree.1.2 hfree.2 (fun c a w h => hQ.h c _ _ w (by cases a; rfl) h) (.inl ⟨by simp [Region.wanted, yielded_of (ops := ops) hf hj hv], fun w' hw' => hop t w' hf hw'⟩) hS ?_
 exact k _ _ (hf.put d (Nat.le_of_ble_eq_true hn) v) hs hS
theorem th_skip {B : List Asrt} {J : List Chunk} {i j dj : Nat} {b c : Bool} {ord : List Nat} {listed : Array Bool} {op : Op} (ho : ops[i]? = some ⟨some d, op, ty, pos, af, some (j, c)⟩) (hn : Nat.blt d n = true)
  (hj : (ops[j]?).bind (·.dst) = some dj) (hv : look F dj = some (.bool b)) (hbc : (b == c) = false)
  (hfree : (Region.noSelect ops && Region.free .any ops listed i && (Region.ready .any ops listed).contains i) = true) [hQ : QP Q]
  (k : TriH P w0 n ops Q B J ord (listed.setIfInBounds i true) ((d, undef) :: F) A I) : TriH P w0 n ops Q B J (i :: ord) listed F A I := by
 simp only [Bool.and_eq_true] at hfree
 intro t w hf hs hS
 refine wpAnyH_take (v := undef) ho hfree.1.1 hfree.1.2 hfree.2 (fun c a w h => hQ.h c _ _ w (by cases a; rfl) h) (.inr ⟨by simp [Region.wanted, yielded_of (ops := ops) hf hj hv]; simpa using hbc, rfl⟩) hS ?_
 exact k _ _ (hf.put d (Nat.le_of_ble_eq_true hn) undef) hs hS
theorem th_bool {B : List Asrt} {J : List Chunk} {ord : List Nat} {listed : Array Bool} (dj : Nat) {b : Bool} (hv : look F dj = some (.bool b)) (ht : b = true → TriH P w0 n ops Q B J ord listed ((dj, .bool true) :: F) A I) (hf : b = false → TriH P w0 n ops Q B J ord listed ((dj, .bool false) :: F) A I) : TriH P w0 n ops Q B J ord listed F A I := by
 intro t w hfr hs hS
 have key := fr_bool hfr hv
 cases b
 ·exact hf rfl t w key hs hS
 ·exact ht rfl t w key hs hS
theorem th_bool_dec {B : List Asrt} {J : List Chunk} {ord : List Nat} {listed : Array Bool} (dj : Nat) {p : Prop} [Decidable p] (hv : look F dj = some (.bool (decide p))) (ht : p → TriH P w0 n ops Q B J ord listed ((dj, .bool true) :: F) A I) (hf : ¬ p → TriH P w0 n ops Q B J ord listed ((dj, .bool false) :: F) A I) : TriH P w0 n ops Q B J ord listed F A I :=
 th_bool dj hv (fun h => ht (of_decide_eq_true h)) (fun h => hf (of_decide_eq_false h))
def DbgH (F : Frm) (A B : List Asrt) (I J : List Chunk) : Prop := ∀ P w0 n ops Q ord listed, TriH P w0 n ops Q B J ord listed F A I
theorem th_dbg {B : List Asrt} {J : List Chunk} {ord : List Nat} {listed : Array Bool} (h : DbgH F A B I J) : TriH P w0 n ops Q B J ord listed F A I := h _ _ _ _ _ _ _
theorem th_split {B : List Asrt} {J : List Chunk} {i j dj : Nat} {c : Bool} {ord : List Nat} {listed : Array Bool} {op : Op} {p : Prop} [Decidable p] (ho : ops[i]? = some ⟨dst, op, ty, pos, af, some (j, c)⟩) (hj : (ops[j]?).bind (·.dst) = some dj) (hv : look F dj = some (.bool (decide p)))
  (ht : p → TriH P w0 n ops Q B J (i :: ord) listed ((dj, .bool true) :: F) A I) (hf : ¬ p → TriH P w0 n ops Q B J (i :: ord) listed ((dj, .bool false) :: F) A I) : TriH P w0 n ops Q B J (i :: ord) listed F A I :=
 th_bool_dec dj hv ht hf
theorem th_true {B : List Asrt} {J : List Chunk} {i j dj : Nat} {c : Bool} {ord : List Nat} {listed : Array Bool} {op : Op} {p : Prop} [Decidable p] (ho : ops[i]? = some ⟨dst, op, ty, pos, af, some (j, c)⟩) (hj : (ops[j]?).bind (·.dst) = some dj) (hv : look F dj = some (.bool (decide p)))
  (hp : p) (ht : TriH P w0 n ops Q B J (i :: ord) listed ((dj, .bool true) :: F) A I) : TriH P w0 n ops Q B J (i :: ord) listed F A I :=
 th_bool_dec dj hv (fun _ => ht) (fun h => absurd hp h)
theorem th_false {B : List Asrt} {J : List Chunk} {i j dj : Nat} {c : Bool} {ord : List Nat} {listed : Array Bool} {op : Op} {p : Prop} [Decidable p] (ho : ops[i]? = some ⟨dst, op, ty, pos, af, some (j, c)⟩) (hj : (ops[j]?).bind (·.dst) = some dj) (hv : look F dj = some (.bool (decide p)))
  (hp : ¬ p) (ht : TriH P w0 n ops Q B J (i :: ord) listed ((dj, .bool false) :: F) A I) : TriH P w0 n ops Q B J (i :: ord) listed F A I :=
 th_bool_dec dj hv (fun h => absurd h hp) (fun _ => ht)
theorem tri_split {op : Op} {j dj : Nat} {c : Bool} {p : Prop} [Decidable p] (hj : (ops[j]?).bind (·.dst) = some dj) (hv : look F dj = some (.bool (decide p)))
  (ht : p → Tri w0 n ((dj, .bool true) :: F) A I (wpList P ops Q (⟨dst, op, ty, pos, af, some (j, c)⟩ :: rest))) (hf : ¬ p → Tri w0 n ((dj, .bool false) :: F) A I (wpList P ops Q (⟨dst, op, ty, pos, af, some (j, c)⟩ :: rest))) : Tri w0 n F A I (wpList P ops Q (⟨dst, op, ty, pos, af, some (j, c)⟩ :: rest)) :=
 tri_bool_dec dj hv ht hf
theorem tri_true {op : Op} {j dj : Nat} {c : Bool} {p : Prop} [Decidable p] (hj : (ops[j]?).bind (·.dst) = some dj) (hv : look F dj = some (.bool (decide p))) (hp : p)
  (ht : Tri w0 n ((dj, .bool true) :: F) A I (wpList P ops Q (⟨dst, op, ty, pos, af, some (j, c)⟩ :: rest))) : Tri w0 n F A I (wpList P ops Q (⟨dst, op, ty, pos, af, some (j, c)⟩ :: rest)) :=
 tri_bool_dec dj hv (fun _ => ht) (fun h => absurd hp h)
theorem tri_false {op : Op} {j dj : Nat} {c : Bool} {p : Prop} [Decidable p] (hj : (ops[j]?).bind (·.dst) = some dj) (hv : look F dj = some (.bool (decide p))) (hp : ¬ p)
  (ht : Tri w0 n ((dj, .bool false) :: F) A I (wpList P ops Q (⟨dst, op, ty, pos, af, some (j, c)⟩ :: rest))) : Tri w0 n F A I (wpList P ops Q (⟨dst, op, ty, pos, af, some (j, c)⟩ :: rest)) :=
 tri_bool_dec dj hv (fun h => absurd h hp) (fun _ => ht)
theorem tri_cond_is {c : Operand} {x y : Code} {p : Prop} [Decidable p] (hc : ev F c = some (.bool (decide p))) (hp : p) (ht : Tri w0 n F A I (Code.wp P x Q)) : Tri w0 n F A I (Code.wp P (.cond c x y) Q) :=
 tri_cond_dec hc (fun _ => ht) (fun h => absurd hp h)
theorem tri_cond_not {c : Operand} {x y : Code} {p : Prop} [Decidable p] (hc : ev F c = some (.bool (decide p))) (hp : ¬ p) (hf : Tri w0 n F A I (Code.wp P y Q)) : Tri w0 n F A I (Code.wp P (.cond c x y) Q) :=
 tri_cond_dec hc (fun h => absurd h hp) (fun _ => hf)
theorem th_done {B : List Asrt} {J : List Chunk} {listed : Array Bool} (hr : Region.ready .any ops listed = []) (k : Tri w0 n F A I (Q .normal)) : TriH P w0 n ops Q B J [] listed F A I :=
 fun t w hf hs hS => wpAnyH_done hr (k t w hf hs) _
/-- One step that turns the world. -/
def Step (P : Program) (w0 : World) (n : Nat) (ops : Array Oper) (Q : Exit → Act → World → Prop) (B : List Asrt) (J : List Chunk) (i : Nat) (ord : List Nat) (listed : Array Bool) (F : Frm) (A : List Asrt) (I : List Chunk) : Prop :=
 ∀ t w, Fr t n F → St w0 w A I → St w0 w B J → wpOp P ops Q i (fun a' w' => St w0 w' B J ∧ wpAnyH P .any ops Q (fun w => St w0 w B J) ord.length (listed.setIfInBounds i true) a' w') ⟨t, []⟩ w
theorem step_m {B : List Asrt} {J : List Chunk} {i : Nat} {ord : List Nat} {listed : Array Bool} {op : Op} {G : Value → List Asrt → List Chunk → Prop} (ho : ops[i]? = some ⟨dst, op, ty, pos, af, none⟩) (hn : dOk n ⟨dst, op, ty, pos, af, none⟩ = true)
  (hop : OpG P w0 n ⟨dst, op, ty, pos, af, none⟩ F A I G) (k : ∀ v A' I', G v A' I' → (∃ Am, A' = Am ++ B) ∧ J ⊆ I' ∧ TriH P w0 n ops Q B J ord (listed.setIfInBounds i true) (putF dst v F) A' I') : Step P w0 n ops Q B J i ord listed F A I := by
 intro t w hf hs hS
 unfold wpOp
 simp only [ho]
 rw [if_pos (by simp [Region.wanted])]
 refine .inl (hop t w _ Q hf hs fun w' v A' I' hG hs' => ?_)
 obtain ⟨⟨Am, rfl⟩, hJ, hk⟩ := k v A' I' hG
 have hS' : St w0 w' B J := hs'.suffix.sub hJ hS.nodupI
 refine ⟨hS', ?_⟩
 rw [act_put]
 exact hk _ _ (hf.putF (o := ⟨dst, op, ty, pos, af, none⟩) hn v) hs' hS'
theorem step_mg {B : List Asrt} {J : List Chunk} {i j dj : Nat} {b c : Bool} {ord : List Nat} {listed : Array Bool} {op : Op} {G : Value → List Asrt → List Chunk → Prop} (ho : ops[i]? = some ⟨dst, op, ty, pos, af, some (j, c)⟩) (hn : dOk n ⟨dst, op, ty, pos, af, some (j, c)⟩ = true)
  (hj : (ops[j]?).bind (·.dst) = some dj) (hv : look F dj = some (.bool b)) (hbc : (b == c) = true)
  (hop : OpG P w0 n ⟨dst, op, ty, pos, af, some (j, c)⟩ F A I G) (k : ∀ v A' I', G v A' I' → (∃ Am, A' = Am ++ B) ∧ J ⊆ I' ∧ TriH P w0 n ops Q B J ord (listed.setIfInBounds i true) (putF dst v F) A' I') : Step P w0 n ops Q B J i ord listed F A I := by
 have hbc' : b = c := by simpa using hbc
 subst hbc'
 intro t w hf hs hS
 unfold wpOp
 simp only [ho]
 rw [if_pos (by simp [Region.wanted, yielded_of (ops := ops) hf hj hv])]
 refine .inl (hop t w _ Q hf hs fun w' v A' I' hG hs' => ?_)
 obtain ⟨⟨Am, rfl⟩, hJ, hk⟩ := k v A' I' hG
 have hS' : St w0 w' B J := hs'.suffix.sub hJ hS.nodupI
 refine ⟨hS', ?_⟩
 rw [act_put]
 exact hk _ _ (hf.putF (o := ⟨dst, op, ty, pos, af, some (j, b)⟩) hn v) hs' hS'
theorem step_skip {B : List Asrt} {J : List Chunk} {i j dj : Nat} {b c : Bool} {ord : List Nat} {listed : Array Bool} {op : Op} (ho : ops[i]? = some ⟨dst, op, ty, pos, af, some (j, c)⟩) (hn : dOk n ⟨dst, op, ty, pos, af, some (j, c)⟩ = true)
  (hj : (ops[j]?).bind (·.dst) = some dj) (hv : look F dj = some (.bool b)) (hbc : (b == c) = false)
  (k : TriH P w0 n ops Q B J ord (listed.setIfInBounds i true) (putF dst undef F) A I) : Step P w0 n ops Q B J i ord listed F A I := by
 intro t w hf hs hS
 unfold wpOp
 simp only [ho]
 rw [if_neg (by simp [Region.wanted, yielded_of (ops := ops) hf hj hv]; simpa using hbc)]
 refine ⟨hS, ?_⟩
 rw [act_put]
 exact k _ _ (hf.putF (o := ⟨dst, op, ty, pos, af, some (j, c)⟩) hn undef) hs hS
/-- One alone may come up next. -/
theorem th_one {B : List Asrt} {J : List Chunk} {i : Nat} {ord : List Nat} {listed : Array Bool} (hr : Region.ready .any ops listed = [i]) (h : Step P w0 n ops Q B J i ord listed F A I) : TriH P w0 n ops Q B J (i :: ord) listed F A I := by
 intro t w hf hs hS
 refine wpAnyH_all hr (by simp) fun j hj => ?_
 have : j = i := by simpa using hj
 subst this
 exact h t w hf hs hS
/-- One of two. -/
theorem th_two {B : List Asrt} {J : List Chunk} {i j : Nat} {ord : List Nat} (ord2 : List Nat) {listed : Array Bool} (hr : Region.ready .any ops listed = [i, j]) (hl : ord2.length = ord.length) (h : Step P w0 n ops Q B J i ord listed F A I) (h2 : Step P w0 n ops Q B J j ord2 listed F A I) : TriH P w0 n ops Q B J (i :: ord) listed F A I := by
 intro t w hf hs hS
 refine wpAnyH_all hr (by simp) fun k hk => ?_
 rcases List.mem_cons.1 hk with rfl | hk
 ·exact h t w hf hs hS
 ·have : k = j := by simpa using hk
  subst this
  have := h2 t w hf hs hS
  rw [hl] at this
  exact this
end
end Go.GL

set_option linter.unusedVariables false
set_option linter.unusedSimpArgs false
namespace Go.GL

/-! ### 1. Lists that are told whole -/
/-- n cells from off on. -/
def tk : List Value → Nat → Nat → Option (List Value)
 | _, 0, 0 => some []
 | c :: cs, 0, n + 1 => match tk cs 0 n with | some r => some (c :: r) | none => none
 | [], 0, _ + 1 => none
 | _ :: cs, k + 1, n => tk cs k n
 | [], _ + 1, _ => none
theorem tk_spec : ∀ {cs : List Value} {off n : Nat} {vs : List Value}, tk cs off n = some vs → vs.length = n ∧ ∀ j, j < n → cs[off + j]? = vs[j]?
 | cs, 0, 0, vs, h => by
  have : vs = [] := by cases cs <;> (simp [tk] at h; exact h)
  subst this; simp
 | c :: cs, 0, n + 1, vs, h => by
  simp only [tk] at h
  split at h
  ·rename_i r hr
   simp only [Option.some.injEq] at h
   subst h
   obtain ⟨h1, h2⟩ := tk_spec hr
   refine ⟨by simp [h1], fun j hj => ?_⟩
   cases j with
   | zero => simp
   | succ j => have := h2 j (by omega); simpa using this
  ·simp at h
 | [], 0, n + 1, vs, h => by simp [tk] at h
 | c :: cs, k + 1, n, vs, h => by
  have h' : tk cs k n = some vs := by cases n <;> simpa [tk] using h
  obtain ⟨h1, h2⟩ := tk_spec h'
  refine ⟨h1, fun j hj => ?_⟩
  have := h2 j hj
  rw [show k + 1 + j = (k + j) + 1 by omega]
  simpa using this
 | [], k + 1, n, vs, h => by cases n <;> simp [tk] at h
/-- The cells with others in their place from off on. -/
def ov : List Value → List Value → Option (List Value)
 | cs, [] => some cs
 | _ :: cs, v :: vs => match ov cs vs with | some r => some (v :: r) | none => none
 | [], _ :: _ => none
def spl : List Value → Nat → List Value → Option (List Value)
 | cs, 0, vs => ov cs vs
 | c :: cs, k + 1, vs => match spl cs k vs with | some r => some (c :: r) | none => none
 | [], _ + 1, _ => none
theorem ov_spec : ∀ {cs vs r : List Value}, ov cs vs = some r → vs.length ≤ cs.length ∧ r = vs ++ cs.drop vs.length
 | cs, [], r, h => by cases cs <;> simp_all [ov]
 | c :: cs, v :: vs, r, h => by
  simp only [ov] at h
  split at h
  ·rename_i r' hr
   obtain ⟨h1, h2⟩ := ov_spec hr
   simp only [Option.some.injEq] at h
   subst h
   exact ⟨by simp; omega, by simp [h2]⟩
  ·simp at h
 | [], v :: vs, r, h => by simp [ov] at h
theorem spl_spec : ∀ {cs vs r : List Value} {off : Nat}, spl cs off vs = some r → off + vs.length ≤ cs.length ∧ r = cs.take off ++ vs ++ cs.drop (off + vs.length)
 | cs, vs, r, 0, h => by
  have h' : ov cs vs = some r := by cases cs <;> simpa [spl] using h
  obtain ⟨h1, h2⟩ := ov_spec h'
  exact ⟨by omega, by simp [h2]⟩
 | c :: cs, vs, r, k + 1, h => by
  simp only [spl] at h
  split at h
  ·rename_i r' hr
   obtain ⟨h1, h2⟩ := spl_spec hr
   simp only [Option.some.injEq] at h
   subst h
   exact ⟨by simp; omega, by simp [h2, show k + 1 + vs.length = (k + vs.length) + 1 by omega]⟩
  ·simp at h
 | [], vs, r, k + 1, h => by simp [spl] at h

/-! ### 2. Runs over a block of cells -/
abbrev pt (b off : Nat) : Value := .pointer (some ⟨b, off, none⟩)
theorem add_pt (b off k : Nat) : (⟨b, off, none⟩ : Addr).add k = ⟨b, off + k, none⟩ := by unfold Addr.add; split <;> simp_all
section
variable {P : Program} {w : World} {b : Nat} {cs : Array Value} {T : TypeId} {fz : Nat × Nat}
theorem cell_at (h : w.heap[b]? = some (.cells cs T fz)) (j : Nat) : w.cell? ⟨b, j, none⟩ = cs[j]? := by simp [World.cell?, h]
theorem run_load_at (h : w.heap[b]? = some (.cells cs T fz)) {j : Nat} {v : Value} (hv : cs[j]? = some v) : (load ⟨b, j, none⟩).run P w = .ok v w := by
 rw [run_load, cell_at h, hv]
theorem run_loadCells_at (h : w.heap[b]? = some (.cells cs T fz)) {off : Nat} {vs : List Value} (hv : ∀ j, j < vs.length → cs[off + j]? = vs[j]?) : (loadCells ⟨b, off, none⟩ vs.length).run P w = .ok vs.toArray w := by
 refine run_loadCells_list w _ vs fun j v hj => ?_
 have hlt := (List.getElem?_eq_some_iff.1 hj).1
 rw [add_pt, cell_at h, hv j hlt, hj]
section
variable {t : TypeId} {d : TypeDesc} {s by_ : Nat} {z : List Value}
theorem run_loadVar1 [TyI P t d s by_ z] (hd : isA d = false) (h : w.heap[b]? = some (.cells cs T fz)) {j : Nat} {v : Value} (hv : cs[j]? = some v) : (loadVar t ⟨b, j, none⟩).run P w = .ok v w := by
 unfold loadVar
 rw [Sem.run_bind, run_isA w, hd, Result.andThen_ok]
 exact run_load_at h hv
theorem run_loadVarA [TyI P t d s by_ z] (hd : isA d = true) (h : w.heap[b]? = some (.cells cs T fz)) {off : Nat} {vs : List Value} (hl : vs.length = s) (hv : ∀ j, j < s → cs[off + j]? = vs[j]?) : (loadVar t ⟨b, off, none⟩).run P w = .ok (.agg vs.toArray) w := by
 unfold loadVar
 subst hl
 rw [Sem.run_bind, run_isA w, hd, Result.andThen_ok]
 simp [run_size (P := P) (t := t), run_loadCells_at h hv]
end
/-- Stores, one by one. -/
theorem run_storeCells_at' (off : Nat) : ∀ (vs : List Value) (i : Nat) (cs : Array Value) (w : World), w.heap[b]? = some (.cells cs T (0, 0)) → off + i + vs.length ≤ cs.size → (∀ v ∈ vs, v.oneCell' = true) →
  ∃ w', (storeCells ⟨b, off, none⟩ vs i).run P w = .ok () w' ∧ w'.os = w.os ∧ w'.tape = w.tape ∧ w'.output = w.output ∧ w'.drawn = w.drawn ∧ w'.heap.size = w.heap.size ∧ w'.heap[b]? = some (.cells (cs.toList.take (off + i) ++ vs ++ cs.toList.drop (off + i + vs.length)).toArray T (0, 0)) ∧ ∀ k, k ≠ b → w'.heap[k]? = w.heap[k]?
 | [], i, cs, w, h, _, _ => ⟨w, by simp [storeCells], rfl, rfl, rfl, rfl, rfl, by simpa using h, fun _ _ => rfl⟩
 | v :: vs, i, cs, w, h, hle, h1 => by
  simp only [List.length_cons] at hle
  have hlt : off + i < cs.size := by omega
  have hb : b < w.heap.size := (Array.getElem?_eq_some_iff.1 h).1
  have hcell : w.cell? ⟨b, off + i, none⟩ = some cs[off + i] := by rw [cell_at h]; simp [hlt]
  have hfz : w.frozen? ⟨b, off + i, none⟩ = false := by simp [World.frozen?, h]
  have hheap : (w.setCell ⟨b, off + i, none⟩ v).heap[b]? = some (.cells (cs.setIfInBounds (off + i) v) T (0, 0)) := by
   simp [World.setCell, Array.getElem?_modify, h]
  obtain ⟨w', hr, ho, ht, hout, hdr, hsz, hb', hne⟩ := run_storeCells_at' off vs (i + 1) (cs.setIfInBounds (off + i) v) (w.setCell ⟨b, off + i, none⟩ v) hheap (by simp; omega) (fun u hu => h1 u (by simp [hu]))
  refine ⟨w', ?_, ho, ht, hout, hdr, by rw [hsz]; simp, ?_, fun k hk => ?_⟩
  ·simp only [storeCells, Sem.run_bind, add_pt]
   rw [run_store _ _ _ _ _ (h1 v (by simp)), hcell]
   simp only [hfz, Bool.false_eq_true, if_false, Result.andThen_ok]
   exact hr
  ·rw [hb']
   congr 2
   apply congrArg List.toArray
   have hset : (cs.setIfInBounds (off + i) v).toList = cs.toList.take (off + i) ++ v :: cs.toList.drop (off + i + 1) := by
    rw [Array.toList_setIfInBounds, List.set_eq_take_append_cons_drop, if_pos (by simpa using hlt)]
   rw [hset, show off + (i + 1) = (off + i) + 1 by omega]
   have hl : (cs.toList.take (off + i)).length = off + i := by simp; omega
   rw [List.take_append, hl]
   simp only [show off + i + 1 - (off + i) = 1 by omega, List.take_succ_cons, List.take_zero, List.length_cons]
   rw [List.take_of_length_le (by omega)]
   simp only [List.append_assoc, List.cons_append, List.nil_append]
   congr 2
   rw [List.drop_append, hl, List.drop_of_length_le (by omega), List.nil_append, show off + i + 1 + vs.length - (off + i) = vs.length + 1 by omega, List.drop_succ_cons, List.drop_drop]
   congr 2
   omega
  ·rw [hne k hk, Below_heap_setCell' w _ v k hk]
 where
 Below_heap_setCell' (w : World) (a : Addr) (u : Value) (k : Nat) (h : k ≠ a.block) : (w.setCell a u).heap[k]? = w.heap[k]? := by
  simp only [World.setCell, Array.getElem?_modify]
  rw [if_neg (by omega)]
end

/-! ### 3. The laws on boxes -/
class Sel (A : List Asrt) (b : Nat) (cells : outParam (List Value)) (T : outParam TypeId) (upd : outParam (List Value → List Asrt)) : Prop where
 h : ∃ pre post, A = pre ++ Box b cells T :: post ∧ ∀ c', upd c' = pre ++ Box b c' T :: post
instance (priority := high) selHere {b : Nat} {c : List Value} {T : TypeId} {A : List Asrt} : Sel (Box b c T :: A) b c T (fun c' => Box b c' T :: A) := ⟨[], A, rfl, fun _ => rfl⟩
instance (priority := low) selThere {a : Asrt} {A : List Asrt} {b : Nat} {c : List Value} {T : TypeId} {u : List Value → List Asrt} [h : Sel A b c T u] : Sel (a :: A) b c T (fun c' => a :: u c') := by
 obtain ⟨pre, post, h1, h2⟩ := h.h
 exact ⟨a :: pre, post, by rw [h1]; rfl, fun c' => by rw [h2]; rfl⟩

section
variable {w0 : World} {n : Nat} {F : Frm} {A : List Asrt} {I : List Chunk} {P : Program}
variable {b : Nat} {cells : List Value} {T : TypeId} {u : List Value → List Asrt}
theorem Sel.at [h : Sel A b cells T u] {w : World} (hs : St w0 w A I) : w.heap[b]? = some (.cells cells.toArray T (0, 0)) := by
 obtain ⟨pre, post, h1, _⟩ := h.h
 have hp : A.Perm (Box b cells T :: (pre ++ post)) := by rw [h1]; exact List.perm_middle
 exact (hs.perm hp).at
theorem Sel.set [h : Sel A b cells T u] {w : World} (hs : St w0 w A I) (c' : List Value) (heap' : Array Obj) (hsz : heap'.size = w.heap.size) (hb : heap'[b]? = some (.cells c'.toArray T (0, 0))) (hne : ∀ k, k ≠ b → heap'[k]? = w.heap[k]?) :
  St w0 { w with heap := heap' } (u c') I := by
 obtain ⟨pre, post, h1, h2⟩ := h.h
 have hp : A.Perm (Box b cells T :: (pre ++ post)) := by rw [h1]; exact List.perm_middle
 have := (hs.perm hp).set (.cells c'.toArray T (0, 0)) heap' hsz hb hne
 rw [h2]
 exact this.perm (List.perm_middle (a := Box b c' T)).symm

variable {dst : Option Tmp} {ty : TypeId} {pos : String} {af : Array Edge} {gd : Option (Nat × Bool)}
variable {t e : TypeId} {d d' : TypeDesc} {s by_ s' by' : Nat} {z z' : List Value} {x y ix : Operand}

theorem opg_alloc [TyI P t d s by_ z] : OpG P w0 n ⟨dst, .alloc t, ty, pos, af, gd⟩ F A I (fun v A' I' => ∃ b, v = pt b 0 ∧ A' = Box b z t :: A ∧ I = I') := by
 refine opg_run fun tt w hf hs => ?_
 obtain ⟨v, hz, hzc⟩ := run_zero (P := P) (t := t) w
 refine ⟨pt w.heap.size 0, w.alloc (.cells v.cells t), Box w.heap.size z t :: A, I, ?_, ⟨_, rfl, rfl, rfl⟩, ?_⟩
 ·simp [execOp, Instr.alloc, hz, newVar, newRow, pt]
 ·have := hs.alloc (.cells v.cells t)
  subst hzc
  exact this
theorem opg_box_agg {vs : List Value} (hx : ev F x = some (.agg vs.toArray)) : OpG P w0 n ⟨dst, .box t x, ty, pos, af, gd⟩ F A I (fun v A' I' => ∃ b, v = pt b 0 ∧ A' = Box b vs t :: A ∧ I = I') := by
 refine opg_run fun tt w hf hs => ⟨pt w.heap.size 0, w.alloc (.cells vs.toArray t), Box w.heap.size vs t :: A, I, ?_, ⟨_, rfl, rfl, rfl⟩, hs.alloc _⟩
 simp [execOp, Instr.box, hf.eval hx, newVar, newRow, pt, Value.cells]
theorem opg_box1 {v : Value} (hx : ev F x = some v) (h1 : v.cells = #[v]) : OpG P w0 n ⟨dst, .box t x, ty, pos, af, gd⟩ F A I (fun v' A' I' => ∃ b, v' = pt b 0 ∧ A' = Box b [v] t :: A ∧ I = I') := by
 refine opg_run fun tt w hf hs => ⟨pt w.heap.size 0, w.alloc (.cells #[v] t), Box w.heap.size [v] t :: A, I, ?_, ⟨_, rfl, rfl, rfl⟩, hs.alloc _⟩
 simp [execOp, Instr.box, hf.eval hx, newVar, newRow, pt, h1]
theorem opv_load1 {off : Nat} {v : Value} [TyI P t d s by_ z] [Sel A b cells T u] (hx : ev F x = some (pt b off)) (hd : isA d = false) (hc : cells[off]? = some v) : OpV P w0 n ⟨dst, .load t x, ty, pos, af, gd⟩ F A I v := by
 intro tt w hf hs
 have h := Sel.at (b := b) hs
 simp [execOp, hf.eval hx, Instr.loadAt, Instr.sureAddr, run_loadVar1 (P := P) (t := t) hd h (by simpa using hc)]
theorem opv_loadA {off : Nat} {vs : List Value} [TyI P t d s by_ z] [Sel A b cells T u] (hx : ev F x = some (pt b off)) (hd : isA d = true) (hc : tk cells off s = some vs) : OpV P w0 n ⟨dst, .load t x, ty, pos, af, gd⟩ F A I (.agg vs.toArray) := by
 intro tt w hf hs
 have h := Sel.at (b := b) hs
 obtain ⟨h1, h2⟩ := tk_spec hc
 simp [execOp, hf.eval hx, Instr.loadAt, Instr.sureAddr, run_loadVarA (P := P) (t := t) hd h h1 (by simpa using h2)]
theorem opg_store {off : Nat} {v : Value} {vs c' : List Value} [TyI P t d s by_ z] [Sel A b cells T u] (hx : ev F x = some (pt b off)) (hy : ev F y = some v) (hv : v.cells = vs.toArray) (hl : vs.length = s) (h1 : vs.all (·.oneCell') = true) (hc : spl cells off vs = some c') :
  OpG P w0 n ⟨dst, .store t x y, ty, pos, af, gd⟩ F A I (fun _ A' I' => A' = u c' ∧ I = I') := by
 refine opg_unit fun tt w hf hs => ?_
 have h := Sel.at (b := b) hs
 obtain ⟨hle, hc'⟩ := spl_spec hc
 obtain ⟨w', hr, ho, ht, hout, hdr, hsz, hb', hne⟩ := run_storeCells_at' (P := P) off vs 0 cells.toArray w h (by simpa using hle) (by simpa using h1)
 have hw : w' = { w with heap := w'.heap } := by cases w'; cases w; simp_all
 refine ⟨w', u c', I, ?_, ⟨rfl, rfl⟩, ?_⟩
 ·simp only [execOp, hf.eval hx, hf.eval hy, Instr.storeAt, Instr.sureAddr, Sem.run_bind, Sem.run_pure, Result.andThen_ok, storeVar, hv, run_size (P := P) (t := t), List.size_toArray, hl, ne_eq, not_true_eq_false, if_false, hr]
 ·rw [hw]
  refine Sel.set hs c' _ hsz ?_ hne
  rw [hb', hc']
  simp
theorem opv_fieldAddr {off i fo ft : Nat} [hF : FldI P t i fo ft] [TyI P ft d' s' by' z'] (hx : ev F x = some (pt b off)) (h0 : Nat.beq s' 0 = false) : OpV P w0 n ⟨dst, .fieldAddr t x i, ty, pos, af, gd⟩ F A I (pt b (off + fo)) := by
 intro tt w hf hs
 have h0' : s' ≠ 0 := Nat.ne_of_beq_eq_false h0
 obtain ⟨fs, f, hu, hi, rfl, rfl⟩ := hF.h
 simp [execOp, hf.eval hx, Instr.fieldAt, run_underlying hu, hi, Instr.sureAddr, fieldPlace, run_size (P := P) (t := f.type), h0', add_pt]
theorem opv_indexAddrA {off len : Nat} {k : IntKind} {i : Int} [TyI P t (.array len e) s by_ z] [TyI P e d' s' by' z'] (hx : ev F x = some (pt b off)) (hi : ev F ix = some (.int k i)) (h0 : 0 ≤ i) (h1 : i < len) : OpV P w0 n ⟨dst, .indexAddr t x ix, ty, pos, af, gd⟩ F A I (pt b (off + i.toNat * s')) := by
 intro tt w hf hs
 simp [execOp, hf.eval hx, hf.eval hi, Instr.indexAt, asIntOf, run_und (P := P) (t := t), Instr.sureAddr, h0, h1, run_size (P := P) (t := e), add_pt]
theorem opv_field {vs : List Value} {i fo ft : Nat} {v : Value} [hF : FldI P t i fo ft] [TyI P ft d' s' by' z'] (hx : ev F x = some (.agg vs.toArray)) (hd : isA d' = false) (hv : vs[fo]? = some v) : OpV P w0 n ⟨dst, .field t x i, ty, pos, af, gd⟩ F A I v := by
 intro tt w hf hs
 obtain ⟨fs, f, hu, hi, rfl, rfl⟩ := hF.h
 simp [execOp, hf.eval hx, Instr.field, run_underlying hu, hi, asAgg, part, run_isA (P := P) (t := f.type), hd, hv]
theorem opv_fieldA {vs us : List Value} {i fo ft : Nat} [hF : FldI P t i fo ft] [TyI P ft d' s' by' z'] (hx : ev F x = some (.agg vs.toArray)) (hd : isA d' = true) (hv : tk vs fo s' = some us) : OpV P w0 n ⟨dst, .field t x i, ty, pos, af, gd⟩ F A I (.agg us.toArray) := by
 intro tt w hf hs
 obtain ⟨fs, f, hu, hi, rfl, rfl⟩ := hF.h
 obtain ⟨h1, h2⟩ := tk_spec hv
 have he : (vs.drop f.offset).take s' = us := by
  apply List.ext_getElem?
  intro j
  by_cases hj : j < s'
  ·rw [List.getElem?_take_of_lt hj, List.getElem?_drop, h2 j hj]
  ·rw [List.getElem?_eq_none (by simp; omega), List.getElem?_eq_none (by omega)]
 simp [execOp, hf.eval hx, Instr.field, run_underlying hu, hi, asAgg, part, run_isA (P := P) (t := f.type), hd, run_size (P := P) (t := f.type), he]

/-! ### 4. The end of a function -/
def rvSem (t : Array Value) (r : ResultVar) : Sem Value := match r with | .tmp k => pure (t.getD k undef) | .cell a ty => do loadVar ty (← asAddr (t.getD a undef))
theorem results_rv (fn : Func) (t : Array Value) : results fn t = (do let vs ← fn.results.mapM (rvSem t); pure (if h : vs.size = 1 then vs[0] else .tuple vs)) := rfl
/-- A result's value. -/
def RV (P : Program) (w0 : World) (n : Nat) (F : Frm) (A : List Asrt) (I : List Chunk) (r : ResultVar) (v : Value) : Prop :=
 ∀ t w, Fr t n F → St w0 w A I → (rvSem t r).run P w = .ok v w
theorem rv_tmp {k : Nat} {v : Value} (h : look F k = some v) : RV P w0 n F A I (.tmp k) v := by
 intro t w hf hs
 have := hf.eval (ds := []) (x := .tmp k) (v := v) h
 simp only [Act.eval] at this
 simp only [rvSem, this, Sem.run_pure]
theorem rv_cell1 {k off : Nat} {v : Value} [TyI P t d s by_ z] [Sel A b cells T u] (h : look F k = some (pt b off)) (hd : isA d = false) (hc : cells[off]? = some v) : RV P w0 n F A I (.cell k t) v := by
 intro tt w hf hs
 have := hf.eval (ds := []) (x := .tmp k) (v := pt b off) h
 simp only [Act.eval] at this
 have h := Sel.at (b := b) hs
 simp only [rvSem, this, asAddr, Sem.run_bind, Sem.run_pure, Result.andThen_ok]
 exact run_loadVar1 (P := P) (t := t) hd h (by simpa using hc)
theorem rv_cellA {k off : Nat} {vs : List Value} [TyI P t d s by_ z] [Sel A b cells T u] (h : look F k = some (pt b off)) (hd : isA d = true) (hc : tk cells off s = some vs) : RV P w0 n F A I (.cell k t) (.agg vs.toArray) := by
 intro tt w hf hs
 have := hf.eval (ds := []) (x := .tmp k) (v := pt b off) h
 simp only [Act.eval] at this
 have h := Sel.at (b := b) hs
 obtain ⟨h1, h2⟩ := tk_spec hc
 simp only [rvSem, this, asAddr, Sem.run_bind, Sem.run_pure, Result.andThen_ok]
 exact run_loadVarA (P := P) (t := t) hd h h1 (by simpa using h2)
inductive RVs (P : Program) (w0 : World) (n : Nat) (F : Frm) (A : List Asrt) (I : List Chunk) : List ResultVar → List Value → Prop
 | nil : RVs P w0 n F A I [] []
 | cons {r : ResultVar} {v : Value} {rs : List ResultVar} {vs : List Value} : RV P w0 n F A I r v → RVs P w0 n F A I rs vs → RVs P w0 n F A I (r :: rs) (v :: vs)
def retV : List Value → Value
 | [v] => v
 | vs => .tuple vs.toArray
theorem run_results {fn : Func} {rs : List ResultVar} {vs : List Value} (hres : fn.results = rs.toArray) (h : RVs P w0 n F A I rs vs) {t : Array Value} {w : World} (hf : Fr t n F) (hs : St w0 w A I) : (results fn t).run P w = .ok (retV vs) w := by
 have key : ∀ {rs : List ResultVar} {vs : List Value}, RVs P w0 n F A I rs vs → ((rs.mapM (rvSem t)).run P w = .ok vs w) := by
  intro rs vs h
  induction h with
  | nil => simp
  | cons h1 _ ih =>
   have := h1 t w hf hs
   rw [List.mapM_cons, Sem.run_bind, this, Result.andThen_ok, Sem.run_bind, ih, Result.andThen_ok, Sem.run_pure]
 have := key h
 rw [results_rv, hres, List.mapM_toArray, Sem.run_bind, Sem.run_map, this]
 simp only [Result.andThen_ok]
 cases h with
 | nil => simp [retV]
 | cons h1 h2 =>
  cases h2 with
  | nil => simp [retV]
  | cons h3 h4 => simp [retV]
theorem tri_end {fn : Func} {rs : List ResultVar} {vs : List Value} {R : Value → List Asrt → List Chunk → Prop} (B : List Asrt) (hA : ∃ Am, A = Am ++ B) (hres : fn.results = rs.toArray) (h : RVs P w0 n F A I rs vs) (hR : R (retV vs) B I) : Tri w0 n F A I (Ends P fn w0 R .ret) := by
 obtain ⟨Am, rfl⟩ := hA
 exact fun t w hf hs => ⟨rfl, retV vs, run_results hres h hf hs, _, B, I, rfl, hR, hs.suffix⟩
theorem tri_end_n {fn : Func} {rs : List ResultVar} {vs : List Value} {R : Value → List Asrt → List Chunk → Prop} (B : List Asrt) (hA : ∃ Am, A = Am ++ B) (hres : fn.results = rs.toArray) (h : RVs P w0 n F A I rs vs) (hR : R (retV vs) B I) : Tri w0 n F A I (Ends P fn w0 R .normal) := by
 obtain ⟨Am, rfl⟩ := hA
 exact fun t w hf hs => ⟨rfl, retV vs, run_results hres h hf hs, _, B, I, rfl, hR, hs.suffix⟩
end
end Go.GL

set_option linter.unusedVariables false
set_option linter.unusedSimpArgs false
namespace Go.GL

theorem w64 {x : Int} (h1 : -9223372036854775808 ≤ x) (h2 : x ≤ 9223372036854775807) : IntKind.i64.wrap x = x := by
 simp only [IntKind.wrap, IntKind.signed, IntKind.bits]
 simp
 omega

/-! ### 1. Elements as cells -/
class Enc (α : Type) where
 enc : α → List Value
 sz : Nat
 hlen : ∀ x, (enc x).length = sz
 one : ∀ x, (enc x).all (·.oneCell') = true
open Enc (enc)
def encs {α : Type} [Enc α] (xs : List α) : List Value := xs.flatMap enc
theorem encs_nil {α : Type} [Enc α] : encs ([] : List α) = [] := rfl
theorem encs_cons {α : Type} [Enc α] (x : α) (xs : List α) : encs (x :: xs) = enc x ++ encs xs := rfl
theorem encs_append {α : Type} [Enc α] (xs ys : List α) : encs (xs ++ ys) = encs xs ++ encs ys := by simp [encs]
theorem encs_length {α : Type} [Enc α] (xs : List α) : (encs xs).length = xs.length * Enc.sz α := by
 induction xs with
 | nil => simp [encs]
 | cons x xs ih => rw [encs_cons, List.length_append, Enc.hlen, ih, List.length_cons]; rw [Nat.succ_mul]; omega
theorem encs_get {α : Type} [Enc α] [Inhabited α] : ∀ (xs : List α) (i fo : Nat), i < xs.length → fo < Enc.sz α → (encs xs)[i * Enc.sz α + fo]? = (enc (xs.getD i default))[fo]?
 | [], i, fo, h, _ => by simp at h
 | x :: xs, 0, fo, h, hf => by
  rw [encs_cons, Nat.zero_mul, Nat.zero_add, List.getElem?_append_left (by rw [Enc.hlen]; exact hf)]
  simp
 | x :: xs, i + 1, fo, h, hf => by
  have ih := encs_get xs i fo (by simpa using h) hf
  rw [encs_cons, List.getElem?_append_right (by rw [Enc.hlen, Nat.succ_mul]; omega), Enc.hlen, Nat.succ_mul]
  rw [show i * Enc.sz α + Enc.sz α + fo - Enc.sz α = i * Enc.sz α + fo by omega, ih]
  simp
theorem encs_one {α : Type} [Enc α] (xs : List α) : (encs xs).all (·.oneCell') = true := by
 induction xs with
 | nil => rfl
 | cons x xs ih => rw [encs_cons, List.all_append, Enc.one, ih]; rfl
instance : Enc Int := ⟨fun x => [.int .i64 x], 1, fun _ => rfl, fun _ => rfl⟩
instance : Enc Bool := ⟨fun x => [.bool x], 1, fun _ => rfl, fun _ => rfl⟩

/-! ### 2. What is only read -/
def RdC (I : List Chunk) (b off : Nat) (cells : List Value) : Prop := ∃ cs T fz, (b, Obj.cells cs T fz) ∈ I ∧ ∀ j v, cells[j]? = some v → cs[off + j]? = some v
theorem RdC.mono {I J : List Chunk} {b off : Nat} {cells : List Value} (h : RdC I b off cells) (hs : I ⊆ J) : RdC J b off cells := let ⟨cs, T, fz, h1, h2⟩ := h; ⟨cs, T, fz, hs h1, h2⟩
def SlAt {α : Type} [Enc α] (I : List Chunk) (a : Option Addr) (xs : List α) : Prop := xs = [] ∨ ∃ b off, a = some ⟨b, off, none⟩ ∧ RdC I b off (encs xs)
theorem SlAt.mono {α : Type} [Enc α] {I J : List Chunk} {a : Option Addr} {xs : List α} (h : SlAt I a xs) (hs : I ⊆ J) : SlAt J a xs := h.imp id fun ⟨b, off, h1, h2⟩ => ⟨b, off, h1, h2.mono hs⟩
theorem SlAt.nil {α : Type} [Enc α] {I : List Chunk} {a : Option Addr} : SlAt I a ([] : List α) := .inl rfl
/-- The place fo within the element i. -/
def epf (a : Option Addr) (sz i fo : Nat) : Value := .pointer (a.map fun ad => ⟨ad.block, ad.off + (i * sz + fo), none⟩)

section
variable {w0 : World} {n : Nat} {F : Frm} {A : List Asrt} {I : List Chunk} {P : Program}
variable {dst : Option Tmp} {ty : TypeId} {pos : String} {af : Array Edge} {gd : Option (Nat × Bool)}
variable {t e : TypeId} {d d' : TypeDesc} {s by_ s' by' : Nat} {z z' : List Value} {x y ix : Operand} {a a2 : Option Addr} {len cap m cap2 : Nat}

theorem opv_len [TyI P t (.slice e) s by_ z] (hx : ev F x = some (.slice a len cap)) : OpV P w0 n ⟨dst, .call ⟨.builtin .len, #[x], #[t]⟩, ty, pos, af, gd⟩ F A I (.int .i64 len) := by
 intro tt w hf hs
 simp [execOp, resolve, invoke, builtin, hf.eval hx, Builtin.len_, run_und (P := P) (t := t), goInt]
theorem opv_indexAddrS {α : Type} [Enc α] {xs : List α} {k : IntKind} {i : Int} [TyI P t (.slice e) s by_ z] [TyI P e d' s' by' z'] (hx : ev F x = some (.slice a len cap)) (hi : ev F ix = some (.int k i)) (h0 : 0 ≤ i) (h1 : i < len) (hs : SlAt I a xs) (hl : len = xs.length) :
  OpV P w0 n ⟨dst, .indexAddr t x ix, ty, pos, af, gd⟩ F A I (epf a s' i.toNat 0) := by
 intro tt w hf hst
 rcases hs with rfl | ⟨b, off, rfl, _⟩
 ·simp at hl; omega
 ·simp [execOp, hf.eval hx, hf.eval hi, Instr.indexAt, asIntOf, run_und (P := P) (t := t), h0, h1, run_size (P := P) (t := e), add_pt, epf]
theorem opv_fieldAddrP {i f ft : Nat} {sz j fo : Nat} [hF : FldI P t i f ft] [TyI P ft d' s' by' z'] (hx : ev F x = some (epf a sz j fo)) (ha : a.isSome = true) (h0 : Nat.beq s' 0 = false) : OpV P w0 n ⟨dst, .fieldAddr t x i, ty, pos, af, gd⟩ F A I (epf a sz j (fo + f)) := by
 intro tt w hf hs
 have h0' : s' ≠ 0 := Nat.ne_of_beq_eq_false h0
 obtain ⟨fs, f, hu, hi, rfl, rfl⟩ := hF.h
 cases a with
 | none => simp at ha
 | some ad =>
  have hx' : ev F x = some (.pointer (some ⟨ad.block, ad.off + (j * sz + fo), none⟩)) := hx
  simp [execOp, hf.eval hx', Instr.fieldAt, run_underlying hu, hi, Instr.sureAddr, fieldPlace, run_size (P := P) (t := f.type), h0', add_pt, epf, Nat.add_assoc]
theorem opv_indexAddrP {l2 : Nat} {k : IntKind} {i : Int} {sz j fo : Nat} [TyI P t (.array l2 e) s by_ z] [TyI P e d' s' by' z'] (hx : ev F x = some (epf a sz j fo)) (ha : a.isSome = true) (hi : ev F ix = some (.int k i)) (h0 : 0 ≤ i) (h1 : i < l2) : OpV P w0 n ⟨dst, .indexAddr t x ix, ty, pos, af, gd⟩ F A I (epf a sz j (fo + i.toNat * s')) := by
 intro tt w hf hs
 cases a with
 | none => simp at ha
 | some ad =>
  have hx' : ev F x = some (.pointer (some ⟨ad.block, ad.off + (j * sz + fo), none⟩)) := hx
  simp [execOp, hf.eval hx', hf.eval hi, Instr.indexAt, asIntOf, run_und (P := P) (t := t), Instr.sureAddr, h0, h1, run_size (P := P) (t := e), add_pt, epf, Nat.add_assoc]
theorem opv_loadE1 {α : Type} [Enc α] [Inhabited α] {xs : List α} {i fo sz : Nat} {v : Value} [TyI P t d s by_ z] (hx : ev F x = some (epf a sz i fo)) (hs : SlAt I a xs) (hsz : Enc.sz α = sz) (hi : i < xs.length) (hd : isA d = false) (hv : (enc (xs.getD i default))[fo]? = some v) : OpV P w0 n ⟨dst, .load t x, ty, pos, af, gd⟩ F A I v := by
 subst hsz
 intro tt w hf hst
 rcases hs with rfl | ⟨b, off, rfl, cs, T, fz, hm, hc⟩
 ·simp at hi
 ·have hfo : fo < Enc.sz α := by have := (List.getElem?_eq_some_iff.1 hv).1; rwa [Enc.hlen] at this
  have hx' : ev F x = some (.pointer (some ⟨b, off + (i * Enc.sz α + fo), none⟩)) := hx
  have h := hst.inI hm
  have hcell := hc (i * Enc.sz α + fo) v (by rw [encs_get xs i fo hi hfo, hv])
  simp [execOp, hf.eval hx', Instr.loadAt, Instr.sureAddr, run_loadVar1 (P := P) (t := t) hd h hcell]
theorem opv_loadEA {α : Type} [Enc α] [Inhabited α] {xs : List α} {i fo sz : Nat} {vs : List Value} [TyI P t d s by_ z] (hx : ev F x = some (epf a sz i fo)) (hs : SlAt I a xs) (hsz : Enc.sz α = sz) (hi : i < xs.length) (hd : isA d = true) (hv : tk (enc (xs.getD i default)) fo s = some vs) : OpV P w0 n ⟨dst, .load t x, ty, pos, af, gd⟩ F A I (.agg vs.toArray) := by
 subst hsz
 intro tt w hf hst
 rcases hs with rfl | ⟨b, off, rfl, cs, T, fz, hm, hc⟩
 ·simp at hi
 ·obtain ⟨h1, h2⟩ := tk_spec hv
  have hx' : ev F x = some (.pointer (some ⟨b, off + (i * Enc.sz α + fo), none⟩)) := hx
  have h := hst.inI hm
  have hcell : ∀ j, j < s → cs[off + (i * Enc.sz α + fo) + j]? = vs[j]? := by
   intro j hj
   have hj' : j < vs.length := by omega
   have h3 := h2 j hj
   have hlt : fo + j < Enc.sz α := by
    have : (enc (xs.getD i default))[fo + j]? = some vs[j] := by rw [h3]; simp [hj']
    have := (List.getElem?_eq_some_iff.1 this).1
    rwa [Enc.hlen] at this
   have := hc (i * Enc.sz α + (fo + j)) vs[j] (by rw [encs_get xs i (fo + j) hi hlt, h3]; simp [hj'])
   rw [show off + (i * Enc.sz α + fo) + j = off + (i * Enc.sz α + (fo + j)) by omega, this]
   simp [hj']
  simp [execOp, hf.eval hx', Instr.loadAt, Instr.sureAddr, run_loadVarA (P := P) (t := t) hd h h1 hcell]
theorem SlAt.some {α : Type} [Enc α] {xs : List α} (h : SlAt I a xs) {i : Nat} (hi : i < xs.length) : a.isSome = true := by
 rcases h with rfl | ⟨b, off, rfl, _⟩
 ·simp at hi
 ·rfl

theorem opv_fieldAddrE {α : Type} [Enc α] {xs : List α} {i f ft : Nat} {sz j fo : Nat} [FldI P t i f ft] [TyI P ft d' s' by' z'] (hx : ev F x = some (epf a sz j fo)) (hs : SlAt I a xs) (hj : j < xs.length) (h0 : Nat.beq s' 0 = false) : OpV P w0 n ⟨dst, .fieldAddr t x i, ty, pos, af, gd⟩ F A I (epf a sz j (fo + f)) := opv_fieldAddrP hx (hs.some hj) h0
theorem opv_indexAddrE {α : Type} [Enc α] {xs : List α} {l2 : Nat} {k : IntKind} {i : Int} {sz j fo : Nat} [TyI P t (.array l2 e) s by_ z] [TyI P e d' s' by' z'] (hx : ev F x = some (epf a sz j fo)) (hs : SlAt I a xs) (hj : j < xs.length) (hi : ev F ix = some (.int k i)) (h0 : 0 ≤ i) (h1 : i < l2) : OpV P w0 n ⟨dst, .indexAddr t x ix, ty, pos, af, gd⟩ F A I (epf a sz j (fo + i.toNat * s')) := opv_indexAddrP hx (hs.some hj) hi h0 h1

/-! ### 3. Rows of one's own -/
/-- The slice (a, len, cap) stands at the head of a block of its own (or is nil); its first cells are these. -/
def Row (a : Option Addr) (cap len : Nat) (E : TypeId) (sz : Nat) (cells : List Value) : Asrt := fun c =>
 cells.length = len * sz ∧ ((a = none ∧ cap = 0 ∧ len = 0 ∧ c = []) ∨ ∃ b cur, a = some ⟨b, 0, none⟩ ∧ c = [(b, .cells cur E (0, 0))] ∧ cur.size = cap * sz ∧ len ≤ cap ∧ cur.toList.take (len * sz) = cells)
theorem tri_nilRow {E : TypeId} {sz : Nat} {K : Act → World → Prop} (h : Tri w0 n F (Row none 0 0 E sz [] :: A) I K) : Tri w0 n F A I K := by
 intro t w hf hs
 refine h t w hf ?_
 obtain ⟨cs, h1, h2⟩ := hs
 exact ⟨[] ++ cs, .cons ⟨by simp, .inl ⟨rfl, rfl, rfl, rfl⟩⟩ h1, h2⟩
theorem tri_freezeRow {α : Type} [Enc α] {xs : List α} {E : TypeId} {K : Act → World → Prop} (hz : Nat.beq (Enc.sz α) 0 = false) (h : ∀ I', I ⊆ I' → SlAt I' a xs → Tri w0 n F A I' K) : Tri w0 n F (Row a cap len E (Enc.sz α) (encs xs) :: A) I K := by
 intro t w hf hs
 obtain ⟨cs, h1, h2⟩ := hs
 obtain ⟨c, cs', rfl, ⟨hl, ha⟩, hr⟩ := h1.cons_inv
 rcases ha with ⟨rfl, rfl, rfl, rfl⟩ | ⟨b, cur, rfl, rfl, hsz, hle, htk⟩
 ·have hx : xs = [] := by
   have hz := Nat.ne_of_beq_eq_false hz
   rw [encs_length] at hl
   have : xs.length = 0 := by
    rcases Nat.eq_zero_or_pos xs.length with h | h
    ·exact h
    ·have := Nat.mul_pos h (Nat.pos_of_ne_zero hz); omega
   exact List.eq_nil_of_length_eq_zero this
  exact h I (fun _ h => h) (.inl hx) t w hf ⟨cs', hr, by simpa using h2⟩
 ·refine h ((b, .cells cur E (0, 0)) :: I) (fun _ h => List.mem_cons_of_mem _ h) (.inr ⟨b, 0, rfl, cur, E, (0, 0), by simp, ?_⟩) t w hf ⟨cs', hr, h2.perm ?_⟩
  ·intro j v hj
   rw [← htk] at hj
   have := (List.getElem?_eq_some_iff.1 hj).1
   rw [List.length_take] at this
   rw [List.getElem?_take_of_lt (by omega)] at hj
   simpa using hj
  ·simpa using (List.perm_middle (l₁ := cs') (a := (b, Obj.cells cur E (0, 0))) (l₂ := I)).symm

class SelR (A : List Asrt) (a : Option Addr) (cap len : outParam Nat) (E : outParam TypeId) (sz : outParam Nat) (cells : outParam (List Value)) (u : outParam (Asrt → List Asrt)) : Prop where
 h : ∃ pre post, A = pre ++ Row a cap len E sz cells :: post ∧ ∀ r, u r = pre ++ r :: post
instance (priority := high) selRHere {E : TypeId} {sz : Nat} {cells : List Value} : SelR (Row a cap len E sz cells :: A) a cap len E sz cells (fun r => r :: A) := ⟨[], A, rfl, fun _ => rfl⟩
instance (priority := low) selRThere {q : Asrt} {E : TypeId} {sz : Nat} {cells : List Value} {u : Asrt → List Asrt} [h : SelR A a cap len E sz cells u] : SelR (q :: A) a cap len E sz cells (fun r => q :: u r) := by
 obtain ⟨pre, post, h1, h2⟩ := h.h
 exact ⟨q :: pre, post, by rw [h1]; rfl, fun r => by rw [h2]; rfl⟩
variable {E : TypeId} {sz : Nat} {cells : List Value} {u : Asrt → List Asrt}
theorem SelR.at [h : SelR A a cap len E sz cells u] {w : World} (hs : St w0 w A I) : cells.length = len * sz ∧ ((a = none ∧ cap = 0 ∧ len = 0) ∨ ∃ b cur, a = some ⟨b, 0, none⟩ ∧ w.heap[b]? = some (.cells cur E (0, 0)) ∧ cur.size = cap * sz ∧ len ≤ cap ∧ cur.toList.take (len * sz) = cells) := by
 obtain ⟨pre, post, h1, _⟩ := h.h
 have hp : A.Perm (Row a cap len E sz cells :: (pre ++ post)) := by rw [h1]; exact List.perm_middle
 obtain ⟨cs, h2, h3⟩ := hs.perm hp
 obtain ⟨c, cs', rfl, ⟨hl, hr⟩, _⟩ := h2.cons_inv
 refine ⟨hl, ?_⟩
 rcases hr with ⟨h4, h5, h6, _⟩ | ⟨b, cur, h4, rfl, h5, h6, h7⟩
 ·exact .inl ⟨h4, h5, h6⟩
 ·exact .inr ⟨b, cur, h4, h3.has (b, _) (by simp), h5, h6, h7⟩
/-- The row's block turns; or another one takes its place. -/
theorem SelR.set [h : SelR A a cap len E sz cells u] {w : World} (hs : St w0 w A I) (len' : Nat) (cells' : List Value) {b : Nat} (ha : a = some ⟨b, 0, none⟩) (cur' : Array Value) (heap' : Array Obj) (hsz : heap'.size = w.heap.size)
  (hb : heap'[b]? = some (.cells cur' E (0, 0))) (hne : ∀ k, k ≠ b → heap'[k]? = w.heap[k]?) (hl : cells'.length = len' * sz) (hc : cur'.size = cap * sz) (hle : len' ≤ cap) (ht : cur'.toList.take (len' * sz) = cells') :
  St w0 { w with heap := heap' } (u (Row a cap len' E sz cells')) I := by
 obtain ⟨pre, post, h1, h2⟩ := h.h
 have hp : A.Perm (Row a cap len E sz cells :: (pre ++ post)) := by rw [h1]; exact List.perm_middle
 obtain ⟨cs, hq, h3⟩ := hs.perm hp
 obtain ⟨c, cs', rfl, ⟨hl', hr⟩, hr2⟩ := hq.cons_inv
 rcases hr with ⟨h4, _⟩ | ⟨b', cur0, h4, rfl, _⟩
 ·rw [ha] at h4; cases h4
 ·have : b' = b := by rw [ha] at h4; injection h4 with h4; injection h4 with h4; exact h4.symm
  subst this
  have hw := Wd.setObj (by simpa using h3) (.cells cur' E (0, 0)) heap' hsz hb hne
  have hst : St w0 { w with heap := heap' } (Row a cap len' E sz cells' :: (pre ++ post)) I :=
   ⟨[(b', .cells cur' E (0, 0))] ++ cs', .cons ⟨hl, .inr ⟨b', cur', ha, rfl, hc, hle, ht⟩⟩ hr2, by simpa using hw⟩
  rw [h2]
  exact hst.perm List.perm_middle.symm
theorem SelR.swap [h : SelR A a cap len E sz cells u] {w : World} (hs : St w0 w A I) (cap' len' : Nat) (cells' : List Value) (cur' : Array Value) (hl : cells'.length = len' * sz) (hc : cur'.size = cap' * sz) (hle : len' ≤ cap') (ht : cur'.toList.take (len' * sz) = cells') :
  St w0 (w.alloc (.cells cur' E)) (u (Row (some ⟨w.heap.size, 0, none⟩) cap' len' E sz cells')) I := by
 obtain ⟨pre, post, h1, h2⟩ := h.h
 have hp : A.Perm (Row a cap len E sz cells :: (pre ++ post)) := by rw [h1]; exact List.perm_middle
 have h3 := (hs.perm hp).drop.alloc (.cells cur' E)
 rw [h2]
 exact (h3.weaken (b := Row (some ⟨w.heap.size, 0, none⟩) cap' len' E sz cells') (by rintro c rfl; exact ⟨hl, .inr ⟨_, cur', rfl, rfl, hc, hle, ht⟩⟩)).perm List.perm_middle.symm

theorem SelR.some [h : SelR A a cap len E sz cells u] {w : World} (hs : St w0 w A I) {j : Nat} (hj : j < len) : a.isSome = true := by
 obtain ⟨_, ⟨_, _, rfl⟩ | ⟨b, cur, rfl, _⟩⟩ := SelR.at (a := a) hs
 ·omega
 ·rfl
theorem opv_fieldAddrR {i f ft : Nat} {sz' j fo : Nat} [SelR A a cap len E sz cells u] [FldI P t i f ft] [TyI P ft d' s' by' z'] (hx : ev F x = some (epf a sz' j fo)) (hj : j < len) (h0 : Nat.beq s' 0 = false) : OpV P w0 n ⟨dst, .fieldAddr t x i, ty, pos, af, gd⟩ F A I (epf a sz' j (fo + f)) :=
 fun tt w hf hs => opv_fieldAddrP (gd := gd) hx (SelR.some (a := a) hs hj) h0 tt w hf hs
theorem opv_indexAddrRA {l2 : Nat} {k : IntKind} {i : Int} {sz' j fo : Nat} [SelR A a cap len E sz cells u] [TyI P t (.array l2 e) s by_ z] [TyI P e d' s' by' z'] (hx : ev F x = some (epf a sz' j fo)) (hj : j < len) (hi : ev F ix = some (.int k i)) (h0 : 0 ≤ i) (h1 : i < l2) : OpV P w0 n ⟨dst, .indexAddr t x ix, ty, pos, af, gd⟩ F A I (epf a sz' j (fo + i.toNat * s')) :=
 fun tt w hf hs => opv_indexAddrP (gd := gd) hx (SelR.some (a := a) hs hj) hi h0 h1 tt w hf hs
theorem opv_indexAddrR {k : IntKind} {i : Int} [SelR A a cap len E sz cells u] [TyI P t (.slice e) s by_ z] [TyI P e d' s' by' z'] (hx : ev F x = some (.slice a len cap)) (hi : ev F ix = some (.int k i)) (h0 : 0 ≤ i) (h1 : i < len) :
  OpV P w0 n ⟨dst, .indexAddr t x ix, ty, pos, af, gd⟩ F A I (epf a s' i.toNat 0) := by
 intro tt w hf hst
 obtain ⟨_, ⟨_, _, rfl⟩ | ⟨b, cur, rfl, _⟩⟩ := SelR.at (a := a) hst
 ·omega
 ·simp [execOp, hf.eval hx, hf.eval hi, Instr.indexAt, asIntOf, run_und (P := P) (t := t), h0, h1, run_size (P := P) (t := e), add_pt, epf]
theorem opv_loadR1 {i fo : Nat} {v : Value} [SelR A a cap len E sz cells u] [TyI P t d s by_ z] (hx : ev F x = some (epf a sz i fo)) (hd : isA d = false) (hv : cells[i * sz + fo]? = some v) : OpV P w0 n ⟨dst, .load t x, ty, pos, af, gd⟩ F A I v := by
 intro tt w hf hst
 obtain ⟨hl, ⟨_, _, rfl⟩ | ⟨b, cur, rfl, hb, _, _, ht⟩⟩ := SelR.at (a := a) hst
 ·have := (List.getElem?_eq_some_iff.1 hv).1
  simp at hl; subst hl; simp at this
 ·have hx' : ev F x = some (.pointer (some ⟨b, 0 + (i * sz + fo), none⟩)) := hx
  rw [← ht] at hv
  have h1 := (List.getElem?_eq_some_iff.1 hv).1
  rw [List.length_take] at h1
  rw [List.getElem?_take_of_lt (by omega)] at hv
  simp [execOp, hf.eval hx', Instr.loadAt, Instr.sureAddr, run_loadVar1 (P := P) (t := t) hd hb (by simpa using hv)]
theorem opv_loadRA {i fo : Nat} {vs : List Value} [SelR A a cap len E sz cells u] [TyI P t d s by_ z] (hx : ev F x = some (epf a sz i fo)) (hd : isA d = true) (h0 : Nat.blt 0 s = true) (hv : tk cells (i * sz + fo) s = some vs) : OpV P w0 n ⟨dst, .load t x, ty, pos, af, gd⟩ F A I (.agg vs.toArray) := by
 intro tt w hf hst
 obtain ⟨h1, h2⟩ := tk_spec hv
 obtain ⟨hl, ⟨rfl, _, rfl⟩ | ⟨b, cur, rfl, hb, _, _, ht⟩⟩ := SelR.at (a := a) hst
 ·exfalso
  have h0' : 0 < s := Nat.le_of_ble_eq_true h0
  have := h2 0 h0'
  have hc : cells = [] := by simpa using hl
  subst hc
  rw [List.getElem?_nil] at this
  have := List.getElem?_eq_none_iff.1 this.symm
  omega
 ·have hx' : ev F x = some (.pointer (some ⟨b, 0 + (i * sz + fo), none⟩)) := hx
  have hcell : ∀ j, j < s → cur[i * sz + fo + j]? = vs[j]? := by
   intro j hj
   have h3 := h2 j hj
   have hj' : j < vs.length := by omega
   have h4 : cells[i * sz + fo + j]? = some vs[j] := by rw [h3]; simp [hj']
   rw [← ht] at h4
   have h5 := (List.getElem?_eq_some_iff.1 h4).1
   rw [List.length_take] at h5
   rw [List.getElem?_take_of_lt (by omega)] at h4
   rw [← Array.getElem?_toList, h4]
   simp [hj']
  simp [execOp, hf.eval hx', Instr.loadAt, Instr.sureAddr, run_loadVarA (P := P) (t := t) hd hb h1 hcell]

theorem take_splice (L vs : List Value) (p s k : Nat) (hs : vs.length = s) (h : p + s ≤ k) (hk : k ≤ L.length) : (L.take p ++ vs ++ L.drop (p + s)).take k = (L.take k).take p ++ vs ++ (L.take k).drop (p + s) := by
 have e : (L.take p ++ vs).length = p + s := by rw [List.length_append, List.length_take, hs]; omega
 rw [List.take_append, e, List.take_of_length_le (by omega), List.take_take, show min p k = p by omega, List.drop_take]
theorem opg_storeR {i fo : Nat} {v : Value} {vs : List Value} [SelR A a cap len E sz cells u] [TyI P t d s by_ z] (hx : ev F x = some (epf a sz i fo)) (hy : ev F y = some v) (hv : v.cells = vs.toArray) (hls : vs.length = s) (h1 : vs.all (·.oneCell') = true) (h0 : Nat.blt 0 s = true) (hi : i < len) (hfo : fo + s ≤ sz) :
  OpG P w0 n ⟨dst, .store t x y, ty, pos, af, gd⟩ F A I (fun _ A' I' => A' = u (Row a cap len E sz (cells.take (i * sz + fo) ++ vs ++ cells.drop (i * sz + fo + s))) ∧ I = I') := by
 refine opg_unit fun tt w hf hst => ?_
 obtain ⟨hl, ⟨_, _, rfl⟩ | ⟨b, cur, ha, hb, hsz, hle, ht⟩⟩ := SelR.at (a := a) hst
 ·omega
 ·have hx' : ev F x = some (.pointer (some ⟨b, 0 + (i * sz + fo), none⟩)) := by rw [hx, ha]; rfl
  have hmul : (i + 1) * sz ≤ len * sz := Nat.mul_le_mul_right sz hi
  have hmul2 : len * sz ≤ cap * sz := Nat.mul_le_mul_right sz hle
  have hbd : i * sz + fo + s ≤ len * sz := by rw [Nat.succ_mul] at hmul; omega
  obtain ⟨w', hr, ho, htp, hout, hdr, hsz', hb', hne⟩ := run_storeCells_at' (P := P) (0 + (i * sz + fo)) vs 0 cur w hb (by omega) (by simpa using h1)
  have hw : w' = { w with heap := w'.heap } := by cases w'; cases w; simp_all
  refine ⟨w', _, I, ?_, ⟨rfl, rfl⟩, ?_⟩
  ·simp only [execOp, hf.eval hx', hf.eval hy, Instr.storeAt, Instr.sureAddr, Sem.run_bind, Sem.run_pure, Result.andThen_ok, storeVar, hv, run_size (P := P) (t := t), List.size_toArray, hls, ne_eq, not_true_eq_false, if_false, hr]
  ·rw [hw]
   have hcl : cells.length = len * sz := hl
   refine SelR.set hst len _ ha _ _ hsz' hb' hne ?_ ?_ hle ?_
   ·simp only [List.length_append, List.length_take, List.length_drop, hls]; omega
   ·simp only [List.size_toArray, List.length_append, List.length_take, List.length_drop, Array.length_toList, hls]; omega
   ·simp only [Nat.zero_add, Nat.add_zero, hls]
    rw [← ht]
    exact take_splice cur.toList vs _ s _ hls (by omega) (by simp; omega)

/-! ### 4. make, literals, append -/
theorem opg_makeSlice {k k2 : IntKind} {m : Int} {zc : Value} [TyI P t (.slice e) s by_ z] [TyI P e d' s' by' [zc]] (hs1 : Nat.beq s' 1 = true) (hx : ev F x = some (.int k m)) (hy : ev F y = some (.int k2 m)) (h0 : 0 ≤ m) (h1 : m < 9223372036854775808) (hb : (by' : Int) * m ≤ 281474976710656) :
  OpG P w0 n ⟨dst, .makeSlice t x y, ty, pos, af, gd⟩ F A I (fun v A' I' => ∃ a, a ≠ none ∧ v = .slice a m.toNat m.toNat ∧ A' = Row a m.toNat m.toNat e 1 (List.replicate m.toNat zc) :: A ∧ I = I') := by
 have hs1' : s' = 1 := Nat.eq_of_beq_eq_true hs1
 subst hs1'
 refine opg_run fun tt w hf hst => ?_
 obtain ⟨inf, hinf, hby⟩ := run_bytes (P := P) (t := e) w
 obtain ⟨zv, hzv, hzc⟩ := run_zero (P := P) (t := e) w
 have hm : IntKind.i64.wrap m = m := w64 (by omega) (by omega)
 have hzs : zv.cells = #[zc] := by apply Array.ext'; simpa using hzc
 have hcells : ((Array.range m.toNat).map (fun j => zv.cells[j % zv.cells.size]!)) = (List.replicate m.toNat zc).toArray := by
  apply Array.ext'
  simp only [hzs, Array.toList_map, Array.toList_range]
  apply List.ext_getElem?
  intro j
  by_cases hj : j < m.toNat
  ·rw [List.getElem?_map, List.getElem?_range hj, List.getElem?_replicate, if_pos hj]; simp [Nat.mod_one]
  ·rw [List.getElem?_eq_none (by simp; omega), List.getElem?_eq_none (by simp; omega)]
 refine ⟨.slice (some ⟨w.heap.size, 0, none⟩) m.toNat m.toNat, w.alloc (.cells (List.replicate m.toNat zc).toArray e), _, I, ?_, ⟨_, by simp, rfl, rfl, rfl⟩, ?_⟩
 ·have ht : ¬ (m < 0) := by omega
  have hbb : ¬ (281474976710656 < (by' : Int) * m) := by omega
  by_cases hm0 : m.toNat = 0
  ·have hz : m = 0 := by omega
   subst hz
   simp [execOp, Instr.makeSlice, hf.eval hx, hf.eval hy, run_und (P := P) (t := t), asInt, asIntOf, hinf, hby, run_size (P := P) (t := e), newRow, hm, Array.range_zero']
  ·simp [execOp, Instr.makeSlice, hf.eval hx, hf.eval hy, run_und (P := P) (t := t), asInt, asIntOf, hinf, hby, run_size (P := P) (t := e), newRow, hm, hm0, hzv, ht, hbb]
   have hc2 : Array.map (fun x => zv.cells[x % zv.cells.size]!) (Array.range m.toNat) = Array.replicate m.toNat zc := by simpa using hcells
   rw [hc2]
 ·exact (hst.alloc (.cells (List.replicate m.toNat zc).toArray e)).weaken (by
   rintro c rfl
   exact ⟨by simp, .inr ⟨_, _, rfl, rfl, by simp, Nat.le_refl _, by simp⟩⟩)

theorem growBy_le : ∀ (r need c : Nat), c < need → Builtin.growBy need r c ≤ 2 * need + 768
 | 0, need, c, h => by simp only [Builtin.growBy]; omega
 | r + 1, need, c, h => by
  simp only [Builtin.growBy]
  rw [if_neg (by omega)]
  by_cases h2 : c + (c + 768) / 4 < need
  ·exact growBy_le r need _ h2
  ·have : ∀ r', Builtin.growBy need r' (c + (c + 768) / 4) = c + (c + 768) / 4 := by
    intro r'
    cases r' with
    | zero => rfl
    | succ r' => simp only [Builtin.growBy]; rw [if_pos (by omega)]
   rw [this]
   omega
theorem nextcap_le (need cap : Nat) (h : cap < need) : Builtin.nextslicecap need cap ≤ 2 * need + 768 := by
 unfold Builtin.nextslicecap
 split
 ·omega
 ·split
  ·omega
  ·exact growBy_le _ _ _ h
/-- What a slice's cells are. -/
def CellsOf (w : World) (a : Option Addr) (cs : List Value) : Prop := cs = [] ∨ ∃ b off cur T fz, a = some ⟨b, off, none⟩ ∧ w.heap[b]? = some (Obj.cells cur T fz) ∧ ∀ j, j < cs.length → cur[off + j]? = cs[j]?
theorem run_firstCells {w : World} {cs : List Value} {sz m : Nat} (h : CellsOf w a2 cs) (hl : cs.length = m * sz) (cap2 : Nat) : (Builtin.firstCells sz m (.slice a2 m cap2)).run P w = .ok cs.toArray w := by
 rcases h with rfl | ⟨b, off, cur, T, fz, rfl, hb, hc⟩
 ·have : m * sz = 0 := by simpa using hl.symm
  cases a2 with
  | none => simp [Builtin.firstCells]
  | some ad => simp [Builtin.firstCells, this, loadCells, loadCellsFrom]
 ·simp only [Builtin.firstCells, ← hl]
  exact run_loadCells_at hb hc
theorem SlAt.cellsOf {α : Type} [Enc α] {xs : List α} (h : SlAt I a2 xs) {w : World} (hs : St w0 w A I) : CellsOf w a2 (encs xs) := by
 rcases h with rfl | ⟨b, off, rfl, cs, T, fz, hm, hc⟩
 ·exact .inl rfl
 ·exact .inr ⟨b, off, cs, T, fz, rfl, hs.inI hm, fun j hj => by rw [hc j (encs xs)[j] (by simp [hj])]; simp [hj]⟩
theorem box_cellsOf {b : Nat} {cs : List Value} {T : TypeId} {v : List Value → List Asrt} [Sel A b cs T v] {w : World} (hs : St w0 w A I) : CellsOf w (some ⟨b, 0, none⟩) cs :=
 .inr ⟨b, 0, _, T, (0, 0), rfl, Sel.at (b := b) hs, fun j _ => by simp⟩
theorem opg_append_of {cells2 : List Value} [SelR A a cap len E sz cells u] [TyI P t (.slice E) s by_ z] [TyI P ty (.slice e) s by_ z] [TyI P E d' sz by' z'] (hx : ev F x = some (.slice a len cap)) (hy : ev F y = some (.slice a2 m cap2)) (hl2 : cells2.length = m * sz) (h1 : cells2.all (·.oneCell') = true)
  (hc2 : ∀ w, St w0 w A I → CellsOf w a2 cells2) (hby : (2 * (len + m) + 768) * by' ≤ 281474976710656) (hb0 : Nat.beq by' 0 = false) :
  OpG P w0 n ⟨dst, .call ⟨.builtin .append, #[x, y], #[t, ty]⟩, ty, pos, af, gd⟩ F A I (fun v A' I' => ∃ a' cap', v = .slice a' (len + m) cap' ∧ A' = u (Row a' cap' (len + m) E sz (cells ++ cells2)) ∧ I = I') := by
 refine opg_run fun tt w hf hst => ?_
 obtain ⟨hl, hrow⟩ := SelR.at (a := a) hst
 obtain ⟨inf, hinf, hbyt⟩ := run_bytes (P := P) (t := E) w
 obtain ⟨zv, hzv, hzc⟩ := run_zero (P := P) (t := E) w
 have hfc := run_firstCells (P := P) (hc2 w hst) hl2 cap2
 have hmul : (len + m) * sz = len * sz + m * sz := Nat.add_mul ..
 by_cases hroom : len + m ≤ cap
 ·rcases hrow with ⟨rfl, rfl, rfl⟩ | ⟨b, cur, rfl, hb, hsz, hle, ht⟩
  ·have hm0 : m = 0 := by omega
   subst hm0
   have : cells2 = [] := by simpa using hl2
   subst this
   have hcl : cells = [] := by simpa using hl
   subst hcl
   have hh := SelR.h (A := A) (a := (none : Option Addr)) (cap := 0) (len := 0) (E := E) (sz := sz) (cells := []) (u := u)
   obtain ⟨pre, post, e1, e2⟩ := hh
   refine ⟨.slice none 0 0, w, u (Row none 0 0 E sz []), I, ?_, ⟨none, 0, rfl, rfl, rfl⟩, by rw [e2, ← e1]; exact hst⟩
   simp [execOp, resolve, invoke, builtin, hf.eval hx, hf.eval hy, Builtin.append_, run_und (P := P) (t := t), run_und (P := P) (t := ty), run_size (P := P) (t := E), Builtin.lenOf, hfc]
  ·have hmul2 : (len + m) * sz ≤ cap * sz := Nat.mul_le_mul_right sz hroom
   obtain ⟨w', hr, ho, htp, hout, hdr, hsz', hb', hne⟩ := run_storeCells_at' (P := P) (len * sz) cells2 0 cur w hb (by omega) (by simpa using h1)
   have hw : w' = { w with heap := w'.heap } := by cases w'; cases w; simp_all
   refine ⟨.slice (some ⟨b, 0, none⟩) (len + m) cap, w', _, I, ?_, ⟨_, cap, rfl, rfl, rfl⟩, ?_⟩
   ·simp [execOp, resolve, invoke, builtin, hf.eval hx, hf.eval hy, Builtin.append_, run_und (P := P) (t := t), run_und (P := P) (t := ty), run_size (P := P) (t := E), Builtin.lenOf, hfc, hroom, add_pt, hr]
   ·rw [hw]
    refine SelR.set hst (len + m) _ rfl _ _ hsz' hb' hne ?_ ?_ hroom ?_
    ·rw [List.length_append, hl, hl2, hmul]
    ·simp only [List.size_toArray, List.length_append, List.length_take, List.length_drop, Array.length_toList, hl2]; omega
    ·simp only [Nat.add_zero, hl2]
     have hlt : (cur.toList.take (len * sz)).length = len * sz := by simp; omega
     rw [List.take_append, List.take_of_length_le (by simp; omega), List.length_append, hlt, hl2, hmul, Nat.sub_self, List.take_zero, List.append_nil, ht]
 ·have hlt : cap < len + m := by omega
  have hcs : CellsOf w a cells := by
   rcases hrow with ⟨rfl, rfl, rfl⟩ | ⟨b, cur, rfl, hb, hsz, hle, ht⟩
   ·exact .inl (by simpa using hl)
   ·refine .inr ⟨b, 0, cur, E, (0, 0), rfl, hb, fun j hj => ?_⟩
    rw [← ht] at hj ⊢
    rw [List.length_take] at hj
    rw [List.getElem?_take_of_lt (by omega)]
    simp
  have hnc := nextcap_le (len + m) cap hlt
  have hnb : Builtin.nextslicecap (len + m) cap * by' ≤ 281474976710656 := Nat.le_trans (Nat.mul_le_mul_right by' hnc) hby
  have hk1 : ¬ (281474976710656 < Builtin.nextslicecap (len + m) cap * by') := by omega
  let q := Question.appendCap (len + m) cap E
  let nc := q.cut (w.tape w.drawn q)
  have hncge : len + m ≤ nc := by show len + m ≤ (len + m) + _; omega
  have hst1 : St w0 w.drew A I := hst.drew
  have hfo := run_firstCells (P := P) (w := w.drew) (a2 := a) (cs := cells) (sz := sz) (m := len) hcs hl cap
  have hfn := run_firstCells (P := P) (w := w.drew) (a2 := a2) (cs := cells2) (sz := sz) (m := m) (hc2 w hst) hl2 cap2
  obtain ⟨zv1, hzv1, hzc1⟩ := run_zero (P := P) (t := E) w.drew
  have hzl : zv1.cells.size = sz := by
   have h2 := TyI.zl (P := P) (t := E)
   rw [← h2, ← hzc1]; simp
  let rest := Builtin.zeroCells zv1.cells (nc - (len + m))
  have hrl : rest.size = (nc - (len + m)) * sz := by simp [rest, Builtin.zeroCells, hzl]
  let cur' : Array Value := cells.toArray ++ cells2.toArray ++ rest
  refine ⟨.slice (some ⟨w.heap.size, 0, none⟩) (len + m) nc, w.drew.alloc (.cells cur' E), u (Row (some ⟨w.heap.size, 0, none⟩) nc (len + m) E sz (cells ++ cells2)), I, ?_, ⟨_, nc, rfl, rfl, rfl⟩, ?_⟩
  ·have hb0' : by' ≠ 0 := Nat.ne_of_beq_eq_false hb0
   have hfd : (Question.appendCap (len + m) cap E).forced = false := rfl
   obtain ⟨inf1, hinf1, hbyt1⟩ := run_bytes (P := P) (t := E) w.drew
   simp [execOp, resolve, invoke, builtin, hf.eval hx, hf.eval hy, Builtin.append_, run_und (P := P) (t := t), run_und (P := P) (t := ty), run_size (P := P) (t := E), Builtin.lenOf, hroom, hinf, hbyt, hk1, hb0', hfd, hinf1, hfo, hfn, hzv1, newRow]
   refine ⟨rfl, ?_⟩
   simp only [cur', rest, Array.append_assoc]
   rfl
  ·have hsize : cur'.size = nc * sz := by
    simp only [cur', Array.size_append, List.size_toArray, hl, hl2, hrl]
    rw [← hmul, ← Nat.add_mul]
    congr 1
    omega
   refine SelR.swap (a := a) (w := w.drew) hst1 nc (len + m) (cells ++ cells2) cur' (by rw [List.length_append, hl, hl2, hmul]) hsize hncge ?_
   simp only [cur', Array.toList_append, hmul]
   rw [List.take_append, List.take_of_length_le (by simp; omega)]
   simp [hl, hl2]
/-- 'append(x, ys...)', ys only read. -/
theorem opg_appendS {α : Type} [Enc α] {ys : List α} {i0 : Nat} [SelR A a cap len E i0 cells u] [TyI P t (.slice E) s by_ z] [TyI P ty (.slice e) s by_ z] [TyI P E d' i0 by' z'] (hx : ev F x = some (.slice a len cap)) (hy : ev F y = some (.slice a2 m cap2)) (hs : SlAt I a2 ys) (hm : m = ys.length) (hz : Enc.sz α = i0)
  (hby : (2 * (len + m) + 768) * by' ≤ 281474976710656) (hb0 : Nat.beq by' 0 = false) :
  OpG P w0 n ⟨dst, .call ⟨.builtin .append, #[x, y], #[t, ty]⟩, ty, pos, af, gd⟩ F A I (fun v A' I' => ∃ a' cap', v = .slice a' (len + m) cap' ∧ A' = u (Row a' cap' (len + m) E i0 (cells ++ encs ys)) ∧ I = I') :=
 opg_append_of hx hy (by rw [encs_length, hm, hz]) (encs_one ys) (fun w hw => hs.cellsOf hw) hby hb0
/-- 'append(x, y1, ..)': the elements lie in a new block. -/
theorem opg_appendB {b i0 : Nat} {T : TypeId} {cs : List Value} {v : List Value → List Asrt} [Sel A b cs T v] [SelR A a cap len E i0 cells u] [TyI P t (.slice E) s by_ z] [TyI P ty (.slice e) s by_ z] [TyI P E d' i0 by' z'] (hx : ev F x = some (.slice a len cap)) (hy : ev F y = some (.slice (some ⟨b, 0, none⟩) m cap2)) (hm : cs.length = m * i0) (h1 : cs.all (·.oneCell') = true)
  (hby : (2 * (len + m) + 768) * by' ≤ 281474976710656) (hb0 : Nat.beq by' 0 = false) :
  OpG P w0 n ⟨dst, .call ⟨.builtin .append, #[x, y], #[t, ty]⟩, ty, pos, af, gd⟩ F A I (fun v A' I' => ∃ a' cap', v = .slice a' (len + m) cap' ∧ A' = u (Row a' cap' (len + m) E i0 (cells ++ cs)) ∧ I = I') :=
 opg_append_of hx hy hm h1 (fun w hw => box_cellsOf hw) hby hb0
theorem tri_rowEq {len' : Nat} {cells' : List Value} {K : Act → World → Prop} (hl : len = len') (hc : cells = cells') (h : Tri w0 n F (Row a cap len' E sz cells' :: A) I K) : Tri w0 n F (Row a cap len E sz cells :: A) I K := by subst hl; subst hc; exact h
end
end Go.GL

set_option linter.unusedVariables false
namespace Go.GL
/-! ### Short names of steps -/
section
variable {w0 : World} {n : Nat} {F : Frm} {A : List Asrt} {I : List Chunk} {P : Program} {d : Tmp} {dst : Option Tmp} {ops : Array Oper} {rest : List Oper} {Q : Exit → Act → World → Prop} {x y : Operand} {v : Value} {ty : TypeId} {pos : String} {af : Array Edge} {K : Act → World → Prop}
theorem tM (hx : ev F x = some v) (hn : Nat.blt d n = true) (k : Tri w0 n ((d, v) :: F) A I (wpList P ops Q rest)) : Tri w0 n F A I (wpList P ops Q (⟨some d, .move x, ty, pos, af, none⟩ :: rest)) := tri_v (opv_move hx) hn k
theorem tA (hx : ev F x = some v) (hn : Nat.blt d n = true) (k : Tri w0 n ((d, v) :: F) A I (wpList P ops Q rest)) : Tri w0 n F A I (wpList P ops Q (⟨some d, .assign x, ty, pos, af, none⟩ :: rest)) := tri_v (opv_assign hx) hn k
theorem tT (h : Tri w0 n F A I K) : Tri w0 n F A I (Exit.then K Q .normal) := h
theorem tS {x y : Code} (h : Tri w0 n F A I (Code.wp P x (Exit.then (Code.wp P y Q) Q))) : Tri w0 n F A I (Code.wp P (.seq x y) Q) := tri_seq h
theorem tR {id : Nat} {l : List Oper} (h : Tri w0 n F A I (wpList P l.toArray Q l)) : Tri w0 n F A I (Code.wp P (.region id l.toArray false) Q) := tri_region h
theorem tN (h : Tri w0 n F A I (Q .normal)) : Tri w0 n F A I (wpList P ops Q []) := h
theorem tU {a b : Int} {xt yt : TypeId} (hx : ev F x = some (.int .i64 a)) (hy : ev F y = some (.int .i64 b)) (h1 : -9223372036854775808 ≤ a + b) (h2 : a + b ≤ 9223372036854775807) (hn : Nat.blt d n = true) (k : Tri w0 n ((d, .int .i64 (a + b)) :: F) A I (wpList P ops Q rest)) : Tri w0 n F A I (wpList P ops Q (⟨some d, .binOp .add xt x y yt, ty, pos, af, none⟩ :: rest)) := tri_v (opv_add hx hy (w64 h1 h2)) hn k
end
end Go.GL

set_option linter.unusedVariables false
set_option linter.unusedSimpArgs false
namespace Go.GL

/-- Where a struct's fields lie. -/
class TyF (P : Program) (t : TypeId) (pl : outParam (List (Nat × Nat))) : Prop where
 h : ∃ fs, P.underlying t = some (.struct fs) ∧ fs.toList.map (fun f => (f.offset, (P.info? f.type).map (·.size))) = pl.map (fun p => (p.1, some p.2))

def evp (F : Frm) : List (Nat × Operand) → Option (List (Nat × List Value))
 | [] => some []
 | (i, x) :: ps => match ev F x, evp F ps with | some v, some r => some ((i, v.cells.toList) :: r) | _, _ => none
def evv (F : Frm) : List (Nat × Operand) → Option (List (Nat × Value))
 | [] => some []
 | (i, x) :: ps => match ev F x, evv F ps with | some v, some r => some ((i, v) :: r) | _, _ => none
theorem evp_evv {F : Frm} : ∀ {ps : List (Nat × Operand)} {r : List (Nat × List Value)}, evp F ps = some r → ∃ vs, evv F ps = some vs ∧ r = vs.map fun p => (p.1, p.2.cells.toList)
 | [], r, h => ⟨[], rfl, by simpa [evp] using h.symm⟩
 | (i, x) :: ps, r, h => by
  simp only [evp] at h
  split at h
  ·rename_i v r' h1 h2
   obtain ⟨vs, h3, rfl⟩ := evp_evv h2
   simp only [Option.some.injEq] at h
   subst h
   exact ⟨(i, v) :: vs, by simp [evv, h1, h3], by simp⟩
  ·simp at h
theorem evv_eval {F : Frm} {n : Nat} {t : Array Value} (hf : Fr t n F) : ∀ {ps : List (Nat × Operand)} {vs : List (Nat × Value)}, evv F ps = some vs → ps.map (fun (i, x) => (i, Act.eval ⟨t, []⟩ x)) = vs
 | [], vs, h => by simpa [evv] using h
 | (i, x) :: ps, vs, h => by
  simp only [evv] at h
  split at h
  ·rename_i v r h1 h2
   simp only [Option.some.injEq] at h
   subst h
   simp [hf.eval h1, evv_eval hf h2]
  ·simp at h
def bld (pl : Nat → Option (Nat × Nat)) : List Value → List (Nat × List Value) → Option (List Value)
 | cells, [] => some cells
 | cells, (i, vs) :: r => match pl i with
  | none => none
  | some (off, sz) => match Nat.beq vs.length sz, spl cells off vs with
   | true, some c => bld pl c r
   | _, _ => none
theorem foldl_set (off : Nat) : ∀ (vs : List Value) (j : Nat) (cs : Array Value), off + j + vs.length ≤ cs.size →
  (vs.zipIdx j).foldl (fun (cs : Array Value) (x : Value × Nat) => cs.setIfInBounds (off + x.2) x.1) cs = (cs.toList.take (off + j) ++ vs ++ cs.toList.drop (off + j + vs.length)).toArray
 | [], j, cs, _ => by apply Array.ext'; simp
 | v :: vs, j, cs, h => by
  simp only [List.length_cons] at h
  simp only [List.zipIdx_cons, List.foldl_cons]
  rw [foldl_set off vs (j + 1) _ (by simp; omega)]
  apply Array.ext'
  have hset : (cs.setIfInBounds (off + j) v).toList = cs.toList.take (off + j) ++ v :: cs.toList.drop (off + j + 1) := by
   rw [Array.toList_setIfInBounds, List.set_eq_take_append_cons_drop, if_pos (by simp; omega)]
  have hl : (cs.toList.take (off + j)).length = off + j := by simp; omega
  simp only [hset, List.length_cons]
  rw [show off + (j + 1) = (off + j) + 1 by omega, List.take_append, hl]
  simp only [show off + j + 1 - (off + j) = 1 by omega, List.take_succ_cons, List.take_zero]
  rw [List.take_of_length_le (by omega)]
  simp only [List.append_assoc, List.cons_append, List.nil_append]
  congr 2
  rw [List.drop_append, hl, List.drop_of_length_le (by omega), List.nil_append, show off + j + 1 + vs.length - (off + j) = vs.length + 1 by omega, List.drop_succ_cons, List.drop_drop]
  congr 2
  omega
theorem fill_bld {pl : Nat → Option (Nat × Nat)} : ∀ {vs : List (Nat × Value)} {cells r : List Value}, bld pl cells (vs.map fun p => (p.1, p.2.cells.toList)) = some r → Instr.fill pl cells.toArray vs = some r.toArray
 | [], cells, r, h => by simp [bld] at h; simp [Instr.fill, h]
 | (i, v) :: vs, cells, r, h => by
  simp only [List.map_cons, bld] at h
  cases hp : pl i with
  | none => simp [hp] at h
  | some q =>
   obtain ⟨off, sz⟩ := q
   simp only [hp] at h
   split at h
   ·rename_i c hb hs
    have hb' := Nat.eq_of_beq_eq_true hb
    obtain ⟨h1, h2⟩ := spl_spec hs
    have hsz : v.cells.size = sz := by simpa using hb'
    have hle : off + v.cells.size ≤ cells.length := by simpa using h1
    have := fill_bld h
    simp only [Instr.fill, hp, hsz]
    rw [if_neg (by simp only [List.size_toArray, ne_eq, not_true_eq_false, decide_false, Bool.false_or, decide_eq_true_eq]; omega)]
    have hfold := foldl_set off v.cells.toList 0 cells.toArray (by simpa using hle)
    have e : v.cells.zipIdx.foldl (fun (cs : Array Value) (x : Value × Nat) => cs.setIfInBounds (off + x.2) x.1) cells.toArray = c.toArray := by
     rw [← Array.foldl_toList, Array.toList_zipIdx, hfold, h2]
     simp
    rw [e]
    exact this
   ·simp at h

section
variable {w0 : World} {n : Nat} {F : Frm} {A : List Asrt} {I : List Chunk} {P : Program}
variable {dst : Option Tmp} {ty : TypeId} {pos : String} {af : Array Edge} {gd : Option (Nat × Bool)}
variable {t e : TypeId} {d d' : TypeDesc} {s by_ s' by' : Nat} {z z' : List Value} {x y ix : Operand} {a a2 : Option Addr} {len cap m cap2 : Nat}

theorem opv_buildS {pl : List (Nat × Nat)} {ps : List (Nat × Operand)} {vs : List (Nat × List Value)} {cells : List Value} [TyI P t d s by_ z] [hF : TyF P t pl] (hps : evp F ps = some vs) (hb : bld (pl[·]?) z vs = some cells) : OpV P w0 n ⟨dst, .build t ps.toArray, ty, pos, af, gd⟩ F A I (.agg cells.toArray) := by
 intro tt w hf hs
 obtain ⟨us, h1, rfl⟩ := evp_evv hps
 have he := evv_eval hf h1
 obtain ⟨zv, hz, hzc⟩ := run_zero (P := P) (t := t) w
 obtain ⟨fs, hfs, hpl⟩ := hF.h
 have hfill := fill_bld hb
 have hzc' : zv.cells = z.toArray := by rw [← hzc]
 have hplace : ∀ (fs : List Field) (pl : List (Nat × Nat)), fs.map (fun f => (f.offset, (P.info? f.type).map (·.size))) = pl.map (fun p => (p.1, some p.2)) → ((fs.mapM fun f => do pure (f.offset, ← sizeOf f.type) : Sem (List (Nat × Nat))).run P w = .ok pl w) := by
  intro fs
  induction fs with
  | nil => intro pl h; cases pl <;> simp_all
  | cons f fs ih =>
   intro pl h
   cases pl with
   | nil => simp at h
   | cons p pl =>
    simp only [List.map_cons, List.cons.injEq, Prod.mk.injEq] at h
    obtain ⟨⟨h1, h2⟩, h3⟩ := h
    have hsz : (sizeOf f.type).run P w = .ok p.2 w := by
     cases hi : P.info? f.type with
     | none => simp [hi] at h2
     | some i => simp [sizeOf, typeInfo, hi]; simpa [hi] using h2
    rw [List.mapM_cons, Sem.run_bind, Sem.run_bind, hsz, Result.andThen_ok, Sem.run_pure, Result.andThen_ok, Sem.run_bind, ih pl h3, Result.andThen_ok, Sem.run_pure, h1]
 have hp := hplace fs.toList pl hpl
 have hpA : ((fs.mapM fun f => do pure (f.offset, ← sizeOf f.type) : Sem (Array (Nat × Nat))).run P w = .ok pl.toArray w) := by
  have : fs = fs.toList.toArray := by simp
  rw [this, List.mapM_toArray, Sem.run_map, hp]
  simp
 simp only [execOp, Instr.build, Sem.run_bind, hz, Result.andThen_ok, run_underlying hfs, hpA, List.map_toArray, he, hzc']
 have hfill' : Instr.fill (fun x => pl.toArray[x]?) z.toArray us = some cells.toArray := by simpa using hfill
 simp only [List.toList_toArray, hfill', Sem.run_pure, Result.andThen_ok]
theorem opv_buildA {l2 : Nat} {ps : List (Nat × Operand)} {vs : List (Nat × List Value)} {cells : List Value} [TyI P t (.array l2 e) s by_ z] [TyI P e d' s' by' z'] (hps : evp F ps = some vs) (hb : bld (fun i => some (i * s', s')) z vs = some cells) : OpV P w0 n ⟨dst, .build t ps.toArray, ty, pos, af, gd⟩ F A I (.agg cells.toArray) := by
 intro tt w hf hs
 obtain ⟨us, h1, rfl⟩ := evp_evv hps
 have he := evv_eval hf h1
 obtain ⟨zv, hz, hzc⟩ := run_zero (P := P) (t := t) w
 have hfill := fill_bld hb
 have hzc' : zv.cells = z.toArray := by rw [← hzc]
 simp only [execOp, Instr.build, Sem.run_bind, hz, Result.andThen_ok, run_und (P := P) (t := t), run_size (P := P) (t := e), List.map_toArray, he, hzc', hfill, Sem.run_pure]
def reps : Nat → List Value → List Value
 | 0, _ => []
 | k + 1, z => z ++ reps k z
theorem reps_length (z : List Value) : ∀ k, (reps k z).length = k * z.length
 | 0 => by simp [reps]
 | k + 1 => by rw [reps, List.length_append, reps_length z k, Nat.succ_mul]; omega
theorem reps_get (z : List Value) (hz : 0 < z.length) : ∀ k j, j < k * z.length → (reps k z)[j]? = z[j % z.length]?
 | 0, j, h => by omega
 | k + 1, j, h => by
  rw [reps]
  by_cases hj : j < z.length
  ·rw [List.getElem?_append_left hj, Nat.mod_eq_of_lt hj]
  ·rw [List.getElem?_append_right (by omega), reps_get z hz k (j - z.length) (by rw [Nat.succ_mul] at h; omega)]
   congr 1
   rw [Nat.mod_eq_sub_mod (a := j) (by omega)]
theorem opg_buildSlice {k : Nat} {ps : List (Nat × Operand)} {vs : List (Nat × List Value)} {cells : List Value} [TyI P t (.slice e) s by_ z] [TyI P e d' s' by' z'] (hk : Nat.ble (k * s') 1000 = true) (hs0 : Nat.blt 0 s' = true) (hps : evp F ps = some vs) (hb : bld (fun i => some (i * s', s')) (reps k z') vs = some cells) :
  OpG P w0 n ⟨dst, .buildSlice t k ps.toArray, ty, pos, af, gd⟩ F A I (fun v A' I' => ∃ b, v = .slice (some ⟨b, 0, none⟩) k k ∧ A' = Box b cells e :: A ∧ I = I') := by
 refine opg_run fun tt w hf hst => ?_
 obtain ⟨us, h1, rfl⟩ := evp_evv hps
 have he := evv_eval hf h1
 have hs0' : 0 < s' := Nat.le_of_ble_eq_true hs0
 have hk' : k * s' ≤ 1000 := Nat.le_of_ble_eq_true hk
 obtain ⟨zv, hz, hzc⟩ := run_zero (P := P) (t := e) w
 have hzl : z'.length = s' := Nat.eq_of_beq_eq_true (by simpa using TyI.zl (P := P) (t := e))
 have hfill := fill_bld hb
 have hzsz : zv.cells.size = s' := by rw [← hzl, ← hzc]; simp
 refine ⟨_, w.alloc (.cells cells.toArray e), _, I, ?_, ⟨w.heap.size, rfl, rfl, rfl⟩, hst.alloc _⟩
 have hcells : ((Array.range (k * s')).map (fun j => zv.cells[j % zv.cells.size]!)) = (reps k z').toArray := by
  apply Array.ext'
  simp only [Array.toList_map, Array.toList_range]
  apply List.ext_getElem?
  intro j
  by_cases hj : j < k * s'
  ·rw [List.getElem?_map, List.getElem?_range hj, reps_get z' (by omega) k j (by rw [hzl]; exact hj)]
   have hm : j % s' < s' := Nat.mod_lt _ hs0'
   rw [Option.map_some, hzsz, hzl, ← hzc, Array.getElem?_toList, getElem!_pos zv.cells (j % s') (by omega), Array.getElem?_eq_getElem (by omega)]
  ·rw [List.getElem?_eq_none (by simp; omega), List.getElem?_eq_none (by rw [reps_length, hzl]; omega)]
 have hlim : ¬ (16777216 < k * s') := by omega
 by_cases h0 : k * s' = 0
 ·have hk0 : k = 0 := by
   rcases Nat.eq_zero_or_pos k with h | h
   ·exact h
   ·have := Nat.mul_pos h hs0'; omega
  subst hk0
  have hr0 : reps 0 z' = [] := rfl
  rw [hr0] at hfill
  simp [execOp, Instr.buildSlice, run_und (P := P) (t := t), run_size (P := P) (t := e), he, newRow, Array.range_zero', hfill]
 ·have hr : (Array.map (fun x => zv.cells[x % zv.cells.size]!) (Array.range (k * s'))) = (reps k z').toArray := hcells
  simp [execOp, Instr.buildSlice, run_und (P := P) (t := t), run_size (P := P) (t := e), he, newRow, hlim, hz, h0, hr, hfill]
end
end Go.GL

set_option linter.unusedVariables false
set_option linter.unusedSimpArgs false
namespace Go.GL

/-! ### Equality of values that are whole numbers alone -/
def ints (xs : List Int) : List Value := xs.map (.int .i64)
def intFs (r : TypeId → Option Nat) (P : Program) : List Field → Nat → Option Nat
 | [], off => some off
 | f :: fs, off => match (f.name == "_"), Nat.beq f.offset off, r f.type with
  | false, true, some k => if P.cellsOf f.type = k then intFs r P fs (off + k) else none
  | _, _, _ => none
/-- How many whole numbers a value of a type is made of. -/
def intAt (P : Program) : Nat → TypeId → Option Nat
 | 0, _ => none
 | m + 1, t => match P.underlying t with
  | some (.int .i64) => some 1
  | some (.array n e) => match intAt P m e with | some k => if P.cellsOf e = k ∧ (P.info? e).isSome = true then some (n * k) else none | none => none
  | some (.struct fs) => if P.stoodInHeld t then none else intFs (intAt P m) P fs.toList 0
  | _ => none
def mkv (P : Program) (t : TypeId) (xs : List Int) : Value := match P.underlying t with
 | some (.int .i64) => .int .i64 (xs.headD 0)
 | _ => .agg (ints xs).toArray
section
variable {P : Program}
theorem info_of {t : TypeId} {d : TypeDesc} (h : P.underlying t = some d) : ∃ i, P.info? t = some i := by
 unfold Program.underlying at h
 cases hi : P.info? t with
 | none => simp [hi] at h
 | some i => exact ⟨i, rfl⟩
theorem run_part_int {m : Nat} {e : TypeId} {k off : Nat} {xs : List Int} (he : intAt P m e = some k) (hk : P.cellsOf e = k) (hle : off + k ≤ xs.length) (w : World) : (part e (ints xs).toArray off).run P w = .ok (mkv P e ((xs.drop off).take k)) w := by
 cases m with
 | zero => simp [intAt] at he
 | succ m =>
  unfold intAt at he
  have hagg : ∀ d, P.underlying e = some d → isA d = true → (∀ kd, d ≠ .int kd) → (part e (ints xs).toArray off).run P w = .ok (mkv P e ((xs.drop off).take k)) w := by
   intro d hd ha hne
   obtain ⟨i, hi⟩ := info_of hd
   have h1 : (isAgg e).run P w = .ok true w := by
    unfold isAgg
    rw [Sem.run_bind, run_underlying hd]
    cases d <;> simp_all [isA]
   have h2 : (sizeOf e).run P w = .ok k w := by rw [run_sizeOf w hi, hk]
   have h3 : mkv P e ((xs.drop off).take k) = .agg (ints ((xs.drop off).take k)).toArray := by
    unfold mkv
    rw [hd]
    cases d <;> simp_all [isA]
   simp only [part, Sem.run_bind, h1, Result.andThen_ok, if_true, h2, Sem.run_pure, h3]
   congr 2
   apply Array.ext'
   simp [List.extract, ints, List.map_take, List.map_drop]
  cases hu : P.underlying e with
  | none => simp [hu] at he
  | some d =>
   cases d <;> simp only [hu] at he <;> try (simp at he; done)
   case int kd =>
    cases kd <;> simp at he
    subst he
    have h1 : (isAgg e).run P w = .ok false w := by
     unfold isAgg
     rw [Sem.run_bind, run_underlying hu]
     rfl
    have hlt : off < xs.length := by omega
    have hv : (ints xs).toArray[off]? = some (.int .i64 xs[off]) := by simp [ints, hlt]
    have h3 : mkv P e ((xs.drop off).take 1) = .int .i64 xs[off] := by
     have e0 : (xs.drop off).take 1 = [xs[off]] := by rw [List.drop_eq_getElem_cons hlt]; rfl
     rw [e0]
     unfold mkv
     rw [hu]
     rfl
    simp [part, h1, hv, h3]
   case array n e' => exact hagg _ hu rfl (by simp)
   case struct fs => exact hagg _ hu rfl (by simp)
theorem equal_int : ∀ (m : Nat) (t : TypeId) (k : Nat), intAt P m t = some k → ∀ (d : Nat) (xs ys : List Int), xs.length = k → ys.length = k → ∀ w, (Op.equalIn (d + m) t (mkv P t xs) (mkv P t ys)).run P w = .ok (decide (xs = ys)) w
 | 0, t, k, h => by simp [intAt] at h
 | m + 1, t, k, h => by
  intro d xs ys hx hy w
  have h0 := h
  unfold intAt at h
  cases hu : P.underlying t with
  | none => simp [hu] at h
  | some ds =>
   cases ds <;> simp only [hu] at h <;> try (simp at h; done)
   case int kd =>
    cases kd <;> simp at h
    subst h
    obtain ⟨a, rfl⟩ := List.length_eq_one_iff.1 hx
    obtain ⟨b, rfl⟩ := List.length_eq_one_iff.1 hy
    simp [mkv, hu, Op.equalIn, run_underlying hu, beqd]
   case array n e =>
    split at h
    ·rename_i ke he
     split at h
     ·rename_i hc
      simp only [Option.some.injEq] at h
      subst h
      obtain ⟨i, hi⟩ := Option.isSome_iff_exists.1 hc.2
      have hm1 : mkv P t xs = .agg (ints xs).toArray := by simp [mkv, hu]
      have hm2 : mkv P t ys = .agg (ints ys).toArray := by simp [mkv, hu]
      rw [hm1, hm2, show d + (m + 1) = (d + m) + 1 from rfl, run_equalIn_array w (d + m) _ _ hu hi]
      have key : ∀ (q i : Nat), i + q = n → ∀ w, (Op.eqItems (d + m) e (P.cellsOf e) (ints xs).toArray (ints ys).toArray (List.range' i q)).run P w = .ok (decide (xs.drop (i * ke) = ys.drop (i * ke))) w := by
       intro q
       induction q with
       | zero =>
        intro i hi w
        have e1 : xs.drop (i * ke) = [] := List.drop_of_length_le (by rw [hx]; exact Nat.mul_le_mul_right ke (by omega))
        have e2 : ys.drop (i * ke) = [] := List.drop_of_length_le (by rw [hy]; exact Nat.mul_le_mul_right ke (by omega))
        simp [Op.eqItems, e1, e2]
       | succ q ih =>
        intro i hi w
        have hb : (i + 1) * ke ≤ n * ke := Nat.mul_le_mul_right ke (by omega)
        rw [Nat.succ_mul] at hb
        rw [List.range'_succ]
        simp only [Op.eqItems, Sem.run_bind]
        rw [hc.1, run_part_int he hc.1 (by omega) w, Result.andThen_ok, run_part_int he hc.1 (by omega) w, Result.andThen_ok, equal_int m e ke he d _ _ (by simp; omega) (by simp; omega) w, Result.andThen_ok]
        have ihw := ih (i + 1) (by omega) w
        rw [hc.1] at ihw
        have sx : xs.drop (i * ke) = (xs.drop (i * ke)).take ke ++ xs.drop ((i + 1) * ke) := by rw [Nat.succ_mul, ← List.drop_drop, List.take_append_drop]
        have sy : ys.drop (i * ke) = (ys.drop (i * ke)).take ke ++ ys.drop ((i + 1) * ke) := by rw [Nat.succ_mul, ← List.drop_drop, List.take_append_drop]
        have hiff : (xs.drop (i * ke) = ys.drop (i * ke)) ↔ ((xs.drop (i * ke)).take ke = (ys.drop (i * ke)).take ke ∧ xs.drop ((i + 1) * ke) = ys.drop ((i + 1) * ke)) := by
         constructor
         ·intro h
          refine ⟨by rw [h], ?_⟩
          rw [Nat.succ_mul, ← List.drop_drop, ← List.drop_drop, h]
         ·rintro ⟨h1, h2⟩
          rw [sx, sy, h1, h2]
        by_cases hq : (xs.drop (i * ke)).take ke = (ys.drop (i * ke)).take ke
        ·simp only [hq, decide_true, Bool.not_true, Bool.false_eq_true, if_false]
         rw [ihw]
         congr 1
         simp [hiff, hq]
        ·simp only [hq, decide_false, Bool.not_false, if_true, Sem.run_pure]
         congr 1
         simp [hiff, hq]
      have := key n 0 (by omega) w
      simpa [List.range_eq_range'] using this
     ·simp at h
    ·simp at h
   case struct fs =>
    split at h
    ·simp at h
    ·rename_i hst
     have hm1 : mkv P t xs = .agg (ints xs).toArray := by simp [mkv, hu]
     have hm2 : mkv P t ys = .agg (ints ys).toArray := by simp [mkv, hu]
     have hfs : P.fieldsOf t = fs := by simp [Program.fieldsOf, hu]
     rw [hm1, hm2, show d + (m + 1) = (d + m) + 1 from rfl, run_equalIn_struct w (d + m) t _ _ (by rw [hfs]; exact hu) (by simpa using hst), hfs]
     have key : ∀ (l : List Field) (off : Nat), intFs (intAt P m) P l off = some k → ∀ w, (Op.eqFields (d + m) (ints xs).toArray (ints ys).toArray l).run P w = .ok (decide (xs.drop off = ys.drop off)) w := by
      intro l
      induction l with
      | nil =>
       intro off ho w
       simp only [intFs, Option.some.injEq] at ho
       subst ho
       simp [Op.eqFields, ← hx, List.drop_of_length_le, hy]
      | cons f l ih =>
       intro off ho w
       simp only [intFs] at ho
       split at ho
       ·rename_i kf hn hoff hr
        split at ho
        ·rename_i hc
         have hoff' : f.offset = off := Nat.eq_of_beq_eq_true hoff
         have hn' : f.name ≠ "_" := by simpa using hn
         have hle : off + kf ≤ k := intFs_le _ _ _ _ _ ho
         have e1 : (part f.type (ints xs).toArray f.offset).run P w = .ok (mkv P f.type ((xs.drop off).take kf)) w := by rw [hoff']; exact run_part_int hr hc (by omega) w
         have e2 : (part f.type (ints ys).toArray f.offset).run P w = .ok (mkv P f.type ((ys.drop off).take kf)) w := by rw [hoff']; exact run_part_int hr hc (by omega) w
         have e3 := equal_int m f.type kf hr d ((xs.drop off).take kf) ((ys.drop off).take kf) (by simp; omega) (by simp; omega) w
         have e4 := ih (off + kf) ho w
         simp only [Op.eqFields, ne_eq, hn', not_false_eq_true, if_true, Sem.run_bind, e1, e2, e3, Result.andThen_ok]
         have sx : xs.drop off = (xs.drop off).take kf ++ xs.drop (off + kf) := by rw [← List.drop_drop, List.take_append_drop]
         have sy : ys.drop off = (ys.drop off).take kf ++ ys.drop (off + kf) := by rw [← List.drop_drop, List.take_append_drop]
         have hiff : (xs.drop off = ys.drop off) ↔ ((xs.drop off).take kf = (ys.drop off).take kf ∧ xs.drop (off + kf) = ys.drop (off + kf)) := by
          constructor
          ·intro h
           refine ⟨by rw [h], ?_⟩
           rw [← List.drop_drop, ← List.drop_drop, h]
          ·rintro ⟨h1, h2⟩
           rw [sx, sy, h1, h2]
         by_cases hq : (xs.drop off).take kf = (ys.drop off).take kf
         ·simp only [hq, decide_true, Bool.not_true, Bool.false_eq_true, if_false]
          rw [e4]
          congr 1
          simp [hiff, hq]
         ·simp only [hq, decide_false, Bool.not_false, if_true, Sem.run_pure]
          congr 1
          simp [hiff, hq]
        ·simp at ho
       ·simp at ho
     simpa using key fs.toList 0 h w
 where
 intFs_le : ∀ (r : TypeId → Option Nat) (l : List Field) (off k : Nat) (P' : Program), intFs r P' l off = some k → off ≤ k
  | r, [], off, k, P', h => by simp [intFs] at h; omega
  | r, f :: l, off, k, P', h => by
   simp only [intFs] at h
   split at h
   ·split at h
    ·have := intFs_le r l _ k P' h; omega
    ·simp at h
   ·simp at h
end

/-- A type of whole numbers alone, that is no number. -/
class IntTy (P : Program) (t : TypeId) (k : outParam Nat) : Prop where
 h : intAt P 9 t = some k
 a : ∀ xs, mkv P t xs = .agg (ints xs).toArray
 g : P.eqGuardType P.depth t = false
def toInts : List Value → Option (List Int)
 | [] => some []
 | .int .i64 x :: l => match toInts l with | some r => some (x :: r) | none => none
 | _ => none
theorem toInts_spec : ∀ {l : List Value} {r : List Int}, toInts l = some r → l = ints r
 | [], r, h => by simp [toInts] at h; subst h; rfl
 | v :: l, r, h => by
  unfold toInts at h
  split at h
  ·rename_i heq; cases heq
  ·rename_i x l' heq
   cases heq
   split at h
   ·rename_i r' hr
    simp only [Option.some.injEq] at h
    subst h
    rw [toInts_spec hr]
    rfl
   ·simp at h
  ·simp at h
section
variable {w0 : World} {n : Nat} {F : Frm} {A : List Asrt} {I : List Chunk} {P : Program}
variable {dst : Option Tmp} {ty : TypeId} {pos : String} {af : Array Edge} {gd : Option (Nat × Bool)} {t yt : TypeId} {x y : Operand} {k : Nat}
theorem run_equal_ints [h : IntTy P t k] {xs ys : List Int} (hx : xs.length = k) (hy : ys.length = k) (w : World) : (Op.equal t (.agg (ints xs).toArray) (.agg (ints ys).toArray)).run P w = .ok (decide (xs = ys)) w := by
 have := equal_int 9 t k h.h 9991 xs ys hx hy w
 rw [h.a, h.a] at this
 exact this
theorem opv_eqlI {vs us : List Value} {xs ys : List Int} [h : IntTy P t k] (hx : ev F x = some (.agg vs.toArray)) (hy : ev F y = some (.agg us.toArray)) (h1 : toInts vs = some xs) (h2 : toInts us = some ys) (h3 : xs.length = k) (h4 : ys.length = k) : OpV P w0 n ⟨dst, .binOp .eql t x y yt, ty, pos, af, gd⟩ F A I (.bool (decide (xs = ys))) := by
 intro tt w hf hs
 have e1 := toInts_spec h1
 have e2 := toInts_spec h2
 subst e1; subst e2
 simp only [execOp, hf.eval hx, hf.eval hy, Sem.run_bind, run_eqGuard_agg _ _ _ _ _ _ _ h.g, Result.andThen_ok, binOp, run_equal_ints h3 h4, Sem.run_pure]
theorem opv_neqI {vs us : List Value} {xs ys : List Int} [h : IntTy P t k] (hx : ev F x = some (.agg vs.toArray)) (hy : ev F y = some (.agg us.toArray)) (h1 : toInts vs = some xs) (h2 : toInts us = some ys) (h3 : xs.length = k) (h4 : ys.length = k) : OpV P w0 n ⟨dst, .binOp .neq t x y yt, ty, pos, af, gd⟩ F A I (.bool (decide (xs ≠ ys))) := by
 intro tt w hf hs
 have e1 := toInts_spec h1
 have e2 := toInts_spec h2
 subst e1; subst e2
 simp only [execOp, hf.eval hx, hf.eval hy, Sem.run_bind, run_eqGuard_agg _ _ _ _ _ _ _ h.g, Result.andThen_ok, binOp, run_equal_ints h3 h4, Sem.run_pure]
 by_cases he : xs = ys <;> simp [he]
end
end Go.GL

set_option linter.unusedVariables false
set_option linter.unusedSimpArgs false
namespace Go.GL

/-! ### Maps whose keys are whole numbers, or arrays and structs of such -/
abbrev KVs := List (List Int × Value)
def mfind : KVs → List Int → Option Value
 | [], _ => none
 | p :: es, k => if p.1 = k then some p.2 else mfind es k
def mset : KVs → List Int → Value → KVs
 | [], k, v => [(k, v)]
 | p :: es, k, v => if p.1 = k then (k, v) :: es else p :: mset es k v
/-- A key's type. -/
class KeyTy (P : Program) (t : TypeId) (k : outParam Nat) : Prop where
 h : intAt P 9 t = some k
def MapA (P : Program) (kt : TypeId) (b : Nat) (es : KVs) : Asrt := fun c => ∃ ents clock, c = [(b, .map ents clock)] ∧ ents.toList.map (fun e => (e.key, e.val)) = es.map (fun p => (mkv P kt p.1, p.2)) ∧ (∀ p ∈ es, ∃ k, intAt P 9 kt = some k ∧ p.1.length = k)
section
variable {P : Program} {kt : TypeId} {k : Nat}
theorem run_checkKey_int : ∀ (m : Nat) (t : TypeId) (k : Nat), intAt P m t = some k → ∀ (e : Bool) (d : Nat) (xs : List Int), xs.length = k → ∀ w, (Instr.checkKey e (d + m) t (mkv P t xs)).run P w = .ok () w
 | 0, t, k, h => by simp [intAt] at h
 | m + 1, t, k, h => by
  intro e d xs hx w
  have h0 := h
  unfold intAt at h
  cases hu : P.underlying t with
  | none => simp [hu] at h
  | some ds =>
   cases ds <;> simp only [hu] at h <;> try (simp at h; done)
   case int kd =>
    cases kd <;> simp at h
    simp [mkv, hu, show d + (m + 1) = (d + m) + 1 from rfl, Instr.checkKey, run_underlying hu]
   case array n el =>
    split at h
    ·rename_i ke he
     split at h
     ·rename_i hc
      simp only [Option.some.injEq] at h
      subst h
      obtain ⟨i, hi⟩ := Option.isSome_iff_exists.1 hc.2
      have hm1 : mkv P t xs = .agg (ints xs).toArray := by simp [mkv, hu]
      rw [hm1, show d + (m + 1) = (d + m) + 1 from rfl]
      simp only [Instr.checkKey, Sem.run_bind, run_underlying hu, Result.andThen_ok]
      simp only [Std.Legacy.Range.forIn_eq_forIn_range', Std.Legacy.Range.size, Nat.sub_zero, Nat.add_one_sub_one, Nat.div_one]
      have key : ∀ (q i : Nat), i + q = n → ∀ w, ((forIn (List.range' i q) PUnit.unit fun i _ => do
        Instr.checkKey e (d + m) el (← part el (ints xs).toArray (i * (← sizeOf el))); pure (ForInStep.yield PUnit.unit)) : Sem PUnit).run P w = .ok PUnit.unit w := by
       intro q
       induction q with
       | zero => intro i hi w; simp
       | succ q ih =>
        intro i hi w
        have hb : (i + 1) * ke ≤ n * ke := Nat.mul_le_mul_right ke (by omega)
        rw [Nat.succ_mul] at hb
        rw [List.range'_succ]
        simp only [List.forIn_cons, Sem.run_bind]
        rw [run_sizeOf w (by assumption), Result.andThen_ok, hc.1, run_part_int he hc.1 (by omega) w, Result.andThen_ok, run_checkKey_int m el ke he e d _ (by simp; omega) w, Result.andThen_ok, Sem.run_pure, Result.andThen_ok]
        simp only
        exact ih (i + 1) (by omega) w
      have := key n 0 (by omega) w
      rw [this]
      rfl
     ·simp at h
    ·simp at h
   case struct fs =>
    split at h
    ·simp at h
    ·rename_i hst
     have hm1 : mkv P t xs = .agg (ints xs).toArray := by simp [mkv, hu]
     rw [hm1, show d + (m + 1) = (d + m) + 1 from rfl]
     simp only [Instr.checkKey, Sem.run_bind, run_underlying hu, Result.andThen_ok]
     rw [← Array.forIn_toList]
     have key : ∀ (l : List Field) (off : Nat), intFs (intAt P m) P l off = some k → ∀ w, ((forIn l PUnit.unit fun (f : Field) _ => do
       if f.name ≠ "_" then Instr.checkKey e (d + m) f.type (← part f.type (ints xs).toArray f.offset)
       pure (ForInStep.yield PUnit.unit)) : Sem PUnit).run P w = .ok PUnit.unit w := by
      intro l
      induction l with
      | nil => intro off ho w; simp
      | cons f l ih =>
       intro off ho w
       simp only [intFs] at ho
       split at ho
       ·rename_i kf hn hoff hr
        split at ho
        ·rename_i hc
         have hoff' : f.offset = off := Nat.eq_of_beq_eq_true hoff
         have hn' : f.name ≠ "_" := by simpa using hn
         have hle : off + kf ≤ k := equal_int.intFs_le _ _ _ _ _ ho
         have e1 : (part f.type (ints xs).toArray f.offset).run P w = .ok (mkv P f.type ((xs.drop off).take kf)) w := by rw [hoff']; exact run_part_int hr hc (by omega) w
         have e3 := run_checkKey_int m f.type kf hr e d ((xs.drop off).take kf) (by simp; omega) w
         have e4 := ih (off + kf) ho w
         simp only [ne_eq] at e4
         simp only [List.forIn_cons, Sem.run_bind, ne_eq, hn', not_false_eq_true, if_true, e1, e3, Result.andThen_ok, Sem.run_pure]
         exact e4
        ·simp at ho
       ·simp at ho
     have := key fs.toList 0 h w
     simp only [ne_eq] at this ⊢
     rw [this]
     rfl

theorem mkv_inj_len {t : TypeId} {xs : List Int} : (∃ a, mkv P t xs = .int .i64 a) ∨ mkv P t xs = .agg (ints xs).toArray := by
 unfold mkv
 split
 ·exact .inl ⟨_, rfl⟩
 ·exact .inr rfl
/-- Where a key stands first. -/
def mpos : KVs → List Int → Nat → Option (Nat × Value)
 | [], _, _ => none
 | p :: es, k, i => if p.1 = k then some (i, p.2) else mpos es k (i + 1)
theorem mpos_find : ∀ (es : KVs) (k : List Int) (i : Nat), (mpos es k i).map (·.2) = mfind es k
 | [], k, i => rfl
 | p :: es, k, i => by
  simp only [mpos, mfind]
  split
  ·rfl
  ·exact mpos_find es k (i + 1)
theorem run_equal_key (h : intAt P 9 kt = some k) {xs ys : List Int} (hx : xs.length = k) (hy : ys.length = k) (w : World) : (Op.equal kt (mkv P kt xs) (mkv P kt ys)).run P w = .ok (decide (xs = ys)) w := equal_int 9 kt k h 9991 xs ys hx hy w
theorem run_findAsking_int (h : intAt P 9 kt = some k) {xs : List Int} (hx : xs.length = k) : ∀ (l : List MapEntry) (es : KVs) (i : Nat), l.map (fun e => (e.key, e.val)) = es.map (fun p => (mkv P kt p.1, p.2)) → (∀ p ∈ es, p.1.length = k) → ∀ w,
  (Instr.findAsking kt (mkv P kt xs) l i).run P w = .ok (mpos es xs i) w
 | [], es, i, hl, hk, w => by
  have : es = [] := by simpa using hl.symm
  subst this
  simp [Instr.findAsking, mpos]
 | e :: l, [], i, hl, hk, w => by simp at hl
 | e :: l, p :: es, i, hl, hk, w => by
  simp only [List.map_cons, List.cons.injEq, Prod.mk.injEq] at hl
  simp only [Instr.findAsking, Sem.run_bind, hl.1.1, run_equal_key h hx (hk p (by simp)) w, Result.andThen_ok, mpos]
  by_cases he : xs = p.1
  ·simp [he, hl.1.2]
  ·have he' : ¬ p.1 = xs := fun h => he h.symm
   simp only [he, decide_false, Bool.false_eq_true, if_false, he']
   exact run_findAsking_int h hx l es (i + 1) hl.2 (fun q hq => hk q (by simp [hq])) w
theorem run_findKey_int (h : intAt P 9 kt = some k) {xs : List Int} (hx : xs.length = k) (l : List MapEntry) (es : KVs) (hl : l.map (fun e => (e.key, e.val)) = es.map (fun p => (mkv P kt p.1, p.2))) (hk : ∀ p ∈ es, p.1.length = k) (w : World) :
  (Instr.findKey kt (mkv P kt xs) l).run P w = .ok (mpos es xs 0) w := by
 have hask := run_findAsking_int h hx l es 0 hl hk w
 unfold Instr.findKey
 have hu : ∃ ds, P.underlying kt = some ds ∧ ((∃ kd, ds = .int kd) ∨ isA ds = true) := by
  unfold intAt at h
  cases hu : P.underlying kt with
  | none => simp [hu] at h
  | some ds => cases ds <;> simp_all [isA]
 obtain ⟨ds, hds, hcase⟩ := hu
 rw [Sem.run_bind, run_underlying hds, Result.andThen_ok]
 have hnow : Instr.findNow ds (mkv P kt xs) l 0 = none ∨ Instr.findNow ds (mkv P kt xs) l 0 = some (mpos es xs 0) := by
  rcases hcase with ⟨kd, rfl⟩ | hA
  ·refine .inr ?_
   have hkd : kd = .i64 ∧ k = 1 := by
    unfold intAt at h
    rw [hds] at h
    cases kd <;> simp_all
   obtain ⟨rfl, rfl⟩ := hkd
   obtain ⟨a, rfl⟩ := List.length_eq_one_iff.1 hx
   have e1 : mkv P kt [a] = .int .i64 a := by simp [mkv, hds]
   have gen : ∀ (l : List MapEntry) (es : KVs) (i : Nat), l.map (fun e => (e.key, e.val)) = es.map (fun p => (mkv P kt p.1, p.2)) → (∀ p ∈ es, p.1.length = 1) → Instr.findNow (.int .i64) (mkv P kt [a]) l i = some (mpos es [a] i) := by
    intro l
    induction l with
    | nil =>
     intro es i hl hk
     have : es = [] := by simpa using hl.symm
     subst this
     simp [Instr.findNow, mpos]
    | cons e l ih =>
     intro es i hl hk
     cases es with
     | nil => simp at hl
     | cons p es =>
      simp only [List.map_cons, List.cons.injEq, Prod.mk.injEq] at hl
      obtain ⟨c, hc⟩ := List.length_eq_one_iff.1 (hk p (by simp))
      have e2 : e.key = .int .i64 c := by rw [hl.1.1]; simp [mkv, hds, hc]
      have ih' := ih es (i + 1) hl.2 (fun q hq => hk q (by simp [hq]))
      rw [e1] at ih' ⊢
      simp only [Instr.findNow, e2, Instr.sameNow, if_true, mpos, hc]
      by_cases hac : a = c
      ·subst hac; simp [hl.1.2]
      ·have hca : ¬ c = a := fun h => hac h.symm
       simp only [beqd, hac, decide_false, List.cons.injEq, hca, and_true, if_false]
       exact ih'
   exact gen l es 0 hl hk
  ·cases l with
   | nil =>
    have : es = [] := by simpa using hl.symm
    subst this
    exact .inr rfl
   | cons e l =>
    refine .inl ?_
    cases ds <;> simp [isA] at hA <;> simp [Instr.findNow, Instr.sameNow]
 rcases hnow with hnow | hnow
 ·simp only [hnow]; exact hask
 ·simp only [hnow]; rfl
end

class SelM (P : Program) (A : List Asrt) (b : Nat) (kt : outParam TypeId) (es : outParam KVs) (u : outParam (KVs → List Asrt)) : Prop where
 h : ∃ pre post, A = pre ++ MapA P kt b es :: post ∧ ∀ r, u r = pre ++ MapA P kt b r :: post
section
variable {w0 : World} {n : Nat} {F : Frm} {A : List Asrt} {I : List Chunk} {P : Program}
variable {dst : Option Tmp} {ty : TypeId} {pos : String} {af : Array Edge} {gd : Option (Nat × Bool)}
variable {t e kt : TypeId} {d d' : TypeDesc} {s by_ s' by' : Nat} {z z' : List Value} {x y ix : Operand} {b : Nat} {es : KVs} {u : KVs → List Asrt} {k : Nat}
instance (priority := high) selMHere : SelM P (MapA P kt b es :: A) b kt es (fun r => MapA P kt b r :: A) := ⟨[], A, rfl, fun _ => rfl⟩
instance (priority := low) selMThere {q : Asrt} [h : SelM P A b kt es u] : SelM P (q :: A) b kt es (fun r => q :: u r) := by
 obtain ⟨pre, post, h1, h2⟩ := h.h
 exact ⟨q :: pre, post, by rw [h1]; rfl, fun r => by rw [h2]; rfl⟩
theorem SelM.at [h : SelM P A b kt es u] {w : World} (hs : St w0 w A I) : ∃ ents clock, w.heap[b]? = some (.map ents clock) ∧ ents.toList.map (fun e => (e.key, e.val)) = es.map (fun p => (mkv P kt p.1, p.2)) ∧ (∀ p ∈ es, ∃ k, intAt P 9 kt = some k ∧ p.1.length = k) := by
 obtain ⟨pre, post, h1, _⟩ := h.h
 have hp : A.Perm (MapA P kt b es :: (pre ++ post)) := by rw [h1]; exact List.perm_middle
 obtain ⟨cs, h2, h3⟩ := hs.perm hp
 obtain ⟨c, cs', rfl, ⟨ents, clock, rfl, h4, h5⟩, _⟩ := h2.cons_inv
 exact ⟨ents, clock, h3.has (b, _) (by simp), h4, h5⟩
theorem SelM.set [h : SelM P A b kt es u] {w : World} (hs : St w0 w A I) (es' : KVs) (ents' : Array MapEntry) (clock' : Nat) (hl : ents'.toList.map (fun e => (e.key, e.val)) = es'.map (fun p => (mkv P kt p.1, p.2))) (hk : ∀ p ∈ es', ∃ k, intAt P 9 kt = some k ∧ p.1.length = k) :
  St w0 { w with heap := w.heap.setIfInBounds b (.map ents' clock') } (u es') I := by
 obtain ⟨pre, post, h1, h2⟩ := h.h
 have hp : A.Perm (MapA P kt b es :: (pre ++ post)) := by rw [h1]; exact List.perm_middle
 obtain ⟨cs, hq, h3⟩ := hs.perm hp
 obtain ⟨c, cs', rfl, ⟨ents, clock, rfl, h4, h5⟩, hr2⟩ := hq.cons_inv
 have hb : w.heap[b]? = some (.map ents clock) := h3.has (b, _) (by simp)
 have hlt : b < w.heap.size := (Array.getElem?_eq_some_iff.1 hb).1
 have hw := Wd.setObj (by simpa using h3) (.map ents' clock') (w.heap.setIfInBounds b (.map ents' clock')) (by simp) (by simp [hlt]) (fun k hk => by rw [Array.getElem?_setIfInBounds, if_neg (fun h => hk h.symm)])
 have hst : St w0 { w with heap := w.heap.setIfInBounds b (.map ents' clock') } (MapA P kt b es' :: (pre ++ post)) I :=
  ⟨[(b, .map ents' clock')] ++ cs', .cons ⟨ents', clock', rfl, hl, hk⟩ hr2, by simpa using hw⟩
 rw [h2]
 exact hst.perm List.perm_middle.symm

theorem opg_makeMap [TyI P t (.map kt e) s by_ z] : OpG P w0 n ⟨dst, .makeMap t none, ty, pos, af, gd⟩ F A I (fun v A' I' => ∃ b, v = .map (some b) ∧ A' = MapA P kt b [] :: A ∧ I = I') := by
 refine opg_run fun tt w hf hst => ⟨_, w.alloc (.map #[] 0), _, I, ?_, ⟨w.heap.size, rfl, rfl, rfl⟩, ?_⟩
 ·simp [execOp, Instr.makeMap]
 ·exact (hst.alloc (.map #[] 0)).weaken (by rintro c rfl; exact ⟨#[], 0, rfl, by simp, by simp⟩)
/-- A lookup that tells whether the key is there. -/
theorem opv_lookup2 {ks : List Int} {vk v : Value} [SelM P A b kt es u] [TyI P t (.map kt e) s by_ z] [TyI P e d' s' by' z'] (hz1 : ∀ w, (zeroValue e).run P w = .ok v w) (hx : ev F x = some (.map (some b))) (hy : ev F y = some vk) (hk : vk = mkv P kt ks) (hi : intAt P 9 kt = some k) (hl : ks.length = k) :
  OpV P w0 n ⟨dst, .lookup t x y true, ty, pos, af, gd⟩ F A I (.tuple [(mfind es ks).getD v, .bool (mfind es ks).isSome].toArray) := by
 intro tt w hf hst
 obtain ⟨ents, clock, hb, hm, hks⟩ := SelM.at (b := b) (P := P) hst
 have hks' : ∀ p ∈ es, p.1.length = k := fun p hp => by obtain ⟨k', h1, h2⟩ := hks p hp; rw [hi] at h1; injection h1 with h1; omega
 have hck := run_checkKey_int (P := P) 9 kt k hi ents.isEmpty 9991 ks hl w
 have hfk := run_findKey_int (P := P) hi hl ents.toList es hm hks' w
 have hpf := mpos_find es ks 0
 subst hk
 have hck' : (Instr.checkKey ents.isEmpty 10000 kt (mkv P kt ks)).run P w = .ok () w := hck
 simp only [execOp, hf.eval hx, hf.eval hy, Instr.lookup, Sem.run_bind, run_und (P := P) (t := t), Result.andThen_ok, getObj, Sem.run, hb, hck', hfk, Sem.run_pure]
 cases hp : mpos es ks 0 with
 | none =>
  have : mfind es ks = none := by rw [← hpf, hp]; rfl
  simp [this, hz1]
 | some q =>
  have : mfind es ks = some q.2 := by rw [← hpf, hp]; rfl
  simp [this]

theorem sameBits_mkv (ks : List Int) : Instr.sameBits 10000 (mkv P kt ks) (mkv P kt ks) = true := by
 rcases mkv_inj_len (P := P) (t := kt) (xs := ks) with ⟨a, h⟩ | h
 ·rw [h]; simp [Instr.sameBits]
 ·rw [h]
  simp only [Instr.sameBits]
  have : ∀ l : List Int, ((ints l).zip (ints l)).all (fun (x, y) => Instr.sameBits 9999 x y) = true := by
   intro l
   induction l with
   | nil => rfl
   | cons a l ih => simp only [ints, List.map_cons, List.zip_cons_cons, List.all_cons]; rw [show (List.map (Value.int .i64) l) = ints l from rfl, ih]; simp [Instr.sameBits]
  simpa using this ks
theorem mpos_some : ∀ (es : KVs) (ks : List Int) (i j : Nat) (v : Value), mpos es ks i = some (j, v) → i ≤ j ∧ ∃ p, es[j - i]? = some p ∧ p.1 = ks ∧ ∀ v', mset es ks v' = es.set (j - i) (ks, v')
 | [], ks, i, j, v, h => by simp [mpos] at h
 | p :: es, ks, i, j, v, h => by
  simp only [mpos] at h
  split at h
  ·rename_i hp
   simp only [Option.some.injEq, Prod.mk.injEq] at h
   obtain ⟨rfl, _⟩ := h
   exact ⟨Nat.le_refl _, p, by simp, hp, fun v' => by simp [mset, hp]⟩
  ·rename_i hp
   obtain ⟨h1, q, h2, h3, h4⟩ := mpos_some es ks (i + 1) j v h
   refine ⟨by omega, q, by rw [show j - i = (j - (i + 1)) + 1 by omega]; simpa using h2, h3, fun v' => ?_⟩
   rw [show j - i = (j - (i + 1)) + 1 by omega]
   simp [mset, hp, h4 v']
theorem mpos_none : ∀ (es : KVs) (ks : List Int) (i : Nat), mpos es ks i = none → ∀ v', mset es ks v' = es ++ [(ks, v')]
 | [], ks, i, h => by simp [mset]
 | p :: es, ks, i, h => by
  simp only [mpos] at h
  split at h
  ·simp at h
  ·rename_i hp
   intro v'
   simp [mset, hp, mpos_none es ks (i + 1) h v']
theorem mset_keys {ks : List Int} {v' : Value} {q : Nat} (hl : ks.length = q) : ∀ (es : KVs), (∀ p ∈ es, p.1.length = q) → ∀ p ∈ mset es ks v', p.1.length = q
 | [], _, p, hp => by simp [mset] at hp; subst hp; exact hl
 | r :: es, h, p, hp => by
  simp only [mset] at hp
  split at hp
  ·rcases List.mem_cons.1 hp with rfl | hp
   ·exact hl
   ·exact h p (by simp [hp])
  ·rcases List.mem_cons.1 hp with rfl | hp
   ·exact h _ (by simp)
   ·exact mset_keys hl es (fun r hr => h r (by simp [hr])) p hp
theorem opg_mapUpdate {ks : List Int} {vk v : Value} {ym : Operand} [SelM P A b kt es u] [TyI P t (.map kt e) s by_ z] (hx : ev F x = some (.map (some b))) (hy : ev F y = some vk) (hv : ev F ym = some v) (hk : vk = mkv P kt ks) (hi : intAt P 9 kt = some k) (hl : ks.length = k) :
  OpG P w0 n ⟨dst, .mapUpdate t x y ym, ty, pos, af, gd⟩ F A I (fun _ A' I' => A' = u (mset es ks v) ∧ I = I') := by
 refine opg_unit fun tt w hf hst => ?_
 obtain ⟨ents, clock, hb, hm, hks⟩ := SelM.at (b := b) (P := P) hst
 have hks' : ∀ p ∈ es, p.1.length = k := fun p hp => by obtain ⟨k', h1, h2⟩ := hks p hp; rw [hi] at h1; injection h1 with h1; omega
 have hck : (Instr.checkKey false 10000 kt (mkv P kt ks)).run P w = .ok () w := run_checkKey_int (P := P) 9 kt k hi false 9991 ks hl w
 have hfk := run_findKey_int (P := P) hi hl ents.toList es hm hks' w
 have hkeys : ∀ p ∈ mset es ks v, ∃ k, intAt P 9 kt = some k ∧ p.1.length = k := fun p hp => ⟨k, hi, mset_keys hl es hks' p hp⟩
 subst hk
 cases hp : mpos es ks 0 with
 | none =>
  have hms := mpos_none es ks 0 hp v
  refine ⟨_, _, I, ?_, ⟨rfl, rfl⟩, SelM.set (b := b) (P := P) hst (mset es ks v) (ents.push { key := mkv P kt ks, val := v, born := clock }) (clock + 1) (by rw [hms]; simp [hm]) hkeys⟩
  simp only [execOp, hf.eval hx, hf.eval hy, hf.eval hv, Instr.mapUpdate, Sem.run_bind, run_und (P := P) (t := t), Result.andThen_ok, getObj, setObj, Sem.run, hb, hck, hfk, hp, Sem.run_pure]
 | some q =>
  obtain ⟨j, v0⟩ := q
  obtain ⟨_, p, h1, h2, h3⟩ := mpos_some es ks 0 j v0 hp
  simp only [Nat.sub_zero] at h1 h3
  have hlen : ents.size = es.length := by have := congrArg List.length hm; simpa using this
  have hj : j < es.length := (List.getElem?_eq_some_iff.1 h1).1
  have hent : (ents[j]?).map (·.key) = some (mkv P kt ks) := by
   have := congrArg (fun l => (l[j]?).map (·.1)) hm
   simp only [List.getElem?_map, h1, Option.map_map, Array.getElem?_toList] at this
   simpa [Function.comp_def, h2] using this
  refine ⟨_, _, I, ?_, ⟨rfl, rfl⟩, SelM.set (b := b) (P := P) hst (mset es ks v) (ents.modify j fun e => { e with key := mkv P kt ks, val := v }) clock ?_ hkeys⟩
  ·simp only [execOp, hf.eval hx, hf.eval hy, hf.eval hv, Instr.mapUpdate, Sem.run_bind, run_und (P := P) (t := t), Result.andThen_ok, getObj, setObj, Sem.run, hb, hck, hfk, hp, Sem.run_pure, hent, Option.getD_some, Instr.keyThatStays, sameBits_mkv, if_true]
  ·rw [h3 v]
   apply List.ext_getElem?
   intro i
   have hmi := congrArg (fun l => l[i]?) hm
   simp only [List.getElem?_map, Array.getElem?_toList] at hmi
   simp only [List.getElem?_map, Array.getElem?_toList, Array.getElem?_modify, List.getElem?_set]
   by_cases hij : j = i
   ·subst hij
    have : ents[j]? = some ents[j] := by simp [hlen, hj]
    simp [this, hj]
   ·simp only [hij, if_false]
    exact hmi
end
end Go.GL

set_option linter.unusedVariables false
set_option linter.unusedSimpArgs false
namespace Go.GL
section
variable {w0 : World} {n : Nat} {F : Frm} {A : List Asrt} {I : List Chunk} {P : Program}
variable {dst : Option Tmp} {ty : TypeId} {pos : String} {af : Array Edge} {gd : Option (Nat × Bool)}
variable {x y : Operand} {xt yt : TypeId}
theorem opv_notD {p : Prop} [Decidable p] (hx : ev F x = some (.bool (decide p))) : OpV P w0 n ⟨dst, .unOp .not xt x, ty, pos, af, gd⟩ F A I (.bool (decide (¬ p))) :=
 fun t w hf hs => by simp [execOp, hf.eval hx, Op.unary]
section
variable {s by_ : Nat} {z : List Value}
theorem run_equal_bool [TyI P xt .bool s by_ z] (a b : Bool) (w : World) : (Op.equal xt (.bool a) (.bool b)).run P w = .ok (decide (a = b)) w := by
 show (Op.equalIn (_ + 1) xt (.bool a) (.bool b)).run P w = _
 unfold Op.equalIn
 rw [Sem.run_bind, run_und (P := P) (t := xt)]
 cases a <;> cases b <;> simp
theorem opv_eqlB {a b : Bool} [TyI P xt .bool s by_ z] (hx : ev F x = some (.bool a)) (hy : ev F y = some (.bool b)) : OpV P w0 n ⟨dst, .binOp .eql xt x y yt, ty, pos, af, gd⟩ F A I (.bool (decide (a = b))) :=
 fun t w hf hs => by simp only [execOp, hf.eval hx, hf.eval hy, eqGuard_at_bool, binOp, Sem.run_bind, Sem.run_pure, Result.andThen_ok, run_equal_bool]
theorem opv_neqB {a b : Bool} [TyI P xt .bool s by_ z] (hx : ev F x = some (.bool a)) (hy : ev F y = some (.bool b)) : OpV P w0 n ⟨dst, .binOp .neq xt x y yt, ty, pos, af, gd⟩ F A I (.bool (decide (a ≠ b))) :=
 fun t w hf hs => by
  have e : (!decide (a = b)) = decide (a ≠ b) := by simp
  simp only [execOp, hf.eval hx, hf.eval hy, eqGuard_at_bool, binOp, Sem.run_bind, Sem.run_pure, Result.andThen_ok, run_equal_bool, e]
end
/-- '1 << b'. -/
theorem opv_shl1 {b : Int} {yk : IntKind} (hx : ev F x = some (.int .i64 1)) (hy : ev F y = some (.int yk b)) (hb : 0 ≤ b) (hb2 : b ≤ 62) : OpV P w0 n ⟨dst, .binOp .shl xt x y yt, ty, pos, af, gd⟩ F A I (.int .i64 (2 ^ b.toNat)) := by
 refine opv_shl hx hy hb ?_
 have h1 : min b.toNat IntKind.i64.bits = b.toNat := by
  show min b.toNat 64 = b.toNat
  omega
 rw [h1, Int.one_mul]
 have h3 : (2:Nat) ^ b.toNat ≤ 2 ^ 62 := Nat.pow_le_pow_right (by omega) (by omega)
 have h4 : ((2:Int)) ^ b.toNat = ((2 ^ b.toNat : Nat) : Int) := by simp
 rw [h4]
 generalize (2:Nat) ^ b.toNat = k at h3
 exact w64 (by omega) (by omega)
/-! #### places told by plain numbers -/
theorem opv_indexAddrSN {α : Type} [Enc α] {xs : List α} {k : IntKind} {i : Nat} {ix : Operand} {t e : TypeId} {s by_ s' by' : Nat} {z z' : List Value} {d' : TypeDesc} {a : Option Addr} {len cap : Nat} [TyI P t (.slice e) s by_ z] [TyI P e d' s' by' z'] (hx : ev F x = some (.slice a len cap)) (hi : ev F ix = some (.int k (Int.ofNat i))) (h1 : i < len) (hs : SlAt I a xs) (hl : len = xs.length) :
  OpV P w0 n ⟨dst, .indexAddr t x ix, ty, pos, af, gd⟩ F A I (epf a s' i 0) := opv_indexAddrS hx hi (Int.natCast_nonneg i) (Int.ofNat_lt.2 h1) hs hl
theorem opv_indexAddrRN {k : IntKind} {i sz : Nat} {ix : Operand} {t e E : TypeId} {s by_ s' by' : Nat} {z z' cells : List Value} {u : Asrt → List Asrt} {d' : TypeDesc} {a : Option Addr} {len cap : Nat} [SelR A a cap len E sz cells u] [TyI P t (.slice e) s by_ z] [TyI P e d' s' by' z'] (hx : ev F x = some (.slice a len cap)) (hi : ev F ix = some (.int k (Int.ofNat i))) (h1 : i < len) :
  OpV P w0 n ⟨dst, .indexAddr t x ix, ty, pos, af, gd⟩ F A I (epf a s' i 0) := opv_indexAddrR hx hi (Int.natCast_nonneg i) (Int.ofNat_lt.2 h1)
theorem opv_remE {a b : Int} (hx : ev F x = some (.int .i64 a)) (hy : ev F y = some (.int .i64 b)) (ha : 0 ≤ a) (hb : 0 < b) : OpV P w0 n ⟨dst, .binOp .rem xt x y yt, ty, pos, af, gd⟩ F A I (.int .i64 (a % b)) :=
 opv_rem hx hy (by omega) (Int.tmod_eq_emod_of_nonneg ha)
theorem opv_quoE {a b : Int} (hx : ev F x = some (.int .i64 a)) (hy : ev F y = some (.int .i64 b)) (ha : 0 ≤ a) (hb : 0 < b) (ha2 : a < 9223372036854775808) : OpV P w0 n ⟨dst, .binOp .quo xt x y yt, ty, pos, af, gd⟩ F A I (.int .i64 (a / b)) :=
 opv_quo hx hy (by omega) (by
  rw [Int.tdiv_eq_ediv_of_nonneg ha]
  have h1 : a / b ≤ a := Int.ediv_le_self b ha
  have h2 : 0 ≤ a / b := Int.ediv_nonneg ha (by omega)
  generalize a / b = q at h1 h2
  exact w64 (by omega) (by omega))
/-- A slice to be read, with its room. -/
structure StA {α : Type} [Enc α] (I : List Chunk) (a : Option Addr) (cap : Nat) (xs : List α) : Prop where
 sl : SlAt I a xs
 le : xs.length ≤ cap
theorem StA.mono {α : Type} [Enc α] {I J : List Chunk} {a : Option Addr} {cap : Nat} {xs : List α} (h : StA I a cap xs) (hs : I ⊆ J) : StA J a cap xs := ⟨h.sl.mono hs, h.le⟩
theorem StA.nil {α : Type} [Enc α] {I : List Chunk} {a : Option Addr} {cap : Nat} : StA I a cap ([] : List α) := ⟨SlAt.nil, Nat.zero_le _⟩
theorem tri_freezeRowC {α : Type} [Enc α] {xs : List α} {E : TypeId} {a : Option Addr} {cap : Nat} {K : Act → World → Prop} (hz : Nat.beq (Enc.sz α) 0 = false) (h : ∀ I', I ⊆ I' → StA I' a cap xs → Tri w0 n F A I' K) : Tri w0 n F (Row a cap xs.length E (Enc.sz α) (encs xs) :: A) I K := by
 by_cases hle : xs.length ≤ cap
 ·exact tri_freezeRow hz fun I' hI hs => h I' hI ⟨hs, hle⟩
 ·intro t w hf hst
  obtain ⟨cs, h1, h2⟩ := hst
  obtain ⟨c, cs', rfl, ⟨hl, ha⟩, hr⟩ := h1.cons_inv
  rcases ha with ⟨_, h3, h4, _⟩ | ⟨_, _, _, _, _, h3, _⟩ <;> omega
/-- A block that will not be written any more is a slice to be read. -/
theorem tri_freezeBoxS {α : Type} [Enc α] (xs : List α) {b : Nat} {cs : List Value} {T : TypeId} {K : Act → World → Prop} (hc : cs = encs xs) (h : ∀ I', I ⊆ I' → SlAt I' (some ⟨b, 0, none⟩) xs → Tri w0 n F A I' K) : Tri w0 n F (Box b cs T :: A) I K := by
 refine tri_freezeBox (h _ (fun _ h => List.mem_cons_of_mem _ h) (.inr ⟨b, 0, rfl, _, T, (0, 0), List.mem_cons_self, fun j v hj => ?_⟩))
 rw [← hc] at hj
 simpa using hj
theorem opv_negE {a : Int} (hx : ev F x = some (.int .i64 a)) (h1 : -9223372036854775808 ≤ -a) (h2 : -a ≤ 9223372036854775807) : OpV P w0 n ⟨dst, .unOp .neg xt x, ty, pos, af, gd⟩ F A I (.int .i64 (-a)) :=
 opv_neg hx (by rw [Int.zero_sub]; exact w64 (by omega) (by omega))
/-! #### what is held, in another order -/
theorem range_filterMap (A : List Asrt) : ∀ n, (List.range n).filterMap (A[·]?) = A.take n
 | 0 => by simp
 | n + 1 => by
  rw [List.range_succ, List.filterMap_append, range_filterMap A n, List.take_add_one]
  cases h : A[n]? <;> simp [h]
theorem permL (σ : List Nat) (ys T : List Asrt) (hσ : σ.Perm (List.range σ.length)) (hl : ys.length = σ.length) : (ys ++ T).Perm (σ.filterMap (ys[·]?) ++ T) := by
 have h1 := hσ.filterMap (ys[·]?)
 rw [range_filterMap, ← hl, List.take_length] at h1
 exact (h1.symm).append_right T
variable {Q : Exit → Act → World → Prop} {ops : Array Oper} {rest : List Oper} {d : Nat}
/-! #### A guard that was not made itself -/
theorem yielded_u {t : Array Value} (hf : Fr t n F) {j dj : Nat} (hj : (ops[j]?).bind (·.dst) = some dj) (hv : look F dj = some undef) : yielded ops t j = none := by
 unfold yielded
 rw [hj, Option.bind_some, hf.get dj _ hv]
 rfl
theorem tri_guard_skip_u {op : Op} {j dj : Nat} {c : Bool} (hj : (ops[j]?).bind (·.dst) = some dj) (hv : look F dj = some undef) (hn : dOk n ⟨dst, op, ty, pos, af, none⟩ = true)
  (k : Tri w0 n (putF dst undef F) A I (wpList P ops Q rest)) : Tri w0 n F A I (wpList P ops Q (⟨dst, op, ty, pos, af, some (j, c)⟩ :: rest)) := by
 intro t w hf hs
 have hy := yielded_u (ops := ops) hf hj hv
 unfold wpList
 rw [if_neg (by simp [Region.wanted, hy]), act_put]
 exact k _ _ (hf.putF (o := ⟨dst, op, ty, pos, af, none⟩) hn undef) hs
theorem th_skip_u {B : List Asrt} {J : List Chunk} {i j dj : Nat} {c : Bool} {ord : List Nat} {listed : Array Bool} {op : Op} (ho : ops[i]? = some ⟨some d, op, ty, pos, af, some (j, c)⟩) (hn : Nat.blt d n = true)
  (hj : (ops[j]?).bind (·.dst) = some dj) (hv : look F dj = some undef)
  (hfree : (Region.noSelect ops && Region.free .any ops listed i && (Region.ready .any ops listed).contains i) = true) [hQ : QP Q]
  (k : TriH P w0 n ops Q B J ord (listed.setIfInBounds i true) ((d, undef) :: F) A I) : TriH P w0 n ops Q B J (i :: ord) listed F A I := by
 simp only [Bool.and_eq_true] at hfree
 intro t w hf hs hS
 refine wpAnyH_take (v := undef) ho hfree.1.1 hfree.1.2 hfree.2 (fun c a w h => hQ.h c _ _ w (by cases a; rfl) h) (.inr ⟨by simp [Region.wanted, yielded_u (ops := ops) hf hj hv], rfl⟩) hS ?_
 exact k _ _ (hf.put d (Nat.le_of_ble_eq_true hn) undef) hs hS
theorem step_skip_u {B : List Asrt} {J : List Chunk} {i j dj : Nat} {c : Bool} {ord : List Nat} {listed : Array Bool} {op : Op} (ho : ops[i]? = some ⟨dst, op, ty, pos, af, some (j, c)⟩) (hn : dOk n ⟨dst, op, ty, pos, af, some (j, c)⟩ = true)
  (hj : (ops[j]?).bind (·.dst) = some dj) (hv : look F dj = some undef)
  (k : TriH P w0 n ops Q B J ord (listed.setIfInBounds i true) (putF dst undef F) A I) : Step P w0 n ops Q B J i ord listed F A I := by
 intro t w hf hs hS
 unfold wpOp
 simp only [ho]
 rw [if_neg (by simp [Region.wanted, yielded_u (ops := ops) hf hj hv])]
 refine ⟨hS, ?_⟩
 rw [act_put]
 exact k _ _ (hf.putF (o := ⟨dst, op, ty, pos, af, some (j, c)⟩) hn undef) hs hS
end
end Go.GL

set_option linter.unusedVariables false
set_option linter.unusedSimpArgs false
namespace Go.GL
open Enc (enc)
theorem encs_drop {α : Type} [Enc α] (xs : List α) {l : Nat} (hl : l ≤ xs.length) (j : Nat) : (encs (xs.drop l))[j]? = (encs xs)[l * Enc.sz α + j]? := by
 have h1 : encs xs = encs (xs.take l) ++ encs (xs.drop l) := by rw [← encs_append, List.take_append_drop]
 have h2 : (encs (xs.take l)).length = l * Enc.sz α := by rw [encs_length, List.length_take, Nat.min_eq_left hl]
 rw [h1, List.getElem?_append_right (by omega), h2]
 congr 1
 omega
theorem encs_take {α : Type} [Enc α] (xs : List α) (l j : Nat) (v : Value) (h : (encs (xs.take l))[j]? = some v) : (encs xs)[j]? = some v := by
 have h1 : encs xs = encs (xs.take l) ++ encs (xs.drop l) := by rw [← encs_append, List.take_append_drop]
 rw [h1, List.getElem?_append_left (List.getElem?_eq_some_iff.1 h).1]
 exact h
theorem SlAt.take {α : Type} [Enc α] {I : List Chunk} {a : Option Addr} {xs : List α} (h : SlAt I a xs) (l : Nat) : SlAt I a (xs.take l) := by
 rcases h with rfl | ⟨b, off, rfl, cs, T, fz, hm, hc⟩
 ·exact .inl (by simp)
 ·exact .inr ⟨b, off, rfl, cs, T, fz, hm, fun j v hj => hc j v (encs_take xs l j v hj)⟩
theorem tk_intro : ∀ {n off : Nat} {cs vs : List Value}, vs.length = n → 0 < n → (∀ j, j < n → cs[off + j]? = vs[j]?) → tk cs off n = some vs
 | 0, _, cs, vs, _, h0, _ => absurd h0 (by omega)
 | n + 1, 0, cs, vs, h, _, hj => by
  cases vs with
  | nil => simp at h
  | cons v vs =>
   have h0 := hj 0 (by omega)
   cases cs with
   | nil => simp at h0
   | cons c cs =>
    simp only [Nat.add_zero, List.getElem?_cons_zero, Option.some.injEq] at h0
    subst h0
    have : tk cs 0 n = some vs := by
     rcases Nat.eq_zero_or_pos n with rfl | hn
     ·have : vs = [] := List.eq_nil_of_length_eq_zero (by simpa using h)
      subst this
      cases cs <;> rfl
     ·exact tk_intro (n := n) (off := 0) (cs := cs) (vs := vs) (by simpa using h) hn (fun j hj' => by have := hj (j + 1) (by omega); simpa using this)
    simp [tk, this]
 | n + 1, off + 1, cs, vs, h, _, hj => by
  cases cs with
  | nil =>
   cases vs with
   | nil => simp at h
   | cons v vs => have h0 := hj 0 (by omega); simp at h0
  | cons c cs =>
   have := tk_intro (n := n + 1) (off := off) (cs := cs) (vs := vs) h (by omega) (fun j hj' => by have := hj j hj'; rw [show off + 1 + j = (off + j) + 1 by omega] at this; simpa using this)
   simpa [tk] using this
section
variable {w0 : World} {n : Nat} {F : Frm} {A : List Asrt} {I : List Chunk} {P : Program}
variable {dst : Option Tmp} {ty : TypeId} {pos : String} {af : Array Edge} {gd : Option (Nat × Bool)}
variable {x y ix : Operand} {t e E : TypeId} {d d' : TypeDesc} {s by_ s' by' : Nat} {z z' : List Value} {a : Option Addr} {len cap : Nat}
/-- A place of an array that is a value. -/
theorem opv_index {vs : List Value} {l2 : Nat} {k : IntKind} {i : Int} {v : Value} [TyI P t (.array l2 e) s by_ z] [TyI P e d' s' by' z'] (hx : ev F x = some (.agg vs.toArray)) (hi : ev F ix = some (.int k i)) (h0 : 0 ≤ i) (h1 : i < l2) (hd : isA d' = false) (hv : vs[i.toNat * s']? = some v) :
  OpV P w0 n ⟨dst, .index t x ix, ty, pos, af, gd⟩ F A I v := by
 intro tt w hf hs
 simp [execOp, hf.eval hx, hf.eval hi, Instr.index, asIntOf, run_und (P := P) (t := t), h0, h1, run_size (P := P) (t := e), part, run_isA (P := P) (t := e), hd, hv]
theorem opv_makeFunc {f : Fn} {fs cs : List Operand} {vf vc : List Value} (hf1 : fs.map (ev F) = vf.map some) (hc : cs.map (ev F) = vc.map some) : OpV P w0 n ⟨dst, .makeFunc f fs.toArray cs.toArray, ty, pos, af, gd⟩ F A I (.func f vf.toArray vc.toArray) := by
 intro tt w hf hs
 have e1 := evs hf hf1
 have e2 := evs hf hc
 simp only [execOp, Instr.makeFunc, e1, e2, Sem.run_bind, Sem.run_pure, Result.andThen_ok]
/-- Is the slice nil? -/
theorem opv_eqlNil {len2 cap2 : Nat} [TyI P t (.slice e) s by_ z] {yt : TypeId} (hx : ev F x = some (.slice a len cap)) (hy : ev F y = some (.slice none len2 cap2)) : OpV P w0 n ⟨dst, .binOp .eql t x y yt, ty, pos, af, gd⟩ F A I (.bool a.isNone) := by
 intro tt w hf hs
 have he : (Op.equal t (.slice a len cap) (.slice none len2 cap2)).run P w = .ok a.isNone w := by
  show (Op.equalIn (_ + 1) t _ _).run P w = _
  unfold Op.equalIn
  rw [Sem.run_bind, run_und (P := P) (t := t)]
  cases a <;> simp
 simp only [execOp, hf.eval hx, hf.eval hy, eqGuard_at_slice, binOp, Sem.run_bind, Sem.run_pure, Result.andThen_ok, he]
/-- 'x[:h]'. -/
theorem opv_sliceHi {α : Type} [Enc α] {xs : List α} {hi : Operand} {k : IntKind} {h : Int} [TyI P t (.slice e) s by_ z] [TyI P e d' s' by' z'] (hx : ev F x = some (.slice a len cap)) (hh : ev F hi = some (.int k h)) (h0 : 0 ≤ h) (h1 : h ≤ len) (hs : StA I a cap xs) (hl : len = xs.length) :
  OpV P w0 n ⟨dst, .slice t x none (some hi) none, ty, pos, af, gd⟩ F A I (.slice a (xs.take h.toNat).length cap) := by
 intro tt w hf hst
 have hle := hs.le
 have hc : h ≤ cap := by omega
 have hlen : (xs.take h.toNat).length = h.toNat := by rw [List.length_take]; omega
 have ha : (if cap = 0 then a else a.map (fun q => q.add (0 * s'))) = a := by
  split
  ·rfl
  ·rcases hs.sl with rfl | ⟨b, off, rfl, _⟩
   ·cases a with
    | none => rfl
    | some q => cases q with
     | mk bl of pa => cases pa <;> simp [Addr.add]
   ·simp [add_pt]
 rw [hlen]
 simp [execOp, hf.eval hx, hf.eval hh, Instr.sliceAt, Instr.slice, run_und (P := P) (t := t), Instr.sliceBounds, Instr.sliceBound, asIntOf, h0, hc, run_size (P := P) (t := e)]
 simpa using ha
/-- 'x[l:]'. -/
theorem opg_sliceLo {α : Type} [Enc α] {xs : List α} {lo : Operand} {k : IntKind} {l : Int} [TyI P t (.slice e) s by_ z] [TyI P e d' s' by' z'] (hx : ev F x = some (.slice a len cap)) (hh : ev F lo = some (.int k l)) (h0 : 0 ≤ l) (h1 : l ≤ len) (hs : StA I a cap xs) (hl : len = xs.length) (hz : Enc.sz α = s') :
  OpG P w0 n ⟨dst, .slice t x (some lo) none none, ty, pos, af, gd⟩ F A I (fun v A' I' => ∃ a', v = .slice a' (xs.drop l.toNat).length (cap - l.toNat) ∧ StA I a' (cap - l.toNat) (xs.drop l.toNat) ∧ A = A' ∧ I = I') := by
 refine opg_run fun tt w hf hst => ?_
 have hle := hs.le
 have hlen : (xs.drop l.toNat).length = len - l.toNat := by rw [List.length_drop]; omega
 refine ⟨.slice (if cap = l.toNat then a else a.map (fun q => q.add (l.toNat * s'))) (len - l.toNat) (cap - l.toNat), w, A, I, ?_, ⟨_, by rw [hlen], ?_, rfl, rfl⟩, hst⟩
 ·simp [execOp, hf.eval hx, hf.eval hh, Instr.sliceAt, Instr.slice, run_und (P := P) (t := t), Instr.sliceBounds, Instr.sliceBound, asIntOf, h0, h1, run_size (P := P) (t := e)]
 ·refine ⟨?_, by rw [hlen]; omega⟩
  split
  ·left
   exact List.drop_of_length_le (by omega)
  ·rcases hs.sl with rfl | ⟨b, off, rfl, cs, T, fz, hm, hc⟩
   ·exact .inl (by simp)
   ·refine .inr ⟨b, off + l.toNat * s', by simp [add_pt], cs, T, fz, hm, fun j v hj => ?_⟩
    rw [encs_drop xs (by omega), hz] at hj
    rw [Nat.add_assoc]
    exact hc _ v hj
/-- Loads out of a row whose cells are told as plain things. -/
theorem opv_loadRX1 {α : Type} [Enc α] [Inhabited α] {xs : List α} {i fo sz : Nat} {v : Value} {u : Asrt → List Asrt} [SelR A a cap len E sz (encs xs) u] [TyI P t d s by_ z] (hx : ev F x = some (epf a sz i fo)) (hz : Enc.sz α = sz) (hi : i < xs.length) (hd : isA d = false) (hv : (enc (xs.getD i default))[fo]? = some v) : OpV P w0 n ⟨dst, .load t x, ty, pos, af, gd⟩ F A I v := by
 subst hz
 have hfo : fo < Enc.sz α := by have := (List.getElem?_eq_some_iff.1 hv).1; rwa [Enc.hlen] at this
 exact opv_loadR1 (gd := gd) hx hd (by rw [encs_get xs i fo hi hfo, hv])
theorem opv_loadRXA {α : Type} [Enc α] [Inhabited α] {xs : List α} {i fo sz : Nat} {vs : List Value} {u : Asrt → List Asrt} [SelR A a cap len E sz (encs xs) u] [TyI P t d s by_ z] (hx : ev F x = some (epf a sz i fo)) (hz : Enc.sz α = sz) (hi : i < xs.length) (hd : isA d = true) (h0 : Nat.blt 0 s = true) (hv : tk (enc (xs.getD i default)) fo s = some vs) : OpV P w0 n ⟨dst, .load t x, ty, pos, af, gd⟩ F A I (.agg vs.toArray) := by
 subst hz
 obtain ⟨h1, h2⟩ := tk_spec hv
 refine opv_loadRA (gd := gd) hx hd h0 (tk_intro h1 (Nat.le_of_ble_eq_true h0) fun j hj => ?_)
 have hlt : fo + j < Enc.sz α := by
  have : (enc (xs.getD i default))[fo + j]? = some vs[j] := by rw [h2 j hj]; simp [show j < vs.length by omega]
  have := (List.getElem?_eq_some_iff.1 this).1
  rwa [Enc.hlen] at this
 rw [Nat.add_assoc, encs_get xs i (fo + j) hi hlt, h2 j hj]
/-- A whole number out of a block of such. -/
theorem opv_loadIX {l : List Int} {b off : Nat} {T : TypeId} {u : List Value → List Asrt} [TyI P t d s by_ z] [Sel A b (ints l) T u] (hx : ev F x = some (pt b off)) (hd : isA d = false) (hl : off < l.length) : OpV P w0 n ⟨dst, .load t x, ty, pos, af, gd⟩ F A I (.int .i64 (l.getD off default)) :=
 opv_load1 (gd := gd) hx hd (by simp [ints, hl])
/-- A block of one's own as a slice's row. -/
theorem tri_boxRow {b sz k : Nat} {cs : List Value} {T : TypeId} {K : Act → World → Prop} (hl : cs.length = k * sz) (h : Tri w0 n F (Row (some ⟨b, 0, none⟩) k k T sz cs :: A) I K) : Tri w0 n F (Box b cs T :: A) I K :=
 tri_weaken (fun c hc => ⟨hl, .inr ⟨b, cs.toArray, rfl, hc, by simpa using hl, Nat.le_refl _, by simp [← hl]⟩⟩) h
end
end Go.GL

set_option linter.unusedVariables false
namespace Go.GL

/-! ### The program's data, as plain data -/
structure Node where
 lv : Int
 k0 : Int
 k1 : Int
 k2 : Int
 k3 : Int
 pop : Int
 deriving DecidableEq, Inhabited
def Node.kids (x : Node) : List Int := [x.k0, x.k1, x.k2, x.k3]
instance : Enc Node := ⟨fun x => [.int .i64 x.lv, .int .i64 x.k0, .int .i64 x.k1, .int .i64 x.k2, .int .i64 x.k3, .int .i64 x.pop], 6, fun _ => rfl, fun _ => rfl⟩
structure Cell where
 x : Int
 y : Int
 deriving DecidableEq, Inhabited
instance : Enc Cell := ⟨fun c => [.int .i64 c.x, .int .i64 c.y], 2, fun _ => rfl, fun _ => rfl⟩

/-! ### Layer 6, as the document has it -/
namespace R6
def atFrom (k : List Int) : Nat → List Node → Int
 | _, [] => -1
 | i, x :: xs => if x.kids = k then i else atFrom k (i + 1) xs
def at_ (ns : List Node) (k : List Int) : Int := atFrom k 2 (ns.drop 2)
/-- The node at a place. -/
def nd (ns : List Node) (k : Int) : Node := ns.getD k.toNat default
def inS (ns : List Node) (k : Int) : Prop := 0 ≤ k ∧ k < ns.length
instance (ns : List Node) (k : Int) : Decidable (inS ns k) := inferInstanceAs (Decidable (_ ∧ _))
def mn (a b : Int) : Int := if b < a then b else a
def cap62 : Int := 4611686018427387903
def pop4 (ns : List Node) (q0 q1 q2 q3 : Int) : Int := mn (mn (mn (mn (0 + (nd ns q0).pop) cap62 + (nd ns q1).pop) cap62 + (nd ns q2).pop) cap62 + (nd ns q3).pop) cap62
/-- Four nodes of one level, that have room above them. -/
def fit4 (ns : List Node) (q0 q1 q2 q3 : Int) : Prop := inS ns q0 ∧ (inS ns q1 ∧ (nd ns q1).lv = (nd ns q0).lv) ∧ (inS ns q2 ∧ (nd ns q2).lv = (nd ns q0).lv) ∧ (inS ns q3 ∧ (nd ns q3).lv = (nd ns q0).lv) ∧ (nd ns q0).lv + 1 ≤ 42
instance (ns : List Node) (q0 q1 q2 q3 : Int) : Decidable (fit4 ns q0 q1 q2 q3) := inferInstanceAs (Decidable (_ ∧ _))
def mk4 (ns : List Node) (q0 q1 q2 q3 : Int) : Node := ⟨(nd ns q0).lv + 1, q0, q1, q2, q3, pop4 ns q0 q1 q2 q3⟩
def put (ns : List Node) (room : Int) (q0 q1 q2 q3 : Int) : List Node × Int × Int :=
 if fit4 ns q0 q1 q2 q3 then
  if 0 ≤ at_ ns [q0, q1, q2, q3] then (ns, at_ ns [q0, q1, q2, q3], 0)
  else if room ≤ ns.length then (ns, 0, 40) else (ns ++ [mk4 ns q0 q1 q2 q3], ns.length, 0)
 else (ns, 0, 1)
/-- What nodes' numbers keep to. -/
def Mod (ns : List Node) : Prop := ∀ x ∈ ns, 0 ≤ x.lv ∧ x.lv ≤ 42 ∧ 0 ≤ x.pop ∧ x.pop ≤ cap62
theorem Mod.nd {ns : List Node} (h : Mod ns) {k : Int} (hk : inS ns k) : 0 ≤ (nd ns k).lv ∧ (nd ns k).lv ≤ 42 ∧ 0 ≤ (nd ns k).pop ∧ (nd ns k).pop ≤ cap62 := by
 have hlt : k.toNat < ns.length := by obtain ⟨h1, h2⟩ := hk; omega
 have : R6.nd ns k = ns[k.toNat] := by simp [R6.nd, hlt]
 rw [this]
 exact h _ (List.getElem_mem hlt)
theorem Mod.at {ns : List Node} (h : Mod ns) {k : Int} (h1 : ¬ k < 0) (h2 : ¬ (ns.length : Int) ≤ k) : 0 ≤ (ns.getD k.toNat default).lv ∧ (ns.getD k.toNat default).lv ≤ 42 ∧ 0 ≤ (ns.getD k.toNat default).pop ∧ (ns.getD k.toNat default).pop ≤ 4611686018427387903 :=
 h.nd ⟨by omega, by omega⟩
theorem mn_bd {x : Int} (h : 0 ≤ x) : 0 ≤ (if 4611686018427387903 < x then 4611686018427387903 else x) ∧ (if 4611686018427387903 < x then 4611686018427387903 else x) ≤ 4611686018427387903 := by
 split <;> omega
end R6
/-- A store as a value. -/
abbrev storeV (a : Option Addr) (len cap : Nat) (room : Int) : Value := .agg [.slice a len cap, .int .i64 room].toArray
abbrev int4V (q0 q1 q2 q3 : Int) : Value := .agg [.int .i64 q0, .int .i64 q1, .int .i64 q2, .int .i64 q3].toArray
end Go.GL

set_option linter.unusedVariables false
namespace Go.GL
theorem Node.ext_iff' {a b : Node} : a = b ↔ [a.lv, a.k0, a.k1, a.k2, a.k3, a.pop] = [b.lv, b.k0, b.k1, b.k2, b.k3, b.pop] := by
 cases a; cases b; simp
theorem Node.ne_iff' {a b : Node} : a ≠ b ↔ [a.lv, a.k0, a.k1, a.k2, a.k3, a.pop] ≠ [b.lv, b.k0, b.k1, b.k2, b.k3, b.pop] := by rw [Ne, Node.ext_iff']
abbrev nodeV (x : Node) : Value := .agg [.int .i64 x.lv, .int .i64 x.k0, .int .i64 x.k1, .int .i64 x.k2, .int .i64 x.k3, .int .i64 x.pop].toArray
namespace R6
def kidOk (ns : List Node) (n : Nat) (q lv : Int) : Prop := 0 ≤ q ∧ q < n ∧ (nd ns q).lv = lv - 1
instance (ns : List Node) (n : Nat) (q lv : Int) : Decidable (kidOk ns n q lv) := inferInstanceAs (Decidable (_ ∧ _))
def fitsX (ns : List Node) (n : Nat) (x : Node) : Prop := kidOk ns n x.k0 x.lv ∧ kidOk ns n x.k1 x.lv ∧ kidOk ns n x.k2 x.lv ∧ kidOk ns n x.k3 x.lv ∧ 1 ≤ x.lv ∧ x.lv ≤ 42 ∧ x.pop = pop4 ns x.k0 x.k1 x.k2 x.k3 ∧ at_ ns x.kids = n
instance (ns : List Node) (n : Nat) (x : Node) : Decidable (fitsX ns n x) := inferInstanceAs (Decidable (_ ∧ _))
def fits (ns : List Node) (n : Nat) : Prop := fitsX ns n (ns.getD n default)
instance (ns : List Node) (n : Nat) : Decidable (fits ns n) := inferInstanceAs (Decidable (fitsX _ _ _))
def n0 : Node := ⟨0, 0, 0, 0, 0, 0⟩
def n1 : Node := ⟨0, 0, 0, 0, 0, 1⟩
def right (ns : List Node) (room : Int) : Prop := (2 ≤ room ∧ room ≤ 100000 ∧ 2 ≤ ns.length ∧ ns.length ≤ room ∧ ns.getD 0 default = n0 ∧ ns.getD 1 default = n1) ∧ ∀ i, i < ns.length → 2 ≤ i → fits ns i
instance (ns : List Node) (room : Int) : Decidable (right ns room) := inferInstanceAs (Decidable (_ ∧ _))
def Rng (ns : List Node) : Prop := ∀ x ∈ ns, -9223372036854775808 ≤ x.lv ∧ x.lv ≤ 9223372036854775807
def ModTo (ns : List Node) (n : Nat) : Prop := ∀ j, j < n → 0 ≤ (ns.getD j default).lv ∧ (ns.getD j default).lv ≤ 42 ∧ 0 ≤ (ns.getD j default).pop ∧ (ns.getD j default).pop ≤ 4611686018427387903
theorem ModTo.at {ns : List Node} {n : Nat} (h : ModTo ns n) {k : Int} (h1 : ¬ k < 0) (h2 : ¬ (n : Int) ≤ k) : 0 ≤ (ns.getD k.toNat default).lv ∧ (ns.getD k.toNat default).lv ≤ 42 ∧ 0 ≤ (ns.getD k.toNat default).pop ∧ (ns.getD k.toNat default).pop ≤ 4611686018427387903 := h k.toNat (by omega)
theorem wrapNe {u v : Int} (h1 : 0 ≤ u) (h2 : u ≤ 42) (h3 : -9223372036854775808 ≤ v) (h4 : v ≤ 9223372036854775807) : (u ≠ IntKind.i64.wrap (v - 1)) ↔ u ≠ v - 1 := by
 by_cases e : v = -9223372036854775808
 ·subst e
  have : IntKind.i64.wrap (-9223372036854775808 - 1) = 9223372036854775807 := by decide
  rw [this]
  omega
 ·rw [w64 (by omega) (by omega)]
theorem pop4_bd {ns : List Node} {n : Nat} (h : ModTo ns n) {q0 q1 q2 q3 : Int} (h3 : 0 ≤ q3 ∧ q3 < n) (h0 : 0 ≤ q0 ∧ q0 < n) (h1 : 0 ≤ q1 ∧ q1 < n) (h2 : 0 ≤ q2 ∧ q2 < n) : 0 ≤ pop4 ns q0 q1 q2 q3 ∧ pop4 ns q0 q1 q2 q3 ≤ 4611686018427387903 := by
 have b0 := (h q0.toNat (by omega)).2.2
 have b1 := (h q1.toNat (by omega)).2.2
 have b2 := (h q2.toNat (by omega)).2.2
 have b3 := (h q3.toNat (by omega)).2.2
 unfold pop4 nd cap62
 have e0 := mn_bd (x := 0 + (ns.getD q0.toNat default).pop) (by omega)
 unfold mn
 generalize (if 4611686018427387903 < 0 + (ns.getD q0.toNat default).pop then (4611686018427387903 : Int) else 0 + (ns.getD q0.toNat default).pop) = p0 at *
 have e1 := mn_bd (x := p0 + (ns.getD q1.toNat default).pop) (by omega)
 generalize (if 4611686018427387903 < p0 + (ns.getD q1.toNat default).pop then (4611686018427387903 : Int) else p0 + (ns.getD q1.toNat default).pop) = p1 at *
 have e2 := mn_bd (x := p1 + (ns.getD q2.toNat default).pop) (by omega)
 generalize (if 4611686018427387903 < p1 + (ns.getD q2.toNat default).pop then (4611686018427387903 : Int) else p1 + (ns.getD q2.toNat default).pop) = p2 at *
 exact mn_bd (x := p2 + (ns.getD q3.toNat default).pop) (by omega)
theorem ModTo.step {ns : List Node} {n : Nat} (h : ModTo ns n) (hf : fits ns n) : ModTo ns (n + 1) := by
 intro j hj
 by_cases e : j = n
 ·subst e
  obtain ⟨⟨a0, b0, _⟩, ⟨a1, b1, _⟩, ⟨a2, b2, _⟩, ⟨a3, b3, _⟩, h5, h6, h7, _⟩ := hf
  have := pop4_bd h ⟨a3, b3⟩ ⟨a0, b0⟩ ⟨a1, b1⟩ ⟨a2, b2⟩
  rw [h7]
  exact ⟨by omega, h6, this⟩
 ·exact h j (by omega)
theorem right.modTo {ns : List Node} {room : Int} (h : right ns room) : ModTo ns ns.length := by
 have key : ∀ n, n ≤ ns.length → ModTo ns n := by
  intro n
  induction n with
  | zero => intro _ j hj; omega
  | succ n ih =>
   intro hn
   have hm := ih (by omega)
   by_cases h2 : 2 ≤ n
   ·exact hm.step (h.2 n (by omega) h2)
   ·intro j hj
    have h0 := h.1.2.2.2.2.1
    have h1 := h.1.2.2.2.2.2
    rcases (by omega : j = 0 ∨ j = 1) with rfl | rfl
    ·rw [h0]; decide
    ·rw [h1]; decide
 exact key _ (Nat.le_refl _)
theorem ModTo.mod {ns : List Node} (h : ModTo ns ns.length) : Mod ns := by
 intro x hx
 obtain ⟨i, hi, rfl⟩ := List.getElem_of_mem hx
 have := h i hi
 simpa [hi, cap62] using this
end R6
end Go.GL

set_option linter.unusedVariables false
namespace Go.GL
abbrev cellV (c : Cell) : Value := .agg [.int .i64 c.x, .int .i64 c.y].toArray
theorem Cell.ext_iff' {a b : Cell} : a = b ↔ [a.x, a.y] = [b.x, b.y] := by
 cases a; cases b; simp
theorem Cell.ne_iff' {a b : Cell} : a ≠ b ↔ [a.x, a.y] ≠ [b.x, b.y] := by rw [Ne, Cell.ext_iff']
/-! ### Layer 1, as the document has it -/
namespace R1
def inB (c : Cell) : Prop := -1099511627776 ≤ c.x ∧ c.x ≤ 1099511627776 ∧ -1099511627776 ≤ c.y ∧ c.y ≤ 1099511627776
instance (c : Cell) : Decidable (inB c) := inferInstanceAs (Decidable (_ ∧ _))
def less (a b : Cell) : Prop := a.y < b.y ∨ a.y = b.y ∧ a.x < b.x
instance (a b : Cell) : Decidable (less a b) := inferInstanceAs (Decidable (_ ∨ _))
def g (l : List Cell) (i : Nat) : Cell := l.getD i default
def okAt (l : List Cell) (i : Nat) : Prop := inB (g l i) ∧ (0 < i → less (g l (i - 1)) (g l i))
instance (l : List Cell) (i : Nat) : Decidable (okAt l i) := inferInstanceAs (Decidable (_ ∧ _))
def right (l : List Cell) : Prop := (∀ i, i < l.length → okAt l i) ∧ l.length ≤ 2000
instance (l : List Cell) : Decidable (right l) := inferInstanceAs (Decidable (_ ∧ _))
def putF (c : Cell) : Bool → List Cell → List Cell
 | done, [] => if done = true then [] else [c]
 | done, a :: l => if done = false ∧ (a = c ∨ less c a) then (if a ≠ c then c :: a :: putF c true l else c :: putF c true l) else (if a ≠ c then a :: putF c done l else putF c done l)
def put (l : List Cell) (c : Cell) : List Cell := putF c false l
/-- What 'Of' makes of a list: its cells put one by one. -/
def puts (l : List Cell) : List Cell := l.foldl put []
def of (l : List Cell) : List Cell × Int :=
 if ∀ i, i < l.length → inB (g l i) then (if 2000 < (puts l).length then ([], 3) else (puts l, 0)) else ([], 2)
theorem putF_len (c : Cell) : ∀ (l : List Cell) (d : Bool), (putF c d l).length ≤ l.length + 1
 | [], d => by simp only [putF]; split <;> simp
 | a :: l, d => by
  have h1 := putF_len c l true
  have h2 := putF_len c l d
  have h3 := putF_lenT c l
  simp only [putF]
  split <;> split <;> simp only [List.length_cons] <;> omega
 where putF_lenT (c : Cell) : ∀ (l : List Cell), (putF c true l).length ≤ l.length
 | [] => by simp [putF]
 | a :: l => by
  have := putF_lenT c l
  simp only [putF]
  split <;> split <;> simp_all only [List.length_cons] <;> first | omega | simp_all
theorem put_len (l : List Cell) (c : Cell) : (put l c).length ≤ l.length + 1 := putF_len c l false
end R1
end Go.GL

set_option linter.unusedVariables false
namespace Go.GL
/-! ### Layer 2, as the document has it -/
namespace R2
def lives (alive : Bool) (n : Int) : Bool := decide (n = 3) || alive && decide (n = 2)
def near (c d : Cell) : Prop := -1 ≤ d.x - c.x ∧ d.x - c.x ≤ 1 ∧ -1 ≤ d.y - c.y ∧ d.y - c.y ≤ 1 ∧ d ≠ c
instance (c d : Cell) : Decidable (near c d) := inferInstanceAs (Decidable (_ ∧ _))
def around (l : List Cell) (c : Cell) : Int := ((l.filter fun d => decide (near c d)).length : Nat)
def nb (c : Cell) (k : Nat) : Cell := ⟨c.x + (k : Int) % 3 - 1, c.y + (k : Int) / 3 - 1⟩
def livesAt (l : List Cell) (c : Cell) : Bool := lives (decide (c ∈ l)) (around l c)
/-- What is live of the nine about the cell, from k on. -/
def about (l : List Cell) (c : Cell) : List Cell := ((List.range 9).map (nb c)).filter (livesAt l)
def cands (l : List Cell) : List Cell := l.flatMap (about l)
def next (l : List Cell) : List Cell × Int := if R1.right l then R1.of (cands l) else ([], 1)
theorem about_len (l : List Cell) (c : Cell) : (about l c).length ≤ 9 := by
 have := List.length_filter_le (livesAt l) ((List.range 9).map (nb c))
 simpa [about] using this
theorem cands_len (l m : List Cell) : (m.flatMap (about l)).length ≤ 9 * m.length := by
 induction m with
 | nil => simp
 | cons a m ih =>
  have := about_len l a
  simp only [List.flatMap_cons, List.length_append, List.length_cons]
  omega
def bd (c : Cell) : Prop := -2199023255552 ≤ c.x ∧ c.x ≤ 2199023255552 ∧ -2199023255552 ≤ c.y ∧ c.y ≤ 2199023255552
end R2
end Go.GL

set_option linter.unusedVariables false
namespace Go.GL
/-- What a function that tells a store, a node and an error comes to. -/
def StoreR (r : List Node × Int × Int) (room : Int) (A : List Asrt) (I : List Chunk) : Value → List Asrt → List Chunk → Prop :=
 fun v A' I' => ∃ a' cap', v = .tuple [storeV a' r.1.length cap' room, .int .i64 r.2.1, .int .i64 r.2.2].toArray ∧ StA I' a' cap' r.1 ∧ A = A' ∧ I ⊆ I'
namespace R6
def new (room : Int) : List Node × Int := if room < 2 ∨ 100000 < room then ([], 0) else ([n0, n1], room)
def intern (ns : List Node) (room : Int) (q0 q1 q2 q3 : Int) : List Node × Int × Int := if R6.right ns room then R6.put ns room q0 q1 q2 q3 else (ns, 0, 1)
/-- What a store keeps to while nodes are put. -/
structure Good (ns : List Node) (room : Int) : Prop where
 mod : Mod ns
 len : ns.length ≤ 1000000000
 room : room ≤ 1000000000
theorem mod_ModTo {ns : List Node} (h : Mod ns) : ModTo ns ns.length := by
 intro j hj
 exact h.at (k := j) (by omega) (by omega)
theorem Mod.snoc {ns : List Node} (h : Mod ns) {x : Node} (hx : 0 ≤ x.lv ∧ x.lv ≤ 42 ∧ 0 ≤ x.pop ∧ x.pop ≤ cap62) : Mod (ns ++ [x]) := by
 intro y hy
 rcases List.mem_append.1 hy with hy | hy
 ·exact h y hy
 ·rcases List.mem_singleton.1 hy with rfl
  exact hx
theorem fit4_pop {ns : List Node} (h : Mod ns) {q0 q1 q2 q3 : Int} (hf : fit4 ns q0 q1 q2 q3) : 0 ≤ pop4 ns q0 q1 q2 q3 ∧ pop4 ns q0 q1 q2 q3 ≤ 4611686018427387903 := by
 obtain ⟨a, ⟨b, _⟩, ⟨c, _⟩, ⟨d, _⟩, _⟩ := hf
 exact pop4_bd (mod_ModTo h) d a b c
theorem Good.put {ns : List Node} {room : Int} (h : Good ns room) (q0 q1 q2 q3 : Int) : Good (put ns room q0 q1 q2 q3).1 room := by
 unfold R6.put
 split
 ·rename_i hf
  split
  ·exact h
  ·split
   ·exact h
   ·rename_i h2
    have hp := fit4_pop h.mod hf
    have hl := h.mod.nd hf.1
    refine ⟨h.mod.snoc ⟨?_, hf.2.2.2.2, hp⟩, ?_, h.room⟩
    ·show 0 ≤ (nd ns q0).lv + 1
     omega
    ·have := h.room
     simp only [List.length_append, List.length_singleton]
     omega
 ·exact h
theorem right.good {ns : List Node} {room : Int} (h : right ns room) {r2 : Int} (hr : r2 ≤ 1000000000) : Good ns r2 := by
 have h1 := h.1.2.1
 have h2 := h.1.2.2.2.1
 exact ⟨h.modTo.mod, by omega, hr⟩
end R6
/-! ### Layer 7, as the document has it -/
namespace R7
def side (lv : Int) : Int := 2 ^ (lv - 1).toNat
def inL (lv : Int) (c : Cell) : Prop := -side lv ≤ c.x ∧ c.x < side lv ∧ -side lv ≤ c.y ∧ c.y < side lv
instance (lv : Int) (c : Cell) : Decidable (inL lv c) := inferInstanceAs (Decidable (_ ∧ _))
theorem side_bd {lv : Int} (h2 : lv ≤ 42) : 0 < side lv ∧ side lv ≤ 2199023255552 := by
 unfold side
 have h : (lv - 1).toNat ≤ 41 := by omega
 have h3 : (2:Nat) ^ (lv - 1).toNat ≤ 2 ^ 41 := Nat.pow_le_pow_right (by omega) h
 have h4 : (2:Int) ^ (lv - 1).toNat = ((2 ^ (lv - 1).toNat : Nat) : Int) := by simp
 have h5 : 0 < (2:Nat) ^ (lv - 1).toNat := Nat.pow_pos (by omega)
 rw [h4]
 generalize (2:Nat) ^ (lv - 1).toNat = k at h3 h5
 omega
/-- Where a cell of a square lies: its quarter, and its place there. -/
def qx (half : Int) (c : Cell) : Nat := (if half ≤ c.x then 1 else 0) + (if half ≤ c.y then 2 else 0)
def qc (half : Int) (c : Cell) : Cell := ⟨if half ≤ c.x then c.x - half else c.x, if half ≤ c.y then c.y - half else c.y⟩
def part (half : Int) (k : Nat) (l : List Cell) : List Cell := (l.filter fun c => qx half c == k).map (qc half)
def emptyF (room : Int) : Nat → List Node → Int → List Node × Int × Int
 | 0, ns, n => (ns, n, 0)
 | k + 1, ns, n => if (R6.put ns room n n n n).2.2 ≠ 0 then (ns, 0, (R6.put ns room n n n n).2.2) else emptyF room k (R6.put ns room n n n n).1 (R6.put ns room n n n n).2.1
def empty (ns : List Node) (room : Int) (lv : Nat) : List Node × Int × Int := emptyF room lv ns 0
def build (room : Int) : Nat → List Node → List Cell → List Node × Int × Int
 | lv, ns, [] => empty ns room lv
 | 0, ns, _ :: _ => (ns, 1, 0)
 | lv + 1, ns, c :: l =>
  let r0 := build room lv ns (part (2 ^ lv) 0 (c :: l))
  if r0.2.2 ≠ 0 then (ns, 0, r0.2.2) else
  let r1 := build room lv r0.1 (part (2 ^ lv) 1 (c :: l))
  if r1.2.2 ≠ 0 then (r0.1, 0, r1.2.2) else
  let r2 := build room lv r1.1 (part (2 ^ lv) 2 (c :: l))
  if r2.2.2 ≠ 0 then (r1.1, 0, r2.2.2) else
  let r3 := build room lv r2.1 (part (2 ^ lv) 3 (c :: l))
  if r3.2.2 ≠ 0 then (r2.1, 0, r3.2.2) else
  R6.put r3.1 room r0.2.1 r1.2.1 r2.2.1 r3.2.1
def corner (s : Int) (l : List Cell) : List Cell := l.map fun c => ⟨c.x + s, c.y + s⟩
def make (ns : List Node) (room : Int) (l : List Cell) (lv : Int) : List Node × Int × Int :=
 if R6.right ns room ∧ 1 ≤ lv ∧ lv ≤ 42 ∧ R1.right l then
  if ∀ i, i < l.length → inL lv (R1.g l i) then
   let r := build room lv.toNat ns (corner (side lv) l)
   if r.2.2 ≠ 0 then (ns, 0, r.2.2) else r
  else (ns, 0, 2)
 else (ns, 0, 1)
def flat (ns : List Node) : Nat → Int → Cell → List Cell
 | lv, n, at_ => if (R6.nd ns n).pop = 0 then [] else match lv with
  | 0 => [at_]
  | lv + 1 => flat ns lv (R6.nd ns n).k0 at_ ++ flat ns lv (R6.nd ns n).k1 ⟨at_.x + 2 ^ lv, at_.y⟩ ++ flat ns lv (R6.nd ns n).k2 ⟨at_.x, at_.y + 2 ^ lv⟩ ++ flat ns lv (R6.nd ns n).k3 ⟨at_.x + 2 ^ lv, at_.y + 2 ^ lv⟩
def of (ns : List Node) (n : Int) : List Cell := flat ns (R6.nd ns n).lv.toNat n ⟨-side (R6.nd ns n).lv, -side (R6.nd ns n).lv⟩
end R7
end Go.GL

set_option linter.unusedVariables false
namespace Go.GL
/-! ### Layer 8, as the document has it -/
namespace R8
def may (ns : List Node) (room n lv : Int) : Prop := R6.right ns room ∧ R6.inS ns n ∧ lv ≤ (R6.nd ns n).lv
instance (ns : List Node) (room n lv : Int) : Decidable (may ns room n lv) := inferInstanceAs (Decidable (_ ∧ _))
def s16 (ns : List Node) (n : Int) : List Int :=
 let a := R6.nd ns (R6.nd ns n).k0
 let b := R6.nd ns (R6.nd ns n).k1
 let c := R6.nd ns (R6.nd ns n).k2
 let d := R6.nd ns (R6.nd ns n).k3
 [a.k0, a.k1, b.k0, b.k1, a.k2, a.k3, b.k2, b.k3, c.k0, c.k1, d.k0, d.k1, c.k2, c.k3, d.k2, d.k3]
def g (l : List Int) (i : Int) : Int := l.getD i.toNat default
def putSq (ns : List Node) (room : Int) (l : List Int) (y x : Int) : List Node × Int × Int := R6.put ns room (g l (4 * y + x)) (g l (4 * y + x + 1)) (g l (4 * y + x + 4)) (g l (4 * y + x + 5))
/-- What tells a store, nine nodes and an error. -/
abbrev R9 := List Node × List Int × Int
def z9 : List Int := [0, 0, 0, 0, 0, 0, 0, 0, 0]
def all (ns : List Node) (room n : Int) : R9 :=
 let l := s16 ns n
 let p0 := putSq ns room l 0 0
 if p0.2.2 ≠ 0 then (ns, z9, p0.2.2) else
 let p1 := putSq p0.1 room l 0 1
 if p1.2.2 ≠ 0 then (ns, z9, p1.2.2) else
 let p2 := putSq p1.1 room l 0 2
 if p2.2.2 ≠ 0 then (ns, z9, p2.2.2) else
 let p3 := putSq p2.1 room l 1 0
 if p3.2.2 ≠ 0 then (ns, z9, p3.2.2) else
 let p4 := putSq p3.1 room l 1 1
 if p4.2.2 ≠ 0 then (ns, z9, p4.2.2) else
 let p5 := putSq p4.1 room l 1 2
 if p5.2.2 ≠ 0 then (ns, z9, p5.2.2) else
 let p6 := putSq p5.1 room l 2 0
 if p6.2.2 ≠ 0 then (ns, z9, p6.2.2) else
 let p7 := putSq p6.1 room l 2 1
 if p7.2.2 ≠ 0 then (ns, z9, p7.2.2) else
 let p8 := putSq p7.1 room l 2 2
 if p8.2.2 ≠ 0 then (ns, z9, p8.2.2) else
 (p8.1, [p0.2.1, p1.2.1, p2.2.1, p3.2.1, p4.2.1, p5.2.1, p6.2.1, p7.2.1, p8.2.1], 0)
def about (l : List Int) (y x : Int) : Nat → Int
 | 0 => 0
 | i + 1 => about l y x i + if i = 4 then 0 else g l (4 * (y + (i : Int) / 3 - 1) + x + (i : Int) % 3 - 1)
def bit (l : List Int) (y x : Int) : Int := if R2.lives (decide (g l (4 * y + x) = 1)) (about l y x 9) = true then 1 else 0
def one (ns : List Node) (room n : Int) : List Node × Int × Int := R6.put ns room (bit (s16 ns n) 1 1) (bit (s16 ns n) 1 2) (bit (s16 ns n) 2 1) (bit (s16 ns n) 2 2)
def centre (ns : List Node) (room n : Int) : List Node × Int × Int := if may ns room n 2 then putSq ns room (s16 ns n) 1 1 else (ns, 0, 1)
def nine (ns : List Node) (room n : Int) : R9 := if may ns room n 2 then all ns room n else (ns, z9, 1)
def step (ns : List Node) (room n : Int) : List Node × Int × Int := if may ns room n 2 ∧ (R6.nd ns n).lv = 2 then one ns room n else (ns, 0, 1)
end R8
def Nine (r : R8.R9) (room : Int) (A : List Asrt) (I : List Chunk) : Value → List Asrt → List Chunk → Prop :=
 fun v A' I' => ∃ a' cap' q0 q1 q2 q3 q4 q5 q6 q7 q8, r.2.1 = [q0, q1, q2, q3, q4, q5, q6, q7, q8] ∧ v = .tuple [storeV a' r.1.length cap' room, .agg [.int .i64 q0, .int .i64 q1, .int .i64 q2, .int .i64 q3, .int .i64 q4, .int .i64 q5, .int .i64 q6, .int .i64 q7, .int .i64 q8].toArray, .int .i64 r.2.2].toArray ∧ StA I' a' cap' r.1 ∧ A = A' ∧ I ⊆ I'
end Go.GL

set_option linter.unusedVariables false
set_option linter.unusedSimpArgs false
/-
 From a contract to a row: a world's blocks as what may be read; arguments opened; what a law leaves.
-/
namespace Go.GL
open Enc (enc)
open Go.WideShapes Go.ChangeShapes Go.RowKit Go.Deep
def I64 (c : Int) : Prop := -9223372036854775808 ≤ c ∧ c ≤ 9223372036854775807
theorem wf_I64 {n : Int} (h : (Lit.int .i64 n).wf = true) : I64 n := by
 simp [Lit.wf, IntKind.min, IntKind.max, IntKind.signed, IntKind.bits] at h
 exact ⟨by omega, by omega⟩
/-! ### 1. The world as it came -/
def worldI (w : World) : List Chunk := (List.range w.heap.size).filterMap fun b => w.heap[b]?.map fun o => (b, o)
theorem mem_worldI {w : World} {b : Nat} {o : Obj} : (b, o) ∈ worldI w ↔ w.heap[b]? = some o := by
 unfold worldI
 simp only [List.mem_filterMap, List.mem_range, Option.map_eq_some_iff, Prod.mk.injEq]
 constructor
 ·rintro ⟨b', _, o', h, rfl, rfl⟩; exact h
 ·intro h; exact ⟨b, (Array.getElem?_eq_some_iff.1 h).1, o, h, rfl, rfl⟩
theorem worldI_fst (w : World) : (worldI w).map (·.1) = List.range w.heap.size := by
 unfold worldI
 have key : ∀ n, n ≤ w.heap.size → ((List.range n).filterMap fun b => w.heap[b]?.map fun o => (b, o)).map (·.1) = List.range n := by
  intro n
  induction n with
  | zero => intro _; rfl
  | succ n ih =>
   intro hn
   have hlt : n < w.heap.size := hn
   rw [List.range_succ, List.filterMap_append, List.map_append, ih (by omega)]
   simp [hlt]
 exact key _ (Nat.le_refl _)
theorem st_world (w : World) : St w w [] (worldI w) := by
 refine ⟨[], .nil, ⟨rfl, rfl, rfl, Nat.le_refl _, ?_, ?_⟩⟩
 ·rw [List.nil_append, worldI_fst]; exact List.nodup_range
 ·rintro ⟨b, o⟩ hc
  exact mem_worldI.1 hc
theorem below_of_st {w w' : World} {A' : List Asrt} {I' : List Chunk} (h : St w w' A' I') (hI : worldI w ⊆ I') : Below w.heap.size w w' := by
 obtain ⟨cs, _, h⟩ := h
 refine ⟨h.os, h.tape, h.output, h.size, fun k hk => ?_⟩
 have h1 : w.heap[k]? = some w.heap[k] := Array.getElem?_eq_getElem hk
 rw [h1]
 exact h.has _ (List.mem_append_right _ (hI (mem_worldI.2 h1)))
/-- A law's contract, as the kit has it. -/
theorem calls_of_fnC {P : Program} {f : FuncId} {args : Array Value} {w : World} {v0 : Value} (h : FnC P f args [] (worldI w) fun v A' I' => v = v0 ∧ [] = A' ∧ worldI w ⊆ I') : Calls P f args w fun e w' => e = .returned v0 ∧ Below w.heap.size w w' :=
 (h w w (st_world w)).mono fun e w' ⟨v, A', I', he, ⟨hv, _, hI⟩, hS⟩ => ⟨hv ▸ he, below_of_st hS hI⟩
/-! ### 2. Values that are whole numbers alone -/
def segsOk : List (Nat × Nat) → Nat → Nat → Bool
 | [], off, tot => Nat.beq off tot
 | (o, k) :: r, off, tot => Nat.beq o off && segsOk r (off + k) tot
def IntsL (cs : List Value) (n : Nat) : Prop := ∃ xs : List Int, cs = ints xs ∧ xs.length = n ∧ ∀ z ∈ xs, I64 z
theorem ints_of_segs {cs : List Value} {tot : Nat} : ∀ (segs : List (Nat × Nat)) (off : Nat), (∀ p ∈ segs, IntsL ((cs.drop p.1).take p.2) p.2) → segsOk segs off tot = true → cs.length = tot → IntsL (cs.drop off) (tot - off)
 | [], off, _, hs, hl => by
  have : off = tot := Nat.eq_of_beq_eq_true hs
  refine ⟨[], ?_, by simp; omega, by simp⟩
  rw [List.drop_of_length_le (by omega)]; rfl
 | (o, k) :: r, off, h, hs, hl => by
  simp only [segsOk, Bool.and_eq_true] at hs
  have ho : o = off := Nat.eq_of_beq_eq_true hs.1
  subst ho
  obtain ⟨ys, e1, l1, b1⟩ := h (o, k) List.mem_cons_self
  obtain ⟨zs, e2, l2, b2⟩ := ints_of_segs r (o + k) (fun p hp => h p (List.mem_cons_of_mem _ hp)) hs.2 hl
  have e : cs.drop o = (cs.drop o).take k ++ cs.drop (o + k) := by rw [← List.drop_drop, List.take_append_drop]
  refine ⟨ys ++ zs, ?_, ?_, ?_⟩
  ·rw [e, e1, e2]; simp [ints]
  ·have hk : ((cs.drop o).take k).length = k := by rw [e1]; simp [ints, l1]
   rw [List.length_take, List.length_drop] at hk
   rw [List.length_append, l1, l2]
   by_cases h0 : k = 0
   ·omega
   ·omega
  ·intro z hz
   rcases List.mem_append.1 hz with hz | hz
   ·exact b1 z hz
   ·exact b2 z hz
/-- A type whose cells are whole numbers alone. -/
def NumTy (P : Program) (t : TypeId) (n : Nat) : Prop := P.cellsOf t = n ∧ ∀ (H : Type) (enc : TypeId × Value → H) (w : World) (base : Nat) (spare : Nat → Bool) (held : Bool) (fuel : Nat) (cs : List Value) (x : DataW H × List MemPlace), DataW.trod enc P w base spare held fuel t cs = some x → IntsL cs n
theorem cellsOf_tyI {P : Program} {t : TypeId} {d : TypeDesc} {s b : Nat} {z : List Value} [h : TyI P t d s b z] : P.cellsOf t = s := by
 obtain ⟨i, v, h1, h2, _⟩ := h.info
 simp [Program.cellsOf, h1, h2]
section
variable {P : Program} {t e : TypeId} {s b : Nat} {z : List Value}
theorem NumTy.int [h : TyI P t (.int .i64) 1 b z] : NumTy P t 1 := by
 refine ⟨cellsOf_tyI, fun H enc w base spare held fuel cs x hx => ?_⟩
 obtain ⟨n, rfl, _, hw⟩ := DataW.trod_int h.und hx
 exact ⟨[n], rfl, rfl, fun z hz => by rw [List.mem_singleton.1 hz]; exact wf_I64 hw⟩
theorem NumTy.arr {n m : Nat} [h : TyI P t (.array n e) s b z] (he : NumTy P e m) (hs : segsOk ((List.range n).map fun i => (i * m, m)) 0 s = true) : NumTy P t s := by
 refine ⟨cellsOf_tyI, fun H enc w base spare held fuel cs x hx => ?_⟩
 obtain ⟨xs, k, _, _, hl, hlen, hf⟩ := DataW.trod_array h.und hx
 rw [cellsOf_tyI] at hl
 have := ints_of_segs (cs := cs) (tot := s) _ 0 (fun p hp => ?_) hs hl
 ·simpa using this
 ·obtain ⟨i, hi, rfl⟩ := List.mem_map.1 hp
  have hi' := List.mem_range.1 hi
  have := hf i hi'
  rw [he.1, List.getElem?_eq_getElem (by omega)] at this
  exact he.2 _ _ _ _ _ _ _ _ _ this
/-- The fields, one by one. -/
def AllTy (P : Program) : List Field → List Nat → Prop
 | [], [] => True
 | f :: fs, n :: ns => NumTy P f.type n ∧ AllTy P fs ns
 | _, _ => False
theorem AllTy.at : ∀ {fs : List Field} {ns : List Nat}, AllTy P fs ns → ∀ p ∈ (fs.map (·.offset)).zip ns, ∃ (i : Nat) (f : Field), fs[i]? = some f ∧ f.offset = p.1 ∧ NumTy P f.type p.2
 | [], [], _, p, hp => by simp at hp
 | f :: fs, n :: ns, h, p, hp => by
  simp only [List.map_cons, List.zip_cons_cons] at hp
  rcases List.mem_cons.1 hp with rfl | hp
  ·exact ⟨0, f, rfl, rfl, h.1⟩
  ·obtain ⟨i, g, h1, h2, h3⟩ := AllTy.at h.2 p hp
   exact ⟨i + 1, g, by simpa using h1, h2, h3⟩
 | [], _ :: _, h, _, _ => h.elim
 | _ :: _, [], h, _, _ => h.elim
theorem NumTy.str {fs : Array Field} {ns : List Nat} [h : TyI P t (.struct fs) s b z] (hf : AllTy P fs.toList ns) (hs : segsOk ((fs.toList.map (·.offset)).zip ns) 0 s = true) : NumTy P t s := by
 refine ⟨cellsOf_tyI, fun H enc w base spare held fuel cs x hx => ?_⟩
 obtain ⟨xs, k, _, _, hl, hlen, hg⟩ := DataW.trod_struct h.und hx
 rw [cellsOf_tyI] at hl
 have := ints_of_segs (cs := cs) (tot := s) _ 0 (fun p hp => ?_) hs hl
 ·simpa using this
 ·obtain ⟨i, f, h1, h2, h3⟩ := hf.at p hp
  have h1' : fs[i]? = some f := by simpa using h1
  have hi : i < fs.size := (Array.getElem?_eq_some_iff.1 h1').1
  have := hg i f h1'
  rw [h2, h3.1, List.getElem?_eq_getElem (by omega)] at this
  exact h3.2 _ _ _ _ _ _ _ _ _ this
/-! ### 3. Slices and stores opened -/
/-- How a thing of n numbers is read. -/
class Dec (α : Type) [Enc α] where
 dec : List Int → α
 enc_dec : ∀ xs : List Int, xs.length = Enc.sz α → enc (dec xs) = ints xs
instance : Dec Int := ⟨fun xs => xs.getD 0 0, fun xs h => by
 match xs, h with
 | [x], _ => rfl⟩
def DecOk {α : Type} [Enc α] [Dec α] (x : α) : Prop := ∃ zs : List Int, zs.length = Enc.sz α ∧ (∀ z ∈ zs, I64 z) ∧ x = Dec.dec zs
/-- How many are read. -/
def dlen {H : Type} : DataW H → Nat | .slice es _ => es.length | _ => 0
theorem open_sl_cs {α : Type} [Enc α] [Dec α] [Inhabited α] [h : TyI P t (.slice e) s b z] (he : NumTy P e (Enc.sz α)) (hpos : 0 < Enc.sz α) {H : Type} {en : TypeId × Value → H} {w : World} {fuel : Nat} {cs : List Value} {x : DataW H × List MemPlace} {spare : Nat → Bool} {held : Bool}
  (hx : DataW.trod en P w 0 spare held fuel t cs = some x) : ∃ (a : Option Addr) (cap : Nat) (xs : List α), cs = [.slice a xs.length cap] ∧ StA (worldI w) a cap xs ∧ (∀ y ∈ xs, DecOk y) ∧ xs.length ≤ 9223372036854775807 ∧ xs.length = dlen x.1 := by
 rcases open_slice h.und hx with ⟨rfl, rfl⟩ | ⟨a, len, cap, m, n, D, Pl, rfl, _, hl, hm, hmm, rfl, hi⟩
 ·exact ⟨none, 0, [], rfl, ⟨SlAt.nil, Nat.le_refl _⟩, by simp, by simp, rfl⟩
 ·have hlm : len ≤ m := by rw [hmm]; split <;> omega
  have hcap : cap ≤ 9223372036854775807 := hm
  have each : ∀ i, i < len → ∃ y : α, DecOk y ∧ ∀ j, j < Enc.sz α → w.cell? ((a.add (i * Enc.sz α)).add j) = (enc y)[j]? := fun i hi' => by
   obtain ⟨cs', h1, h2⟩ := hi i (by omega)
   rw [he.1] at h1
   obtain ⟨_, h3, h4⟩ := World.cells?_some h1
   obtain ⟨zs, rfl, h5, h6⟩ := he.2 _ _ _ _ _ _ _ _ _ h2
   exact ⟨Dec.dec zs, ⟨zs, h5, h6, rfl⟩, fun j hj => by rw [h4 j hj, Dec.enc_dec zs h5]⟩
  obtain ⟨f, hf⟩ := choose_lt each
  refine ⟨some a, cap, (List.range len).map f, by simp, ⟨?_, by simpa using hl⟩, ?_, by simp; omega, by simp [dlen]⟩
  ·by_cases h0 : len = 0
   ·subst h0; exact .inl rfl
   ·obtain ⟨bk, off, sp⟩ := a
    have h00 := (hf 0 (by omega)).2 0 hpos
    simp only [Nat.zero_mul, Addr.add, if_true] at h00
    have hz : (enc (f 0))[0]? = some ((enc (f 0))[0]'(by rw [Enc.hlen]; exact hpos)) := List.getElem?_eq_getElem _
    rw [hz] at h00
    unfold World.cell? at h00
    simp only at h00
    cases hb : w.heap[bk]? with
    | none => rw [hb] at h00; simp at h00
    | some o =>
     rw [hb] at h00
     cases o with
     | cells c T fz =>
      simp only at h00
      cases sp with
      | some q => simp at h00
      | none =>
       refine .inr ⟨bk, off, rfl, c, T, fz, mem_worldI.2 hb, fun j v hj => ?_⟩
       have hj2 : j < len * Enc.sz α := by
        have := (List.getElem?_eq_some_iff.1 hj).1
        rw [encs_length] at this
        simpa using this
       have hq : j / Enc.sz α < len := (Nat.div_lt_iff_lt_mul hpos).2 hj2
       have hr : j % Enc.sz α < Enc.sz α := Nat.mod_lt _ hpos
       have ej : j / Enc.sz α * Enc.sz α + j % Enc.sz α = j := by rw [Nat.mul_comm]; exact Nat.div_add_mod j (Enc.sz α)
       rw [← ej, encs_get _ _ _ (by simpa using hq) hr] at hj
       have hg : ((List.range len).map f).getD (j / Enc.sz α) default = f (j / Enc.sz α) := by simp [hq]
       rw [hg] at hj
       have h5 := (hf _ hq).2 _ hr
       rw [hj, Go.Deep.add_add, ej] at h5
       unfold World.cell? at h5
       have hblk : (({ block := bk, off := off, spot := none } : Addr).add j) = ⟨bk, off + j, none⟩ := by
        unfold Addr.add; split
        ·rename_i h; subst h; rfl
        ·rfl
       rw [hblk] at h5
       simpa [hb] using h5
     | _ => simp at h00
  ·intro y hy
   obtain ⟨i, hi', rfl⟩ := List.mem_map.1 hy
   exact (hf i (List.mem_range.1 hi')).1
theorem open_slv {α : Type} [Enc α] [Dec α] [Inhabited α] [h : TyI P t (.slice e) s b z] (he : NumTy P e (Enc.sz α)) (hpos : 0 < Enc.sz α) {H : Type} {en : TypeId × Value → H} {w : World} {r : Reach} {b0 : Nat} {spare : Nat → Bool} {held : Bool} {v : Value} {d : DataW H} {ps : List MemPlace}
  (hval : Value.okWide P w r b0 t v) (hx : DataW.Trod en P w 0 spare held t v d ps) : ∃ (a : Option Addr) (cap : Nat) (xs : List α), v = .slice a xs.length cap ∧ StA (worldI w) a cap xs ∧ (∀ y ∈ xs, DecOk y) ∧ xs.length ≤ 9223372036854775807 ∧ xs.length = dlen d := by
 obtain ⟨a, len, cap, rfl⟩ := okWide_slice h.und hval
 obtain ⟨fuel, hf⟩ := hx
 obtain ⟨a', cap', xs, h1, h2⟩ := open_sl_cs he hpos hf
 simp only [Value.cells, List.cons.injEq, and_true] at h1
 exact ⟨a', cap', xs, h1, h2⟩
theorem open_i64 [h : TyI P t (.int .i64) s b z] {H : Type} {en : TypeId × Value → H} {w : World} {r : Reach} {b0 : Nat} {spare : Nat → Bool} {held : Bool} {v : Value} {d : DataW H} {ps : List MemPlace}
  (hval : Value.okWide P w r b0 t v) (hx : DataW.Trod en P w 0 spare held t v d ps) : ∃ n, v = .int .i64 n ∧ I64 n := by
 obtain ⟨n, rfl, _, _, hw⟩ := open_int h.und hval hx
 exact ⟨n, rfl, wf_I64 hw⟩
theorem okWide_agg {d : TypeDesc} (hd : isA d = true) [h : TyI P t d s b z] {w : World} {r : Reach} {b0 : Nat} {v : Value} (hval : Value.okWide P w r b0 t v) : ∃ cs : List Value, v = .agg cs.toArray := by
 unfold Value.okWide at hval
 rw [h.und] at hval
 cases d <;> simp [isA] at hd <;> (obtain ⟨cs, rfl, _⟩ := hval; exact ⟨cs.toList, by simp⟩)
theorem open_num {α : Type} [Enc α] [Dec α] {d : TypeDesc} (hd : isA d = true) [h : TyI P t d s b z] (he : NumTy P t (Enc.sz α)) {H : Type} {en : TypeId × Value → H} {w : World} {r : Reach} {b0 : Nat} {spare : Nat → Bool} {held : Bool} {v : Value} {dd : DataW H} {ps : List MemPlace}
  (hval : Value.okWide P w r b0 t v) (hx : DataW.Trod en P w 0 spare held t v dd ps) : ∃ x : α, v = .agg (enc x).toArray ∧ DecOk x := by
 obtain ⟨cs, rfl⟩ := okWide_agg hd hval
 obtain ⟨fuel, hf⟩ := hx
 obtain ⟨zs, h1, h2, h3⟩ := he.2 _ _ _ _ _ _ _ _ _ hf
 refine ⟨Dec.dec zs, ?_, ⟨zs, h2, h3, rfl⟩⟩
 rw [Dec.enc_dec zs h2]
 simp only [Value.cells] at h1
 rw [← h1]
/-- A struct of a slice and a number. -/
theorem open_slint {z' : List Value} {α : Type} [Enc α] [Dec α] [Inhabited α] {f0 f1 : Field} {t0 : TypeId} [h : TyI P t (.struct #[f0, f1]) s b z] [h0 : TyI P t0 (.slice e) 1 24 z'] (e0 : f0.type = t0) (he : NumTy P e (Enc.sz α)) (hpos : 0 < Enc.sz α) {t1 : TypeId} (h1 : NumTy P t1 1) (e1 : f1.type = t1) (o0 : f0.offset = 0) (o1 : f1.offset = 1) (hs : s = 2)
  {H : Type} {en : TypeId × Value → H} {w : World} {r : Reach} {b0 : Nat} {spare : Nat → Bool} {held : Bool} {v : Value} {d : DataW H} {ps : List MemPlace}
  (hval : Value.okWide P w r b0 t v) (hx : DataW.Trod en P w 0 spare held t v d ps) : ∃ (a : Option Addr) (cap : Nat) (xs : List α) (n : Int), v = .agg [.slice a xs.length cap, .int .i64 n].toArray ∧ StA (worldI w) a cap xs ∧ (∀ y ∈ xs, DecOk y) ∧ xs.length ≤ 9223372036854775807 ∧ I64 n := by
 obtain ⟨cs, rfl⟩ := okWide_agg rfl hval
 obtain ⟨fuel, hf⟩ := hx
 obtain ⟨y0, y1, n, _, hl, g0, g1⟩ := trod_struct2 h.und hf
 rw [cellsOf_tyI, hs] at hl
 simp only [Value.cells] at hl g0 g1
 subst e0; subst e1
 rw [o0, cellsOf_tyI (t := f0.type)] at g0
 rw [o1, h1.1] at g1
 match cs, hl with
 | [x, y], _ =>
  simp only [List.drop_zero, List.take_succ_cons, List.take_zero, List.drop_succ_cons] at g0 g1
  obtain ⟨a, cap, xs, k1, k2, k3, k4, _⟩ := open_sl_cs he hpos g0
  obtain ⟨zs, k5, k6, k7⟩ := h1.2 _ _ _ _ _ _ _ _ _ g1
  match zs, k6 with
  | [m], _ =>
   simp only [List.cons.injEq, and_true] at k1
   simp only [ints, List.map_cons, List.map_nil, List.cons.injEq, and_true] at k5
   subst k1; subst k5
   exact ⟨a, cap, xs, m, rfl, k2, k3, k4, k7 m (by simp)⟩
/-! ### 4. What a law leaves -/
theorem trodAll_stays {H : Type} {en : TypeId × Value → H} (hl : laidOutB P = true) {W W' : World} (hB : Below W.heap.size W W') : ∀ {ts : List TypeId} {vs : List Value} {ds : List (DataW H)} {ps : List MemPlace},
  (∀ t ∈ ts, P.readableRec t = true ∧ t < P.types.size) → DataW.TrodAll en P W 0 (fun _ => true) true ts vs ds ps → (∀ x ∈ ps, x.block < W.heap.size) → DataW.TrodAll en P W' 0 (fun b => decide (b < W.heap.size)) true ts vs ds ps
 | [], vs, ds, ps, _, h, _ => by
  obtain ⟨rfl, rfl, rfl⟩ := trodAll_nil h
  exact rfl
 | t :: ts, vs, ds, ps, hr, h, hlt => by
  obtain ⟨v, vs', d, ds', p, q, rfl, rfl, rfl, h1, h2⟩ := trodAll_cons h
  refine ⟨p, q, Below.trod hl (hr t List.mem_cons_self).1 (hr t List.mem_cons_self).2 h1 hB fun x hx => hlt x (List.mem_append_left _ hx), ?_, rfl⟩
  exact trodAll_stays hl hB (fun t' ht' => hr t' (List.mem_cons_of_mem _ ht')) h2 fun x hx => hlt x (List.mem_append_right _ hx)
theorem law_post {H : Type} {en : TypeId × Value → H} {f : Func} {sp : ChangeSpec} {apart fresh handsOn : Bool} {W W' : World} {args : Array Value} {ds gs : List (DataW H)} {before : List MemPlace} {tb : TypeId} [hb : TyI P tb .bool s b z]
  (hl : laidOutB P = true) (hts : ∀ t ∈ f.params.toList, P.readableRec t = true ∧ t < P.types.size) (hres : f.resultTypes = #[tb]) (hvars : sp.vars = [])
  (hW : DataW.Whole en P f.params.toList sp.vars apart W args.toList ds gs before) (hr : (sp.fn H (ds ++ gs)).results = [.lit (.bool true)]) (ha : (sp.fn H (ds ++ gs)).args = ds) (hv : (sp.fn H (ds ++ gs)).vars = [])
  (hB : Below W.heap.size W W') : sp.post en P f apart fresh handsOn false W args (.bool true) W' := by
 have hlt := hW.lt
 have hW2 := hW
 obtain ⟨p, q, h1, h2, e, h3, h4⟩ := hW2
 rw [hvars] at h2
 obtain ⟨_, rfl⟩ := trodVars_none h2
 rw [List.append_nil] at e
 subst e
 refine ⟨ds, gs, _, [], _, [], hW, ?_, ?_, ?_, World.keptBut_mono (fun x hx => ⟨hx, .inr (.inl hx)⟩) (hB.frame (· ∈ _)), fun h => by cases h⟩
 ·rw [hr, hres]
  exact ⟨[], [], ⟨1, by simp [DataW.trod, Value.cells, hb.und]⟩, rfl, rfl⟩
 ·rw [ha]
  exact trodAll_stays hl hB hts h1 hlt
 ·rw [hv, hvars]; rfl
end
end Go.GL

set_option linter.unusedVariables false
namespace Go.GL
/-- Five raw numbers. -/
structure Five where
 r0 : Int
 r1 : Int
 r2 : Int
 r3 : Int
 r4 : Int
 deriving DecidableEq, Inhabited
instance : Enc Five := ⟨fun x => [.int .i64 x.r0, .int .i64 x.r1, .int .i64 x.r2, .int .i64 x.r3, .int .i64 x.r4], 5, fun _ => rfl, fun _ => rfl⟩
abbrev int5V (x : Five) : Value := .agg [.int .i64 x.r0, .int .i64 x.r1, .int .i64 x.r2, .int .i64 x.r3, .int .i64 x.r4].toArray
instance : Dec Cell := ⟨fun xs => ⟨xs.getD 0 0, xs.getD 1 0⟩, fun xs h => by
 match xs, h with
 | [a, b], _ => rfl⟩
instance : Dec Node := ⟨fun xs => ⟨xs.getD 0 0, xs.getD 1 0, xs.getD 2 0, xs.getD 3 0, xs.getD 4 0, xs.getD 5 0⟩, fun xs h => by
 match xs, h with
 | [a, b, c, d, e, f], _ => rfl⟩
instance : Dec Five := ⟨fun xs => ⟨xs.getD 0 0, xs.getD 1 0, xs.getD 2 0, xs.getD 3 0, xs.getD 4 0⟩, fun xs h => by
 match xs, h with
 | [a, b, c, d, e], _ => rfl⟩
theorem cell_ok {x : Cell} (h : DecOk x) : I64 x.x ∧ I64 x.y := by
 obtain ⟨zs, h1, h2, rfl⟩ := h
 match zs, h1 with
 | [a, b], _ => exact ⟨h2 a (by simp), h2 b (by simp)⟩
theorem node_ok {x : Node} (h : DecOk x) : I64 x.lv := by
 obtain ⟨zs, h1, h2, rfl⟩ := h
 match zs, h1 with
 | [a, b, c, d, e, f], _ => exact h2 a (by simp)
theorem five_ok {x : Five} (h : DecOk x) : I64 x.r0 ∧ I64 x.r1 ∧ I64 x.r2 ∧ I64 x.r3 ∧ I64 x.r4 := by
 obtain ⟨zs, h1, h2, rfl⟩ := h
 match zs, h1 with
 | [a, b, c, d, e], _ => exact ⟨h2 a (by simp), h2 b (by simp), h2 c (by simp), h2 d (by simp), h2 e (by simp)⟩
theorem rng_ok {l : List Node} (h : ∀ y ∈ l, DecOk y) : R6.Rng l := fun x hx => node_ok (h x hx)
/-- Which of n things a raw number speaks of. -/
def pk (c n : Int) : Int := (if c < 0 then -(c + 1) else c) % n
theorem pk_bd {c n : Int} (hn : 0 < n) : 0 ≤ pk c n ∧ pk c n < n := ⟨Int.emod_nonneg _ (by omega), Int.emod_lt_of_pos _ hn⟩
/-! ### What the laws make of raw numbers -/
namespace RL
/-- Raw numbers that a machine can hold. -/
def Cs (l : List Cell) : Prop := ∀ i, i < l.length → I64 (l.getD i default).x ∧ I64 (l.getD i default).y
def Fs (l : List Five) : Prop := ∀ i, i < l.length → I64 (l.getD i default).r0 ∧ I64 (l.getD i default).r1 ∧ I64 (l.getD i default).r2 ∧ I64 (l.getD i default).r3 ∧ I64 (l.getD i default).r4
theorem cs_ok {l : List Cell} (h : ∀ y ∈ l, DecOk y) : Cs l := fun i hi => by
 have := cell_ok (h l[i] (List.getElem_mem hi))
 simpa [hi] using this
theorem fs_ok {l : List Five} (h : ∀ y ∈ l, DecOk y) : Fs l := fun i hi => by
 have := five_ok (h l[i] (List.getElem_mem hi))
 simpa [hi] using this
def cell16 (r : Cell) : Cell := ⟨pk r.x 16 - 8, pk r.y 16 - 8⟩
def set (raw : List Cell) : List Cell := R1.puts ((raw.take 60).map cell16)
def lev (ns : List Node) (r : Five) : Int := if 0 < ns.length then (R6.nd ns (pk r.r4 ns.length)).lv else 0
def sameFrom (lv : Int) : Nat → List Node → List Int
 | _, [] => []
 | i, x :: ns => if x.lv = lv then (i : Int) :: sameFrom lv (i + 1) ns else sameFrom lv (i + 1) ns
def same (ns : List Node) (r : Five) : List Int := sameFrom (lev ns r) 0 ns
def one (s : List Int) (c : Int) : Int := if 0 < s.length then s.getD (pk c s.length).toNat default else 0
def kids (ns : List Node) (r : Five) : Int × Int × Int × Int := (one (same ns r) r.r0, one (same ns r) r.r1, one (same ns r) r.r2, one (same ns r) r.r3)
def room (c : Int) : Int := 2 + pk c 60
def putRaw (rm : Int) (ns : List Node) (r : Five) : List Node := (R6.intern ns rm (kids ns r).1 (kids ns r).2.1 (kids ns r).2.2.1 (kids ns r).2.2.2).1
def store (rm : Int) (raw : List Five) : List Node := (raw.take 40).foldl (putRaw rm) [R6.n0, R6.n1]
def square (rm : Int) (nodes : List Five) (raw : List Cell) (level : Int) : List Node × Int × Int := R7.make (store (room rm) nodes) (room rm + 500) (set raw) (4 + pk level 4)
def cropIn (half : Int) (c : Cell) : Prop := (-half ≤ c.x ∧ c.x < half) ∧ -half ≤ c.y ∧ c.y < half
instance (half : Int) (c : Cell) : Decidable (cropIn half c) := inferInstanceAs (Decidable (_ ∧ _))
def crop (l : List Cell) (x y half : Int) : List Cell := R1.puts ((l.map fun c => (⟨c.x - x, c.y - y⟩ : Cell)).filter fun c => decide (cropIn half c))
theorem room_bd (c : Int) : 2 ≤ room c ∧ room c < 62 := by
 have := pk_bd (c := c) (n := 60) (by omega)
 unfold room; omega
theorem sameFrom_append (lv : Int) (ys : List Node) : ∀ (xs : List Node) (i : Nat), sameFrom lv i (xs ++ ys) = sameFrom lv i xs ++ sameFrom lv (i + xs.length) ys
 | [], i => by simp [sameFrom]
 | x :: xs, i => by
  simp only [List.cons_append, sameFrom, List.length_cons]
  rw [sameFrom_append lv ys xs (i + 1), show i + 1 + xs.length = i + (xs.length + 1) by omega]
  split <;> simp
theorem sameFrom_len (lv : Int) : ∀ (xs : List Node) (i : Nat), (sameFrom lv i xs).length ≤ xs.length
 | [], i => by simp [sameFrom]
 | x :: xs, i => by
  have := sameFrom_len lv xs (i + 1)
  simp only [sameFrom]
  split <;> simp only [List.length_cons] <;> omega
theorem sameFrom_mem {lv : Int} : ∀ {xs : List Node} {i : Nat} {q : Int}, q ∈ sameFrom lv i xs → ∃ j : Nat, j < xs.length ∧ q = ((i + j : Nat) : Int) ∧ (xs.getD j default).lv = lv
 | [], i, q, h => by simp [sameFrom] at h
 | x :: xs, i, q, h => by
  simp only [sameFrom] at h
  have key : q ∈ sameFrom lv (i + 1) xs → ∃ j : Nat, j < (x :: xs).length ∧ q = ((i + j : Nat) : Int) ∧ ((x :: xs).getD j default).lv = lv := fun h => by
   obtain ⟨j, h1, h2, h3⟩ := sameFrom_mem h
   exact ⟨j + 1, by simp only [List.length_cons]; omega, by omega, by simpa using h3⟩
  split at h
  ·rename_i hx
   rcases List.mem_cons.1 h with rfl | h
   ·exact ⟨0, by simp, by simp, by simpa using hx⟩
   ·exact key h
  ·exact key h
theorem putRaw_good {rm : Int} (h2 : 2 ≤ rm) (h3 : rm ≤ 100000) {ns : List Node} (h : R6.Good ns rm) (r : Five) : R6.Good (putRaw rm ns r) rm := by
 unfold putRaw R6.intern
 split
 ·exact h.put _ _ _ _
 ·exact h
end RL
end Go.GL

set_option linter.unusedVariables false
namespace Go.GL
/-! ### Layer 19, as the document has it -/
namespace R19
/-- The i-th task's parent is one. -/
def okAt (l : List Int) (i : Nat) : Prop := (i = 0 → l.getD i default = -1) ∧ (0 < i → 0 ≤ l.getD i default ∧ l.getD i default < i)
instance (l : List Int) (i : Nat) : Decidable (okAt l i) := inferInstanceAs (Decidable (_ ∧ _))
def right (l : List Int) : Prop := (1 ≤ l.length ∧ l.length ≤ 300) ∧ ∀ i, i < l.length → okAt l i
instance (l : List Int) : Decidable (right l) := inferInstanceAs (Decidable (_ ∧ _))
end R19
end Go.GL
namespace Go.GL
namespace R19
/-! ### What the laws make of raw numbers -/
def treeF (raw : List Int) (i : Nat) : List Int := -1 :: (List.range i).map fun j => pk (raw.getD j default) ((j : Int) + 1)
def tree (raw : List Int) : List Int := treeF raw (if raw.length < 39 then raw.length else 39)
def valAt (raw : List Int) (j : Nat) : Int := if j < raw.length then pk (raw.getD j default) 1000 - 300 else j
def vals (raw : List Int) (n : Nat) : List Int := (List.range n).map (valAt raw)
theorem treeF_succ (raw : List Int) (i : Nat) : treeF raw (i + 1) = treeF raw i ++ [pk (raw.getD i default) ((i : Int) + 1)] := by
 unfold treeF
 rw [List.range_succ, List.map_append]
 rfl
theorem treeF_len (raw : List Int) (i : Nat) : (treeF raw i).length = i + 1 := by simp [treeF]
theorem tree_len (raw : List Int) : 1 ≤ (tree raw).length ∧ (tree raw).length ≤ 40 := by
 unfold tree
 rw [treeF_len]
 split <;> omega
theorem vals_succ (raw : List Int) (n : Nat) : vals raw (n + 1) = vals raw n ++ [valAt raw n] := by
 unfold vals
 rw [List.range_succ, List.map_append]
 rfl
theorem vals_len (raw : List Int) (n : Nat) : (vals raw n).length = n := by simp [vals]
theorem valAt_bd (raw : List Int) (n : Nat) : -300 ≤ valAt raw n ∧ (valAt raw n ≤ 700 ∨ valAt raw n ≤ n) := by
 unfold valAt
 split
 ·have := pk_bd (c := raw.getD n default) (n := 1000) (by omega)
  omega
 ·omega
theorem tree_right (raw : List Int) : right (tree raw) := by
 refine ⟨by have := tree_len raw; omega, fun i hi => ?_⟩
 unfold tree treeF at hi ⊢
 generalize (if raw.length < 39 then raw.length else 39) = n at *
 simp only [List.length_cons, List.length_map, List.length_range] at hi
 cases i with
 | zero => exact ⟨fun _ => rfl, fun h => by omega⟩
 | succ i =>
  refine ⟨fun h => by omega, fun _ => ?_⟩
  have e : (-1 :: (List.range n).map fun j => pk (raw.getD j default) ((j : Int) + 1)).getD (i + 1) default = pk (raw.getD i default) ((i : Int) + 1) := by
   rw [List.getD_cons_succ, List.getD_eq_getElem?_getD, List.getElem?_map, List.getElem?_range (by omega)]
   rfl
  rw [e]
  have := pk_bd (c := raw.getD i default) (n := (i : Int) + 1) (by omega)
  omega
end R19
end Go.GL
namespace Go.GL
/-- How far a task is. -/
structure Frame where
 par : Int
 a : Option Addr
 len : Nat
 cap : Nat
 sum : Int
 left : Int
 deriving Inhabited
instance : Enc Frame := ⟨fun s => [.int .i64 s.par, .slice s.a s.len s.cap, .int .i64 s.sum, .int .i64 s.left], 4, fun _ => rfl, fun _ => rfl⟩
namespace R19
/-- The kids of t among the first i tasks. -/
def kidsTo (p : List Int) (i : Nat) (t : Nat) : List Int := ((List.range i).filter fun j => decide (p.getD j default = (t : Int))).map fun (j : Nat) => (j : Int)
def kids (p : List Int) (t : Nat) : List Int := kidsTo p p.length t
theorem kidsTo_succ (p : List Int) (i t : Nat) : kidsTo p (i + 1) t = kidsTo p i t ++ if p.getD i default = (t : Int) then [(i : Int)] else [] := by
 unfold kidsTo
 rw [List.range_succ, List.filter_append, List.map_append]
 congr 1
 by_cases h : p.getD i default = (t : Int)
 ·rw [if_pos h, List.filter_cons, if_pos (by simpa using h)]; rfl
 ·rw [if_neg h, List.filter_cons, if_neg (by simpa using h)]; rfl
theorem kidsTo_len (p : List Int) (t : Nat) : ∀ i, (kidsTo p i t).length ≤ i
 | 0 => by simp [kidsTo]
 | i + 1 => by
  have := kidsTo_len p t i
  rw [kidsTo_succ, List.length_append]
  split
  ·simp; omega
  ·simp; omega
end R19
end Go.GL
namespace Go.GL
namespace R19
def add1 (fs : List Frame) (p t : Nat) : List Frame := fs.set p { fs.getD p default with sum := IntKind.i64.wrap ((fs.getD p default).sum + (fs.getD t default).sum) }
def less1 (fs : List Frame) (p : Nat) : List Frame := fs.set p { fs.getD p default with left := IntKind.i64.wrap ((fs.getD p default).left - 1) }
/-- A task is done: its parent is told; is the first one done? -/
def joinM : Nat → List Frame → Nat → List Frame × Bool
 | 0, fs, _ => (fs, false)
 | f + 1, fs, t =>
  if (fs.getD t default).par < 0 then (fs, true) else
  if ((less1 (add1 fs (fs.getD t default).par.toNat t) (fs.getD t default).par.toNat).getD (fs.getD t default).par.toNat default).left = 0 then joinM f (less1 (add1 fs (fs.getD t default).par.toNat t) (fs.getD t default).par.toNat) (fs.getD t default).par.toNat
  else (less1 (add1 fs (fs.getD t default).par.toNat t) (fs.getD t default).par.toNat, false)
end R19
end Go.GL
namespace Go.GL
namespace R19
/-! ### Deques -/
/-- Where the first deque is that is not empty, from the j-th one behind w on. -/
def findF (D : List (List Int)) (w : Nat) : Nat → Nat → Option Nat
 | 0, _ => none
 | f + 1, j => if (D.getD ((w + j) % D.length) default).length = 0 then findF D w f (j + 1) else some ((w + j) % D.length)
/-- The task that a worker takes, and what is left. -/
def takeM (D : List (List Int)) (w : Nat) : Int × List (List Int) :=
 if 0 < (D.getD w default).length then ((D.getD w default).getD ((D.getD w default).length - 1) default, D.set w ((D.getD w default).take ((D.getD w default).length - 1)))
 else match findF D w D.length 0 with
  | some k => ((D.getD k default).getD 0 default, D.set k ((D.getD k default).drop 1))
  | none => (-1, D)
end R19
end Go.GL

set_option linter.unusedVariables false
namespace Go.GL
/-! ### Layer 11, as the document has it -/
namespace R11
/-- Those that are left, from the i-th one on. -/
def allF : Nat → List Int → List Int
 | _, [] => []
 | i, n :: l => if 0 < n then (i : Int) :: allF (i + 1) l else allF (i + 1) l
def all (left : List Int) : List Int := allF 0 left
/-- Where the first one is of which p is true. -/
def idx (p : Int → Bool) (l : List Int) : Int := if l.findIdx p < l.length then (l.findIdx p : Int) else -1
def round (a : List Int) (last : Int) : Int := if 0 ≤ idx (fun i => decide (last < i)) a ∧ 0 ≤ last then a.getD (idx (fun i => decide (last < i)) a).toNat default else a.getD 0 default
def next (picks : List Int) (step : Int) (left : List Int) (last : Int) : Int :=
 if (all left).length = 0 then -1 else
 if 0 ≤ step ∧ step < picks.length then (all left).getD (pk (picks.getD step.toNat default) (all left).length).toNat default
 else round (all left) last
def dec (left : List Int) (i : Int) : List Int := left.set i.toNat (left.getD i.toNat default - 1)
def turnsF (picks : List Int) : Nat → Nat → List Int → Int → List Int
 | 0, _, _, _ => []
 | f + 1, s, left, last => if next picks s left last < 0 then [] else next picks s left last :: turnsF picks f (s + 1) (dec left (next picks s left last)) (next picks s left last)
def turns (picks left : List Int) : List Int := turnsF picks 100000 0 left (-1)
theorem allF_mem : ∀ {l : List Int} {i : Nat} {q : Int}, q ∈ allF i l ↔ ∃ j : Nat, j < l.length ∧ q = ((i + j : Nat) : Int) ∧ 0 < l.getD j default
 | [], i, q => by simp [allF]
 | n :: l, i, q => by
  have ih := allF_mem (l := l) (i := i + 1) (q := q)
  have key : (∃ j : Nat, j < (n :: l).length ∧ q = ((i + j : Nat) : Int) ∧ 0 < (n :: l).getD j default) ↔ (q = (i : Int) ∧ 0 < n) ∨ ∃ j : Nat, j < l.length ∧ q = ((i + 1 + j : Nat) : Int) ∧ 0 < l.getD j default := by
   constructor
   ·rintro ⟨j, h1, h2, h3⟩
    cases j with
    | zero => exact .inl ⟨by simpa using h2, by simpa using h3⟩
    | succ j => exact .inr ⟨j, by simpa using h1, by rw [h2]; omega, by simpa using h3⟩
   ·rintro (⟨h1, h2⟩ | ⟨j, h1, h2, h3⟩)
    ·exact ⟨0, by simp, by simpa using h1, by simpa using h2⟩
    ·exact ⟨j + 1, by simpa using h1, by rw [h2]; omega, by simpa using h3⟩
  rw [key, ← ih]
  simp only [allF]
  split
  ·rename_i h
   simp [h]
  ·rename_i h
   simp [h]
theorem mem_all {l : List Int} {q : Int} : q ∈ all l ↔ 0 ≤ q ∧ q < l.length ∧ 0 < l.getD q.toNat default := by
 unfold all
 rw [allF_mem]
 constructor
 ·rintro ⟨j, h1, rfl, h3⟩
  refine ⟨by omega, by omega, ?_⟩
  simpa using h3
 ·rintro ⟨h1, h2, h3⟩
  exact ⟨q.toNat, by omega, by omega, h3⟩
theorem allF_srt : ∀ (l : List Int) (i : Nat), (allF i l).Pairwise (· < ·) ∧ ∀ q ∈ allF i l, (i : Int) ≤ q
 | [], i => by simp [allF]
 | n :: l, i => by
  have ih := allF_srt l (i + 1)
  simp only [allF]
  split
  ·refine ⟨List.pairwise_cons.2 ⟨fun q hq => ?_, ih.1⟩, fun q hq => ?_⟩
   ·have := ih.2 q hq
    omega
   ·rcases List.mem_cons.1 hq with rfl | hq
    ·exact Int.le_refl _
    ·have := ih.2 q hq
     omega
  ·exact ⟨ih.1, fun q hq => by have := ih.2 q hq; omega⟩
theorem all_srt (l : List Int) : (all l).Pairwise (· < ·) := (allF_srt l 0).1
theorem allF_len : ∀ (l : List Int) (i : Nat), (allF i l).length ≤ l.length
 | [], i => by simp [allF]
 | n :: l, i => by
  have ih := allF_len l (i + 1)
  simp only [allF]
  split <;> simp only [List.length_cons] <;> omega
theorem all_len (l : List Int) : (all l).length ≤ l.length := allF_len l 0
theorem allF_snoc : ∀ (l : List Int) (i : Nat) (n : Int), allF i (l ++ [n]) = allF i l ++ (if 0 < n then [((i + l.length : Nat) : Int)] else [])
 | [], i, n => by simp [allF]
 | x :: l, i, n => by
  have ih := allF_snoc l (i + 1) n
  simp only [List.cons_append, allF, ih]
  rw [show i + 1 + l.length = i + (x :: l).length by simp only [List.length_cons]; omega]
  split <;> simp
theorem dec_len (l : List Int) (i : Int) : (dec l i).length = l.length := by simp [dec]
theorem idx_some {p : Int → Bool} {l : List Int} (h : 0 ≤ idx p l) : (idx p l).toNat < l.length ∧ p (l.getD (idx p l).toNat default) = true ∧ ∀ j, j < (idx p l).toNat → p (l.getD j default) = false := by
 unfold idx at *
 split at h
 ·rename_i hl
  rw [if_pos hl]
  refine ⟨by simpa using hl, ?_, ?_⟩
  ·have := List.findIdx_getElem (w := hl)
   simpa [hl] using this
  ·intro j hj
   have hj' : j < l.findIdx p := by simpa using hj
   have := List.not_of_lt_findIdx hj'
   simpa [Nat.lt_trans hj' hl] using this
 ·omega
theorem idx_none {p : Int → Bool} {l : List Int} (h : ¬ 0 ≤ idx p l) : ∀ x ∈ l, p x = false := by
 unfold idx at h
 split at h
 ·omega
 ·rename_i hl
  intro x hx
  have := List.findIdx_eq_length.1 (Nat.le_antisymm List.findIdx_le_length (Nat.not_lt.1 hl)) x hx
  simpa using this
theorem idx_lt (p : Int → Bool) (l : List Int) : idx p l < l.length := by
 unfold idx
 split <;> omega
/-- The next one round. -/
theorem round_ok {a : List Int} {last : Int} (hs : a.Pairwise (· < ·)) (h0 : ∀ q ∈ a, 0 ≤ q) (hn : a ≠ []) (hl : -1 ≤ last) : round a last ∈ a ∧ ((last < round a last ∧ ∀ j ∈ a, last < j → round a last ≤ j) ∨ ((∀ j ∈ a, j ≤ last) ∧ ∀ j ∈ a, round a last ≤ j)) := by
 have hpos : 0 < a.length := List.length_pos_iff.2 hn
 have hle : ∀ i j, (hij : i ≤ j) → (hj : j < a.length) → a[i]'(by omega) ≤ a[j] := fun i j hij hj => by
  rcases Nat.lt_or_eq_of_le hij with h | rfl
  ·have := List.pairwise_iff_getElem.1 hs i j (by omega) hj h
   omega
  ·exact Int.le_refl _
 have first : ∀ j ∈ a, a.getD 0 default ≤ j := fun j hj => by
  obtain ⟨i, hi, rfl⟩ := List.getElem_of_mem hj
  have := hle 0 i (by omega) hi
  simpa [hpos] using this
 have m0 : a.getD 0 default ∈ a := by simp [hpos]
 unfold round
 split
 ·rename_i h
  obtain ⟨h1, h2, h3⟩ := idx_some h.1
  generalize (idx (fun i => decide (last < i)) a).toNat = k at *
  refine ⟨by simp [h1], .inl ⟨by simpa using h2, fun j hj hlt => ?_⟩⟩
  obtain ⟨i, hi, rfl⟩ := List.getElem_of_mem hj
  by_cases e : i < k
  ·have := h3 i e
   simp [hi] at this
   omega
  ·have := hle k i (by omega) hi
   simpa [h1] using this
 ·rename_i h
  refine ⟨m0, ?_⟩
  by_cases hlast : 0 ≤ last
  ·have hx := idx_none (fun x => h ⟨x, hlast⟩)
   exact .inr ⟨fun j hj => by have := hx j hj; simpa using this, first⟩
  ·exact .inl ⟨by have := h0 _ m0; omega, fun j hj _ => first j hj⟩
theorem getD_mem {l : List Int} {i : Nat} (h : i < l.length) : l.getD i default ∈ l := by
 rw [List.getD_eq_getElem?_getD, List.getElem?_eq_getElem h]
 exact List.getElem_mem h
theorem next_none {picks left : List Int} {step last : Int} (h : next picks step left last < 0) : all left = [] := by
 unfold next at h
 split at h
 ·rename_i hl; exact List.length_eq_zero_iff.1 hl
 ·rename_i hl
  exfalso
  have hmem : ∀ q ∈ all left, 0 ≤ q := fun q hq => (mem_all.1 hq).1
  have hpos : 0 < (all left).length := by omega
  split at h
  ·have := pk_bd (c := picks.getD step.toNat default) (n := (all left).length) (by omega)
   have hi : (pk (picks.getD step.toNat default) (all left).length).toNat < (all left).length := by omega
   have := hmem _ (getD_mem hi)
   omega
  ·unfold round at h
   split at h
   ·rename_i hk
    have hi := (idx_some hk.1).1
    have := hmem _ (getD_mem hi)
    omega
   ·have := hmem _ (getD_mem hpos)
    omega
theorem next_mem {picks left : List Int} {step last : Int} (h : ¬ next picks step left last < 0) : next picks step left last ∈ all left := by
 unfold next at *
 split at h
 ·exact absurd (by omega) h
 ·rename_i hl
  rw [if_neg hl]
  have hpos : 0 < (all left).length := by omega
  split
  ·have := pk_bd (c := picks.getD step.toNat default) (n := (all left).length) (by omega)
   have hi : (pk (picks.getD step.toNat default) (all left).length).toNat < (all left).length := by omega
   exact getD_mem hi
  ·unfold round
   split
   ·rename_i hk
    exact getD_mem (idx_some hk.1).1
   ·exact getD_mem hpos
theorem next_eq_neg {picks left : List Int} {step last : Int} (h : all left = []) : next picks step left last = -1 := by
 unfold next
 rw [if_pos (by rw [h]; rfl)]
theorem next_ok {picks left : List Int} {step last : Int} (h : ¬ next picks step left last < 0) : 0 ≤ next picks step left last ∧ next picks step left last < left.length ∧ 0 < left.getD (next picks step left last).toNat default := mem_all.1 (next_mem h)
end R11
end Go.GL

set_option linter.unusedVariables false
namespace Go.GL
/-! ### Turns: who is next, one behind the other -/
namespace R11
def tot (l : List Int) : Nat := (l.map Int.toNat).sum
def Nn (l : List Int) : Prop := ∀ x ∈ l, 0 ≤ x
theorem Nn.at {l : List Int} (h : Nn l) (i : Nat) : 0 ≤ l.getD i default := by
 by_cases hi : i < l.length
 ·exact h _ (getD_mem hi)
 ·rw [List.getD_eq_getElem?_getD, List.getElem?_eq_none (by omega)]; exact Int.le_refl _
theorem tot_set : ∀ (l : List Int) (i : Nat), i < l.length → 0 < l.getD i default → tot (l.set i (l.getD i default - 1)) + 1 = tot l
 | [], i, h, _ => absurd h (by simp)
 | x :: l, 0, _, h => by
  simp only [List.getD_cons_zero] at h
  simp only [List.set_cons_zero, List.getD_cons_zero, tot, List.map_cons, List.sum_cons]
  omega
 | x :: l, i + 1, h, h2 => by
  have := tot_set l i (by simpa using h) (by simpa using h2)
  simp only [List.set_cons_succ, List.getD_cons_succ, tot, List.map_cons, List.sum_cons] at this ⊢
  omega
theorem dec_tot {l : List Int} {i : Int} (h : 0 ≤ i ∧ i < l.length ∧ 0 < l.getD i.toNat default) : tot (dec l i) + 1 = tot l := tot_set l i.toNat (by omega) h.2.2
theorem dec_nn {l : List Int} (hl : Nn l) {i : Int} (h : 0 ≤ i ∧ i < l.length ∧ 0 < l.getD i.toNat default) : Nn (dec l i) := by
 intro x hx
 unfold dec at hx
 rcases List.mem_or_eq_of_mem_set hx with hx | rfl
 ·exact hl x hx
 ·omega
theorem dec_get {l : List Int} {i : Int} (h : 0 ≤ i ∧ i < l.length) (w : Nat) : (dec l i).getD w default = if (w : Int) = i then l.getD w default - 1 else l.getD w default := by
 unfold dec
 rw [List.getD_eq_getElem?_getD, List.getElem?_set, List.getD_eq_getElem?_getD]
 by_cases e : i.toNat = w
 ·subst e
  rw [if_pos rfl, if_pos (by omega), if_pos (by omega)]
  rfl
 ·rw [if_neg e, if_neg (by omega), List.getD_eq_getElem?_getD]
theorem all_nil {l : List Int} (h : all l = []) (w : Nat) : l.getD w default ≤ 0 := by
 by_cases hw : w < l.length
 ·by_cases h1 : 0 < l.getD w default
  ·have : (w : Int) ∈ all l := mem_all.2 ⟨by omega, by omega, by simpa using h1⟩
   rw [h] at this
   cases this
  ·omega
 ·rw [List.getD_eq_getElem?_getD, List.getElem?_eq_none (by omega)]; exact Int.le_refl _
theorem tot_pos {l : List Int} (h : tot l ≠ 0) : all l ≠ [] := by
 intro ha
 apply h
 have : ∀ x ∈ l, x ≤ 0 := fun x hx => by
  obtain ⟨i, hi, rfl⟩ := List.getElem_of_mem hx
  have := all_nil ha i
  simpa [hi] using this
 unfold tot
 have key : ∀ l : List Int, (∀ x ∈ l, x ≤ 0) → (l.map Int.toNat).sum = 0 := by
  intro l
  induction l with
  | nil => intro _; rfl
  | cons x l ih =>
   intro hl
   have h1 := hl x (by simp)
   have h2 := ih fun y hy => hl y (by simp [hy])
   simp only [List.map_cons, List.sum_cons]
   omega
 exact key l this
/-- The turns go on from the i-th one, with so much left, behind the last one. -/
structure Go (picks l : List Int) (i : Nat) (now : List Int) (last : Int) : Prop where
 run : l.drop i = turnsF picks (100000 - i) i now last
 nn : Nn now
 lim : tot now + i < 100000
theorem Go.start {picks left : List Int} (h : Nn left) (ht : tot left < 100000) : Go picks (turns picks left) 0 left (-1) := ⟨rfl, h, by omega⟩
theorem drop_getD {l : List Int} {i : Nat} (h : i < l.length) : l.drop i = l.getD i default :: l.drop (i + 1) := by
 rw [List.drop_eq_getElem_cons h]; simp [h]
theorem Go.step {picks l now : List Int} {i : Nat} {last : Int} (h : Go picks l i now last) (hi : i < l.length) :
  next picks i now last = l.getD i default ∧ (0 ≤ l.getD i default ∧ l.getD i default < now.length ∧ 0 < now.getD (l.getD i default).toNat default) ∧ Go picks l (i + 1) (dec now (l.getD i default)) (l.getD i default) := by
 have hr := h.run
 have hl := h.lim
 obtain ⟨f, hf⟩ : ∃ f, 100000 - i = f + 1 := ⟨100000 - i - 1, by omega⟩
 rw [hf, drop_getD hi] at hr
 unfold turnsF at hr
 split at hr
 ·cases hr
 ·rename_i hn
  injection hr with h1 h2
  have hok := next_ok hn
  rw [h1]
  refine ⟨rfl, hok, ?_, dec_nn h.nn hok, ?_⟩
  ·rw [h2, show 100000 - (i + 1) = f by omega]
  ·have := dec_tot hok
   omega
theorem Go.stop {picks l now : List Int} {i : Nat} {last : Int} (h : Go picks l i now last) (hi : i = l.length) : next picks i now last = -1 ∧ ∀ w, now.getD w default = 0 := by
 have hr := h.run
 have hl := h.lim
 obtain ⟨f, hf⟩ : ∃ f, 100000 - i = f + 1 := ⟨100000 - i - 1, by omega⟩
 rw [hf, hi, List.drop_length] at hr
 unfold turnsF at hr
 split at hr
 ·rename_i hn
  have ha := next_none hn
  refine ⟨next_eq_neg ha, fun w => ?_⟩
  have h1 := all_nil ha w
  have h2 := h.nn.at w
  omega
 ·cases hr
theorem turnsF_len (picks : List Int) : ∀ (f s : Nat) (left : List Int) (last : Int), Nn left → (turnsF picks f s left last).length ≤ tot left
 | 0, s, left, last, _ => by simp [turnsF]
 | f + 1, s, left, last, h => by
  unfold turnsF
  split
  ·simp
  ·rename_i hn
   have hok := next_ok hn
   have := turnsF_len picks f (s + 1) _ (next picks s left last) (dec_nn h hok)
   have := dec_tot hok
   simp only [List.length_cons]
   omega
theorem turns_len {picks left : List Int} (h : Nn left) : (turns picks left).length ≤ tot left := turnsF_len _ _ _ _ _ h
/-- How often a worker has had its turn. -/
def cnt (l : List Int) (i : Nat) (w : Int) : Nat := ((l.take i).filter fun x => decide (x = w)).length
theorem cnt_zero (l : List Int) (w : Int) : cnt l 0 w = 0 := rfl
theorem cnt_succ {l : List Int} {i : Nat} (hi : i < l.length) (w : Int) : cnt l (i + 1) w = cnt l i w + if l.getD i default = w then 1 else 0 := by
 unfold cnt
 rw [List.take_succ_eq_append_getElem hi, List.filter_append, List.length_append, show l.getD i default = l[i] by simp [hi]]
 by_cases e : l[i] = w <;> simp [e]
/-- What is left of each. -/
structure Had (left l : List Int) (i : Nat) (now : List Int) : Prop where
 len : now.length = left.length
 had : ∀ w : Nat, now.getD w default + cnt l i w = left.getD w default
theorem Had.start (left l : List Int) : Had left l 0 left := ⟨rfl, fun w => by rw [cnt_zero]; omega⟩
theorem Had.step {left l now : List Int} {i : Nat} (h : Had left l i now) (hi : i < l.length) (hk : 0 ≤ l.getD i default ∧ l.getD i default < now.length) : Had left l (i + 1) (dec now (l.getD i default)) := by
 refine ⟨by rw [dec_len, h.len], fun w => ?_⟩
 have := h.had w
 rw [dec_get hk, cnt_succ hi]
 by_cases e : (w : Int) = l.getD i default
 ·rw [if_pos e, if_pos e.symm]; omega
 ·rw [if_neg e, if_neg (Ne.symm e)]; omega
/-! #### none waits long -/
/-- How far it is from the last one on to another, round. -/
def far (n : Nat) (last w : Int) : Int := if last < w then w - last else w - last + n
theorem far_bd {n : Nat} {last w : Int} (h1 : -1 ≤ last) (h2 : last < n) (h3 : 0 ≤ w) (h4 : w < n) : 1 ≤ far n last w ∧ far n last w ≤ n := by unfold far; split <;> omega
theorem far_next {now : List Int} {last w : Int} (h1 : -1 ≤ last) (h2 : last < now.length) (hw : w ∈ all now) (hne : round (all now) last ≠ w) : far now.length (round (all now) last) w + 1 ≤ far now.length last w := by
 have hb := mem_all.1 hw
 have hne' : all now ≠ [] := fun e => by rw [e] at hw; cases hw
 obtain ⟨hm, h | h⟩ := round_ok (all_srt now) (fun q hq => (mem_all.1 hq).1) hne' h1
 ·have hmb := mem_all.1 hm
  have := h.2 w hw
  unfold far
  split <;> split <;> omega
 ·have hmb := mem_all.1 hm
  have := h.1 w hw
  have := h.2 w hw
  unfold far
  split <;> split <;> omega
theorem next_round {picks now : List Int} {i : Nat} {last : Int} (hi : picks.length ≤ i) (hn : ¬ next picks i now last < 0) : next picks i now last = round (all now) last := by
 unfold next at *
 split at hn
 ·exact absurd (by omega) hn
 ·rename_i h
  rw [if_neg h, if_neg (by omega)]
/-! #### workers go round -/
/-- All that are left have had as many turns, but that those behind the last one have had one less. -/
structure Rnd (l now : List Int) (i : Nat) (last : Int) (r : Nat) : Prop where
 le : ∀ w : Nat, cnt l i w ≤ r
 hi : ∀ w : Nat, 0 < now.getD w default → (w : Int) ≤ last → cnt l i w = r
 lo : ∀ w : Nat, 0 < now.getD w default → last < (w : Int) → cnt l i w + 1 = r
 lb : -1 ≤ last
theorem Rnd.step {l now : List Int} {i r : Nat} {last : Int} (h : Rnd l now i last r) (hi : i < l.length) (hk : l.getD i default = round (all now) last) (hne : all now ≠ []) : ∃ r', Rnd l (dec now (l.getD i default)) (i + 1) (l.getD i default) r' := by
 have hr := round_ok (all_srt now) (fun q hq => (mem_all.1 hq).1) hne h.lb
 rw [← hk] at hr
 obtain ⟨hm, hr⟩ := hr
 have hmb := mem_all.1 hm
 have hk2 : 0 ≤ l.getD i default ∧ l.getD i default < now.length := ⟨hmb.1, hmb.2.1⟩
 have live : ∀ w : Nat, 0 < (dec now (l.getD i default)).getD w default → 0 < now.getD w default := fun w hw => by
  rw [dec_get hk2] at hw
  split at hw <;> omega
 have mem : ∀ w : Nat, 0 < now.getD w default → (w : Int) ∈ all now := fun w hw => by
  have hlt : w < now.length := by
   apply Decidable.byContradiction
   intro hx
   rw [List.getD_eq_getElem?_getD, List.getElem?_eq_none (by omega)] at hw
   exact absurd hw (by decide)
  exact mem_all.2 ⟨by omega, by omega, by simpa using hw⟩
 generalize hkk : l.getD i default = k at *
 have hkn : ((k.toNat : Nat) : Int) = k := by omega
 have hkc : 0 < now.getD k.toNat default := hmb.2.2
 have ck := cnt_succ hi
 rw [hkk] at ck
 rcases hr with hr | hr
 ·refine ⟨r, ⟨fun w => ?_, fun w hw hle => ?_, fun w hw hlt => ?_, by omega⟩⟩
  ·rw [ck]
   have := h.le w
   split
   ·rename_i e
    have h1 := h.lo w (by rw [show w = k.toNat by omega]; exact hkc) (by omega)
    omega
   ·omega
  ·rw [ck]
   have hl := live w hw
   split
   ·rename_i e
    have h1 := h.lo w hl (by omega)
    omega
   ·rename_i e
    by_cases hlast : (w : Int) ≤ last
    ·exact h.hi w hl hlast
    ·have := hr.2 w (mem w hl) (by omega)
     omega
  ·rw [ck]
   have hl := live w hw
   rw [if_neg (by omega)]
   exact h.lo w hl (by omega)
 ·refine ⟨r + 1, ⟨fun w => ?_, fun w hw hle => ?_, fun w hw hlt => ?_, by omega⟩⟩
  ·rw [ck]
   have := h.le w
   split <;> omega
  ·rw [ck]
   have hl := live w hw
   have h1 := hr.1 w (mem w hl)
   have h2 := hr.2 w (mem w hl)
   have h3 := h.hi w hl h1
   rw [if_pos (by omega)]
   omega
  ·rw [ck]
   have hl := live w hw
   have h1 := hr.1 w (mem w hl)
   have h3 := h.hi w hl h1
   rw [if_neg (by omega)]
   omega
theorem Rnd.start (l left : List Int) : Rnd l left 0 (-1) 1 := ⟨fun w => by rw [cnt_zero]; omega, fun w _ h => by omega, fun w _ _ => by rw [cnt_zero], by omega⟩
end R11
end Go.GL

set_option linter.unusedVariables false
namespace Go.GL
namespace R11
/-! #### none waits longer than for as many turns as there are workers -/
structure Wt (picks left l : List Int) (w : Nat) (i : Nat) (now : List Int) (last waits : Int) : Prop where
 go : Go picks l i now last
 hd : Had left l i now
 lb : -1 ≤ last
 ub : last < left.length
 w0 : 0 ≤ waits
 wn : waits ≤ left.length
 fr : 0 < now.getD w default → waits + far left.length last w ≤ left.length
 zr : i ≤ picks.length → waits = 0
theorem getD_pos {l : List Int} {w : Nat} (h : 0 < l.getD w default) : w < l.length := by
 apply Decidable.byContradiction
 intro hx
 rw [List.getD_eq_getElem?_getD, List.getElem?_eq_none (by omega)] at h
 exact absurd h (by decide)
theorem Wt.start {picks left : List Int} (h : Nn left) (ht : tot left < 100000) (w : Nat) : Wt picks left (turns picks left) w 0 left (-1) 0 :=
 ⟨Go.start h ht, Had.start _ _, by omega, by omega, by omega, by omega, fun hw => by
  have := getD_pos hw
  unfold far
  split <;> omega, fun _ => rfl⟩
theorem Wt.step {picks left l now : List Int} {w i : Nat} {last waits : Int} (h : Wt picks left l w i now last waits) (hi : i < l.length) :
  ∃ now' last', (l.getD i default = w → Wt picks left l w (i + 1) now' last' 0) ∧
   (l.getD i default ≠ w → picks.length ≤ i → (cnt l i w : Int) < left.getD w default → Wt picks left l w (i + 1) now' last' (waits + 1)) ∧
   (l.getD i default ≠ w → ¬ (picks.length ≤ i ∧ (cnt l i w : Int) < left.getD w default) → Wt picks left l w (i + 1) now' last' waits) := by
 obtain ⟨hnx, hok, hg⟩ := h.go.step hi
 have hh := h.hd.step hi ⟨hok.1, hok.2.1⟩
 have hlen := h.hd.len
 have hlast : last < now.length := by rw [hlen]; exact h.ub
 have hw0 := h.w0
 have hdec : ∀ hne : l.getD i default ≠ w, (dec now (l.getD i default)).getD w default = now.getD w default := fun hne => by
  rw [dec_get ⟨hok.1, hok.2.1⟩, if_neg (fun e => hne e.symm)]
 have hnow : ∀ hc : 0 < now.getD w default, (cnt l i w : Int) < left.getD w default := fun hc => by
  have := h.hd.had w
  omega
 refine ⟨dec now (l.getD i default), l.getD i default, fun e => ?_, fun hne hp hc => ?_, fun hne hc => ?_⟩
 ·refine ⟨hg, hh, by omega, by omega, by omega, by omega, fun hw => ?_, fun _ => rfl⟩
  rw [e]
  unfold far
  split <;> omega
 ·have hpos : 0 < now.getD w default := by
   have := h.hd.had w
   omega
  have hf := h.fr hpos
  have hwl := getD_pos hpos
  have hm : (w : Int) ∈ all now := mem_all.2 ⟨by omega, by omega, by simpa using hpos⟩
  have hr := next_round (picks := picks) (now := now) (last := last) hp (by rw [hnx]; omega)
  rw [hnx] at hr
  have hfar := far_next h.lb hlast hm (by rw [← hr]; exact hne)
  rw [← hr, hlen] at hfar
  have hb := far_bd (n := left.length) (last := l.getD i default) (w := w) (by omega) (by omega) (by omega) (by omega)
  refine ⟨hg, hh, by omega, by omega, by omega, by omega, fun _ => by omega, fun hp2 => by omega⟩
 ·refine ⟨hg, hh, by omega, by omega, h.w0, h.wn, fun hw => ?_, fun hp2 => h.zr (by omega)⟩
  rw [hdec hne] at hw
  have h1 := hnow hw
  have h2 := h.zr (by omega)
  have hwl := getD_pos hw
  have hb := far_bd (n := left.length) (last := l.getD i default) (w := w) (by omega) (by omega) (by omega) (by omega)
  omega
/-! #### workers go round -/
theorem round_all {left : List Int} (h : Nn left) (ht : tot left < 100000) : ∀ i, i ≤ (turns [] left).length → ∃ now last r, Go [] (turns [] left) i now last ∧ Had left (turns [] left) i now ∧ Rnd (turns [] left) now i last r
 | 0, _ => ⟨left, -1, 1, Go.start h ht, Had.start _ _, Rnd.start _ _⟩
 | i + 1, hi => by
  obtain ⟨now, last, r, hg, hh, hr⟩ := round_all h ht i (by omega)
  obtain ⟨hnx, hok, hg2⟩ := hg.step (show i < _ by omega)
  have hne : all now ≠ [] := fun e => by
   rw [next_eq_neg e] at hnx
   omega
  have hrd := next_round (picks := []) (now := now) (last := last) (i := i) (by simp) (by rw [hnx]; omega)
  rw [hnx] at hrd
  obtain ⟨r', hr'⟩ := hr.step (show i < _ by omega) hrd hne
  exact ⟨_, _, r', hg2, hh.step (show i < _ by omega) ⟨hok.1, hok.2.1⟩, hr'⟩
theorem round_fair {left : List Int} (h : Nn left) (ht : tot left < 100000) {i : Nat} (hi : i < (turns [] left).length) (w v : Nat) (hw : (cnt (turns [] left) (i + 1) w : Int) < left.getD w default) : cnt (turns [] left) (i + 1) v ≤ cnt (turns [] left) (i + 1) w + 1 := by
 obtain ⟨now, last, r, hg, hh, hr⟩ := round_all h ht (i + 1) (by omega)
 have h1 := hh.had w
 have h2 := hr.le v
 have hpos : 0 < now.getD w default := by omega
 by_cases hl : (w : Int) ≤ last
 ·have := hr.hi w hpos hl; omega
 ·have := hr.lo w hpos (by omega); omega
/-! #### each order is told by some picks -/
def rank : List Int → Nat → Nat
 | [], _ => 0
 | _ :: _, 0 => 0
 | n :: l, t + 1 => (if 0 < n then 1 else 0) + rank l t
theorem rank_succ : ∀ {l : List Int} {t : Nat}, t < l.length → rank l (t + 1) = rank l t + if 0 < l.getD t default then 1 else 0
 | [], t, h => absurd h (by simp)
 | n :: l, 0, h => by cases l <;> simp [rank]
 | n :: l, t + 1, h => by
  have := rank_succ (l := l) (t := t) (by simpa using h)
  simp only [rank, List.getD_cons_succ] at this ⊢
  omega
theorem rank_zero (l : List Int) : rank l 0 = 0 := by cases l <;> rfl
theorem rank_le : ∀ (l : List Int) (t : Nat), rank l t ≤ t
 | [], t => by simp [rank]
 | n :: l, 0 => by simp [rank]
 | n :: l, t + 1 => by
  have := rank_le l t
  simp only [rank]
  split <;> omega
theorem allF_rank : ∀ {l : List Int} {b t : Nat}, t < l.length → 0 < l.getD t default → rank l t < (allF b l).length ∧ (allF b l).getD (rank l t) default = ((b + t : Nat) : Int)
 | [], b, t, h, _ => absurd h (by simp)
 | n :: l, b, 0, h, h2 => by
  have h2' : 0 < n := by simpa using h2
  simp only [rank, allF, if_pos h2']
  simp
 | n :: l, b, t + 1, h, h2 => by
  have ih := allF_rank (l := l) (b := b + 1) (t := t) (by simpa using h) (by simpa using h2)
  simp only [rank, allF]
  split
  ·rw [Nat.add_comm 1]
   simp only [List.length_cons, List.getD_cons_succ]
   refine ⟨by omega, ?_⟩
   rw [ih.2]
   omega
  ·rw [Nat.zero_add]
   refine ⟨ih.1, ?_⟩
   rw [ih.2]
   omega
/-- How many turns each of n workers has from the i-th one on. -/
def nowAt (n : Nat) (T : List Int) (i : Nat) : List Int := (List.range n).map fun (k : Nat) => (((T.drop i).filter fun x => decide (x = (k : Int))).length : Int)
theorem nowAt_len (n : Nat) (T : List Int) (i : Nat) : (nowAt n T i).length = n := by simp [nowAt]
theorem nowAt_get {n : Nat} {T : List Int} {i k : Nat} (hk : k < n) : (nowAt n T i).getD k default = (((T.drop i).filter fun x => decide (x = (k : Int))).length : Int) := by
 unfold nowAt
 rw [List.getD_eq_getElem?_getD, List.getElem?_map, List.getElem?_range hk]
 rfl
theorem ext_getD {l m : List Int} (h : l.length = m.length) (hg : ∀ k, k < l.length → l.getD k default = m.getD k default) : l = m := by
 apply List.ext_getElem h
 intro i h1 h2
 have := hg i h1
 simpa [h1, h2] using this
theorem nowAt_dec {n : Nat} {T : List Int} {i : Nat} (hi : i < T.length) (hT : ∀ x ∈ T, 0 ≤ x ∧ x < n) : dec (nowAt n T i) (T.getD i default) = nowAt n T (i + 1) ∧ 0 < (nowAt n T i).getD (T.getD i default).toNat default := by
 have ht := hT _ (getD_mem hi)
 have hd := drop_getD hi
 constructor
 ·apply ext_getD (by rw [dec_len, nowAt_len, nowAt_len])
  intro k hk
  rw [dec_len, nowAt_len] at hk
  rw [dec_get ⟨ht.1, by rw [nowAt_len]; exact ht.2⟩, nowAt_get hk, nowAt_get hk, hd, List.filter_cons]
  by_cases e : T.getD i default = k
  ·rw [if_pos e.symm, if_pos (by simpa using e), List.length_cons]
   omega
  ·rw [if_neg (Ne.symm e), if_neg (by simpa using e)]
 ·rw [nowAt_get (by omega), hd, List.filter_cons, if_pos (decide_eq_true (by omega)), List.length_cons]
  omega
def picksAt (n : Nat) (T : List Int) (i : Nat) : List Int := (List.range i).map fun j => (rank (nowAt n T j) (T.getD j default).toNat : Int)
theorem picksAt_succ (n : Nat) (T : List Int) (i : Nat) : picksAt n T (i + 1) = picksAt n T i ++ [(rank (nowAt n T i) (T.getD i default).toNat : Int)] := by
 unfold picksAt
 rw [List.range_succ, List.map_append]
 rfl
theorem picksAt_len (n : Nat) (T : List Int) (i : Nat) : (picksAt n T i).length = i := by simp [picksAt]
theorem picksAt_get {n : Nat} {T : List Int} {i j : Nat} (h : j < i) : (picksAt n T i).getD j default = (rank (nowAt n T j) (T.getD j default).toNat : Int) := by
 unfold picksAt
 rw [List.getD_eq_getElem?_getD, List.getElem?_map, List.getElem?_range h]
 rfl
theorem turnsF_picks {n : Nat} {T : List Int} (hT : ∀ x ∈ T, 0 ≤ x ∧ x < n) : ∀ (m i f : Nat) (last : Int), i + m = T.length → m < f → turnsF (picksAt n T T.length) f i (nowAt n T i) last = T.drop i
 | 0, i, f, last, hm, hf => by
  obtain ⟨f, rfl⟩ : ∃ f', f = f' + 1 := ⟨f - 1, by omega⟩
  have hn : all (nowAt n T i) = [] := by
   apply List.eq_nil_iff_forall_not_mem.2
   intro q hq
   have hq := mem_all.1 hq
   rw [nowAt_len] at hq
   have h3 := hq.2.2
   rw [nowAt_get (by omega), List.drop_of_length_le (by omega)] at h3
   simp at h3
  unfold turnsF
  rw [if_pos (by rw [next_eq_neg hn]; decide), List.drop_of_length_le (by omega)]
 | m + 1, i, f, last, hm, hf => by
  obtain ⟨f, rfl⟩ : ∃ f', f = f' + 1 := ⟨f - 1, by omega⟩
  have hi : i < T.length := by omega
  have ht := hT _ (getD_mem hi)
  obtain ⟨hd, hp⟩ := nowAt_dec hi hT
  have hnl := nowAt_len n T i
  obtain ⟨r1, r2⟩ := allF_rank (b := 0) (l := nowAt n T i) (t := (T.getD i default).toNat) (by omega) hp
  have hnx : next (picksAt n T T.length) i (nowAt n T i) last = T.getD i default := by
   unfold next all
   rw [if_neg (by omega), if_pos ⟨by omega, by rw [picksAt_len]; omega⟩]
   rw [show ((i : Nat) : Int).toNat = i from rfl, picksAt_get hi]
   have : pk (rank (nowAt n T i) (T.getD i default).toNat : Int) (allF 0 (nowAt n T i)).length = (rank (nowAt n T i) (T.getD i default).toNat : Int) := by
    unfold pk
    rw [if_neg (by omega), Int.emod_eq_of_lt (by omega) (by omega)]
   rw [this, Int.toNat_natCast, r2]
   omega
  unfold turnsF
  rw [hnx, if_neg (by omega), hd, turnsF_picks hT m (i + 1) f _ (by omega) (by omega), drop_getD hi]
theorem turns_picks {n : Nat} {T : List Int} (hT : ∀ x ∈ T, 0 ≤ x ∧ x < n) (hl : T.length < 100000) : turns (picksAt n T T.length) (nowAt n T 0) = T := turnsF_picks hT T.length 0 100000 (-1) (by omega) (by omega)
/-! #### a worker without steps -/
def ins (l : List Int) (k : Nat) : List Int := l.take k ++ 0 :: l.drop k
def sh (k : Nat) (x : Int) : Int := if (k : Int) ≤ x then x + 1 else x
theorem sh_lt {k : Nat} {x y : Int} : sh k x < sh k y ↔ x < y := by
 unfold sh
 split <;> split <;> omega
theorem allF_ins : ∀ (l : List Int) (k b : Nat), k ≤ l.length → allF b (ins l k) = (allF b l).map (sh (b + k))
 | l, 0, b, _ => by
  show allF b (0 :: l) = _
  simp only [allF]
  rw [if_neg (by omega)]
  have : ∀ (l : List Int) (c : Nat), b ≤ c → allF (c + 1) l = (allF c l).map (sh (b + 0)) := by
   intro l
   induction l with
   | nil => intro c _; rfl
   | cons n l ih =>
    intro c hc
    simp only [allF]
    rw [ih (c + 1) (by omega)]
    split
    ·rw [List.map_cons]
     congr 1
     unfold sh
     rw [if_pos (by omega)]
     omega
    ·rfl
  exact this l b (Nat.le_refl _)
 | [], k + 1, b, h => absurd h (by simp)
 | n :: l, k + 1, b, h => by
  have ih := allF_ins l k (b + 1) (by simpa using h)
  show allF b (n :: ins l k) = _
  simp only [allF]
  rw [ih, show b + 1 + k = b + (k + 1) by omega]
  split
  ·rw [List.map_cons]
   congr 1
   unfold sh
   rw [if_neg (by omega)]
  ·rfl
theorem ins_len {l : List Int} {k : Nat} (h : k ≤ l.length) : (ins l k).length = l.length + 1 := by
 unfold ins
 rw [List.length_append, List.length_take, List.length_cons, List.length_drop]
 omega
theorem all_ins {l : List Int} {k : Nat} (h : k ≤ l.length) : all (ins l k) = (all l).map (sh k) := by
 have := allF_ins l k 0 h
 rwa [Nat.zero_add] at this
theorem getD_map {l : List Int} {f : Int → Int} {i : Nat} (h : i < l.length) : (l.map f).getD i default = f (l.getD i default) := by
 rw [List.getD_eq_getElem?_getD, List.getElem?_map, List.getD_eq_getElem?_getD, List.getElem?_eq_getElem h]
 rfl
theorem idx_map (p q : Int → Bool) (f : Int → Int) (l : List Int) (h : ∀ x, q (f x) = p x) : idx q (l.map f) = idx p l := by
 unfold idx
 rw [List.length_map, List.findIdx_map]
 have : q ∘ f = p := funext h
 rw [this]
theorem round_map {a : List Int} {last : Int} {k : Nat} (hn : 0 < a.length) (hl : -1 ≤ last) : round (a.map (sh k)) (sh k last) = sh k (round a last) := by
 have e : idx (fun i => decide (sh k last < i)) (a.map (sh k)) = idx (fun i => decide (last < i)) a := idx_map _ _ _ _ fun x => by simp only [sh_lt]
 have h0 : 0 ≤ sh k last ↔ 0 ≤ last := by unfold sh; split <;> omega
 unfold round
 rw [e]
 simp only [h0]
 split
 ·rename_i h
  exact getD_map (idx_some h.1).1
 ·exact getD_map hn
theorem next_ins {picks left : List Int} {step last : Int} {k : Nat} (hk : k ≤ left.length) (hl : -1 ≤ last) (hn : ¬ next picks step left last < 0) : next picks step (ins left k) (sh k last) = sh k (next picks step left last) := by
 unfold next at *
 rw [all_ins hk, List.length_map]
 split at hn
 ·exact absurd (by omega) hn
 ·rename_i h
  rw [if_neg h, if_neg h]
  split
  ·have := pk_bd (c := picks.getD step.toNat default) (n := (all left).length) (by omega)
   exact getD_map (by omega)
  ·exact round_map (by omega) hl
theorem ins_get {l : List Int} {k i : Nat} (hk : k ≤ l.length) : (ins l k).getD (sh k i).toNat default = l.getD i default := by
 unfold ins sh
 by_cases h : k ≤ i
 ·rw [if_pos (by omega), List.getD_eq_getElem?_getD, List.getElem?_append_right (by rw [List.length_take]; omega), List.length_take, show ((i : Int) + 1).toNat - min k l.length = (i - k) + 1 by omega, List.getElem?_cons_succ, List.getElem?_drop, List.getD_eq_getElem?_getD, show k + (i - k) = i by omega]
 ·rw [if_neg (by omega), List.getD_eq_getElem?_getD, List.getElem?_append_left (by rw [List.length_take]; omega), List.getD_eq_getElem?_getD, List.getElem?_take_of_lt (by omega)]
  rfl
theorem ins_dec {l : List Int} {k : Nat} {i : Int} (hk : k ≤ l.length) (hi : 0 ≤ i ∧ i < l.length) : dec (ins l k) (sh k i) = ins (dec l i) k := by
 obtain ⟨j, rfl⟩ : ∃ j : Nat, i = j := ⟨i.toNat, by omega⟩
 have hg := ins_get (l := l) (k := k) (i := j) hk
 unfold dec
 rw [hg, Int.toNat_natCast]
 unfold ins sh
 by_cases h : k ≤ j
 ·rw [if_pos (by omega), List.set_append, if_neg (by rw [List.length_take]; omega), List.length_take, show ((j : Int) + 1).toNat - min k l.length = (j - k) + 1 by omega, List.set_cons_succ, List.take_set_of_le (by omega), List.drop_set, if_neg (by omega)]
 ·rw [if_neg (by omega), List.set_append, if_pos (by rw [List.length_take]; omega), Int.toNat_natCast, List.take_set, List.drop_set, if_pos (by omega)]
theorem turnsF_ins {picks : List Int} {k : Nat} : ∀ (f s : Nat) (left : List Int) (last : Int), k ≤ left.length → -1 ≤ last → turnsF picks f s (ins left k) (sh k last) = (turnsF picks f s left last).map (sh k)
 | 0, s, left, last, _, _ => rfl
 | f + 1, s, left, last, hk, hl => by
  unfold turnsF
  by_cases hn : next picks s left last < 0
  ·have ha := next_none hn
   have ha2 : all (ins left k) = [] := by rw [all_ins hk, ha]; rfl
   rw [if_pos hn, if_pos (by rw [next_eq_neg ha2]; decide)]
   rfl
  ·have hok := next_ok hn
   rw [next_ins hk hl hn, if_neg hn, if_neg (by unfold sh; split <;> omega), ins_dec hk ⟨hok.1, hok.2.1⟩, turnsF_ins f (s + 1) _ _ (by rw [dec_len]; exact hk) (by omega)]
   rfl
theorem turns_ins {picks left : List Int} {k : Nat} (hk : k ≤ left.length) : turns picks (ins left k) = (turns picks left).map (sh k) := by
 have := turnsF_ins (picks := picks) (k := k) 100000 0 left (-1) hk (by omega)
 rwa [show sh k (-1) = -1 by unfold sh; rw [if_neg (by omega)]] at this
theorem turnsF_one {picks : List Int} : ∀ (m f s : Nat) (last : Int), m < f → turnsF picks f s [(m : Int)] last = List.replicate m 0
 | 0, f, s, last, h => by
  obtain ⟨f, rfl⟩ : ∃ f', f = f' + 1 := ⟨f - 1, by omega⟩
  unfold turnsF
  have ha : all [((0 : Nat) : Int)] = [] := rfl
  rw [if_pos (by rw [next_eq_neg ha]; decide)]
  rfl
 | m + 1, f, s, last, h => by
  obtain ⟨f, rfl⟩ : ∃ f', f = f' + 1 := ⟨f - 1, by omega⟩
  have ha : all [((m + 1 : Nat) : Int)] = [0] := by
   unfold all
   simp only [allF]
   rw [if_pos (by omega)]
   rfl
  have hnx : next picks s [((m + 1 : Nat) : Int)] last = 0 := by
   have hnn : ¬ next picks s [((m + 1 : Nat) : Int)] last < 0 := fun hx => by
    have := next_none hx
    rw [ha] at this
    cases this
   have := next_mem hnn
   rw [ha] at this
   simpa using this
  unfold turnsF
  rw [hnx, if_neg (by omega)]
  have hd : dec [((m + 1 : Nat) : Int)] 0 = [(m : Int)] := by
   unfold dec
   simp
  rw [hd, turnsF_one m f (s + 1) 0 (by omega)]
  rfl
theorem turns_one {picks : List Int} {m : Nat} (h : m < 100000) : turns picks [(m : Int)] = List.replicate m 0 := turnsF_one m 100000 0 (-1) h
end R11
end Go.GL

set_option linter.unusedVariables false
namespace Go.GL
theorem nodup_le {α : Type} [DecidableEq α] : ∀ (a b : List α), a.Nodup → (∀ x ∈ a, x ∈ b) → a.length ≤ b.length
 | [], _, _, _ => Nat.zero_le _
 | x :: a, b, hn, hs => by
  obtain ⟨h1, h2⟩ := List.nodup_cons.1 hn
  have hx := hs x List.mem_cons_self
  have h3 := nodup_le a (b.erase x) h2 fun y hy => by
   have : y ≠ x := fun e => h1 (e ▸ hy)
   exact (List.mem_erase_of_ne this).2 (hs y (List.mem_cons_of_mem _ hy))
  have h4 := List.length_erase_of_mem hx
  have h5 : 0 < b.length := List.length_pos_of_mem hx
  rw [List.length_cons]
  omega
/-- The numbers below n. -/
def upto (n : Nat) : List Int := (List.range n).map fun (i : Nat) => (i : Int)
theorem mem_upto {n : Nat} {x : Int} : x ∈ upto n ↔ 0 ≤ x ∧ x < n := by
 unfold upto
 rw [List.mem_map]
 constructor
 ·rintro ⟨i, hi, rfl⟩
  have := List.mem_range.1 hi
  omega
 ·intro h
  exact ⟨x.toNat, List.mem_range.2 (by omega), by omega⟩
theorem upto_nd (n : Nat) : (upto n).Nodup := by
 unfold upto
 rw [List.Nodup, List.pairwise_map]
 exact (List.nodup_range (n := n)).imp fun h e => h (by omega)
theorem upto_len (n : Nat) : (upto n).length = n := by simp [upto]
namespace R19
variable {p v : List Int}
/-! ### Kids -/
theorem mem_kids {t : Nat} {x : Int} : x ∈ kids p t ↔ 0 ≤ x ∧ x < p.length ∧ p.getD x.toNat default = (t : Int) := by
 unfold kids kidsTo
 rw [List.mem_map]
 constructor
 ·rintro ⟨i, hi, rfl⟩
  obtain ⟨h1, h2⟩ := List.mem_filter.1 hi
  have := List.mem_range.1 h1
  exact ⟨by omega, by omega, of_decide_eq_true h2⟩
 ·rintro ⟨h0, h1, h2⟩
  exact ⟨x.toNat, List.mem_filter.2 ⟨List.mem_range.2 (by omega), decide_eq_true h2⟩, by omega⟩
theorem kids_nd (p : List Int) (t : Nat) : (kids p t).Nodup := by
 unfold kids kidsTo
 rw [List.Nodup, List.pairwise_map]
 exact ((List.nodup_range (n := p.length)).filter _).imp fun h e => h (by omega)
theorem kid_gt (hr : right p) {t : Nat} {x : Int} (h : x ∈ kids p t) : (t : Int) < x := by
 obtain ⟨h0, h1, h2⟩ := mem_kids.1 h
 obtain ⟨h3, h4⟩ := hr.2 x.toNat (by omega)
 by_cases e : x.toNat = 0
 ·have := h3 e
  omega
 ·have := h4 (by omega)
  omega
theorem par_lt (hr : right p) {x : Nat} (h : x < p.length) : p.getD x default < (x : Int) ∧ -1 ≤ p.getD x default ∧ (p.getD x default < 0 ↔ x = 0) := by
 obtain ⟨h3, h4⟩ := hr.2 x h
 by_cases e : x = 0
 ·have := h3 e
  omega
 ·have := h4 (by omega)
  omega
/-! ### Deques -/
theorem flat_set {D : List (List Int)} {k : Nat} (h : k < D.length) : ∃ r, D.flatten.Perm (D.getD k default ++ r) ∧ ∀ l, (D.set k l).flatten.Perm (l ++ r) := by
 refine ⟨(D.take k).flatten ++ (D.drop (k + 1)).flatten, ?_, fun l => ?_⟩
 ·have e : D = D.take k ++ D.getD k default :: D.drop (k + 1) := by
   have e1 : D.getD k default = D[k] := by simp [h]
   rw [e1, ← List.drop_eq_getElem_cons h, List.take_append_drop]
  have e2 : D.flatten = (D.take k).flatten ++ (D.getD k default ++ (D.drop (k + 1)).flatten) := by
   conv => lhs; rw [e]
   rw [List.flatten_append, List.flatten_cons]
  rw [e2, ← List.append_assoc, ← List.append_assoc]
  exact List.Perm.append_right _ List.perm_append_comm
 ·rw [List.set_eq_take_append_cons_drop, if_pos h, List.flatten_append, List.flatten_cons, ← List.append_assoc, ← List.append_assoc]
  exact List.Perm.append_right _ List.perm_append_comm
theorem findF_none {D : List (List Int)} {w : Nat} : ∀ (f j : Nat), findF D w f j = none → ∀ i, j ≤ i → i < j + f → (D.getD ((w + i) % D.length) default).length = 0
 | 0, j, _, i, h1, h2 => by omega
 | f + 1, j, h, i, h1, h2 => by
  unfold findF at h
  split at h
  ·rename_i h0
   by_cases e : i = j
   ·rw [e]; exact h0
   ·exact findF_none f (j + 1) h i (by omega) (by omega)
  ·exact nomatch h
theorem findF_lt' {D : List (List Int)} {w : Nat} (h0 : 0 < D.length) : ∀ (f j : Nat) {k : Nat}, findF D w f j = some k → k < D.length ∧ 0 < (D.getD k default).length
 | 0, _, _, h => nomatch h
 | f + 1, j, k, h => by
  unfold findF at h
  split at h
  ·exact findF_lt' h0 f (j + 1) h
  ·rename_i h1
   injection h with h
   subst h
   exact ⟨Nat.mod_lt _ h0, by omega⟩
/-- What is taken, and what is left: all that there was. -/
theorem takeM_perm {D : List (List Int)} {w : Nat} (hw : w < D.length) (hn : D.flatten ≠ []) : D.flatten.Perm ((takeM D w).1 :: (takeM D w).2.flatten) ∧ (takeM D w).2.length = D.length := by
 unfold takeM
 split
 ·rename_i h
  obtain ⟨r, h1, h2⟩ := flat_set hw
  refine ⟨?_, by rw [List.length_set]⟩
  refine h1.trans (List.Perm.trans ?_ ((h2 _).symm.cons _))
  generalize D.getD w default = l at *
  have e : l.take (l.length - 1) ++ [l.getD (l.length - 1) default] = l := by
   have e1 : l.getD (l.length - 1) default = l[l.length - 1]'(by omega) := by rw [List.getD_eq_getElem?_getD, List.getElem?_eq_getElem (by omega)]; rfl
   rw [e1]
   have e2 := List.take_append_getElem (l := l) (i := l.length - 1) (by omega)
   rw [e2, List.take_of_length_le (by omega)]
  show (l ++ r).Perm (l.getD (l.length - 1) default :: (l.take (l.length - 1) ++ r))
  conv => lhs; rw [← e]
  rw [List.append_assoc]
  exact List.perm_middle
 ·split
  ·rename_i k hk
   obtain ⟨h3, h4⟩ := findF_lt' (by omega) _ _ hk
   obtain ⟨r, h1, h2⟩ := flat_set h3
   refine ⟨?_, by rw [List.length_set]⟩
   refine h1.trans (List.Perm.trans ?_ ((h2 _).symm.cons _))
   generalize D.getD k default = l at *
   match l, h4 with
   | x :: l, _ => exact List.Perm.refl _
  ·rename_i h hk
   exfalso
   apply hn
   rw [List.flatten_eq_nil_iff]
   intro l hl
   obtain ⟨i, hi, rfl⟩ := List.getElem_of_mem hl
   apply List.eq_nil_of_length_eq_zero
   by_cases hiw : w ≤ i
   ·have := findF_none _ _ hk (i - w) (by omega) (by omega)
    rw [show w + (i - w) = i by omega, Nat.mod_eq_of_lt hi] at this
    simpa [hi] using this
   ·have := findF_none _ _ hk (i + D.length - w) (by omega) (by omega)
    rw [show w + (i + D.length - w) = i + D.length by omega, Nat.add_mod_right, Nat.mod_eq_of_lt hi] at this
    simpa [hi] using this
/-! ### The machine of deques -/
/-- Who is next. -/
def nxt (picks : List Int) (nw n : Nat) (last : Int) : Int := R11.next picks n (List.replicate nw 1) last
theorem nxt_ok {picks : List Int} {nw n : Nat} {last : Int} (h : 1 ≤ nw) : 0 ≤ nxt picks nw n last ∧ nxt picks nw n last < nw := by
 have hne : ¬ R11.next picks n (List.replicate nw 1) last < 0 := fun h1 => by
  have h2 := R11.next_none h1
  have : (0 : Int) ∈ R11.all (List.replicate nw 1) := R11.mem_all.2 ⟨by omega, by rw [List.length_replicate]; omega, by
   rw [List.getD_eq_getElem?_getD, List.getElem?_replicate, if_pos (by exact h)]; decide⟩
  rw [h2] at this
  exact nomatch this
 obtain ⟨h1, h2, _⟩ := R11.next_ok hne
 rw [List.length_replicate] at h2
 exact ⟨h1, h2⟩
structure Mc where
 D : List (List Int)
 order : List Int
 who : List Int
 last : Int
def mstep (p picks : List Int) (nw : Nat) (m : Mc) : Mc :=
 { D := (takeM m.D (nxt picks nw m.order.length m.last).toNat).2.set (nxt picks nw m.order.length m.last).toNat ((takeM m.D (nxt picks nw m.order.length m.last).toNat).2.getD (nxt picks nw m.order.length m.last).toNat default ++ kids p (takeM m.D (nxt picks nw m.order.length m.last).toNat).1.toNat), order := m.order ++ [(takeM m.D (nxt picks nw m.order.length m.last).toNat).1], who := m.who ++ [nxt picks nw m.order.length m.last], last := nxt picks nw m.order.length m.last }
def mst (p picks : List Int) (nw : Nat) : Nat → Mc
 | 0 => ⟨[0] :: List.replicate (nw - 1) [], [], [], -1⟩
 | n + 1 => mstep p picks nw (mst p picks nw n)
/-- What is known of the machine. -/
structure MOk (p : List Int) (nw n : Nat) (m : Mc) : Prop where
 dl : m.D.length = nw
 ol : m.order.length = n
 wl : m.who.length = n
 nd : (m.order ++ m.D.flatten).Nodup
 mem : ∀ t : Int, t ∈ m.order ++ m.D.flatten ↔ (0 ≤ t ∧ t < p.length ∧ (t = 0 ∨ p.getD t.toNat default ∈ m.order))
 who : ∀ w ∈ m.who, 0 ≤ w ∧ w < nw
theorem MOk.all_le {nw n : Nat} {m : Mc} (h : MOk p nw n m) : (m.order ++ m.D.flatten).length ≤ p.length := by
 have := nodup_le _ (upto p.length) h.nd fun x hx => mem_upto.2 ⟨((h.mem x).1 hx).1, ((h.mem x).1 hx).2.1⟩
 rwa [upto_len] at this
theorem MOk.n_le {nw n : Nat} {m : Mc} (h : MOk p nw n m) : n ≤ p.length := by
 have h1 := h.all_le
 rw [List.length_append, h.ol] at h1
 omega
theorem flat_le {D : List (List Int)} {i : Nat} (h : i < D.length) : (D.getD i default).length ≤ D.flatten.length := by
 obtain ⟨r, h1, _⟩ := flat_set h
 have := h1.length_eq
 rw [List.length_append] at this
 omega
theorem MOk.at_le {nw n : Nat} {m : Mc} (h : MOk p nw n m) {i : Nat} (hi : i < nw) : (m.D.getD i default).length ≤ p.length := by
 have h1 := h.all_le
 have h2 := flat_le (D := m.D) (i := i) (by rw [h.dl]; exact hi)
 rw [List.length_append] at h1
 omega
/-- No deque has a task: all are run. -/
theorem MOk.full {nw n : Nat} {m : Mc} (hr : right p) (h : MOk p nw n m) (e : m.D.flatten = []) : ∀ t : Nat, t < p.length → (t : Int) ∈ m.order := by
 have hm := h.mem
 rw [e, List.append_nil] at hm
 intro t
 induction t using Nat.strongRecOn with
 | _ t ih =>
  intro ht
  refine (hm t).2 ⟨by omega, by omega, ?_⟩
  obtain ⟨h1, h2, h3⟩ := par_lt hr ht
  by_cases e0 : t = 0
  ·exact .inl (by omega)
  ·right
   have := ih (p.getD t default).toNat (by omega) (by omega)
   rw [Int.toNat_natCast]
   rwa [Int.toNat_of_nonneg (by omega)] at this
/-- All tasks are run behind so many steps. -/
theorem MOk.done {nw : Nat} {m : Mc} (hr : right p) (h : MOk p nw p.length m) : ∀ t : Nat, t < p.length → (t : Int) ∈ m.order := by
 have h1 := h.all_le
 rw [List.length_append, h.ol] at h1
 exact h.full hr (List.eq_nil_of_length_eq_zero (by omega))
/-- While a task is not run, some deque is not empty. -/
theorem MOk.busy {nw n : Nat} {m : Mc} (hr : right p) (h : MOk p nw n m) (hn : n < p.length) : m.D.flatten ≠ [] := by
 intro e
 have hall := h.full hr e
 have := nodup_le (upto p.length) m.order (upto_nd _) fun x hx => by
  obtain ⟨h1, h2⟩ := mem_upto.1 hx
  have := hall x.toNat (by omega)
  rwa [Int.toNat_of_nonneg h1] at this
 rw [upto_len, h.ol] at this
 omega
theorem MOk.start (hr : right p) {picks : List Int} {nw : Nat} (h : 1 ≤ nw) : MOk p nw 0 (mst p picks nw 0) := by
 have e : (mst p picks nw 0).D.flatten = [0] := by
  show ([0] :: List.replicate (nw - 1) ([] : List Int)).flatten = [0]
  rw [List.flatten_cons, List.flatten_replicate_nil]
  rfl
 have hn := hr.1.1
 refine ⟨?_, rfl, rfl, ?_, fun t => ?_, fun w hw => nomatch hw⟩
 ·show ([0] :: List.replicate (nw - 1) ([] : List Int)).length = nw
  rw [List.length_cons, List.length_replicate]
  omega
 ·rw [e]; exact List.pairwise_singleton _ _
 ·rw [e]
  show t ∈ [(0 : Int)] ↔ _ ∧ _ ∧ (_ ∨ _ ∈ ([] : List Int))
  simp only [List.mem_singleton, List.not_mem_nil, or_false]
  omega
/-- What a step takes. -/
theorem MOk.take {nw n : Nat} {m : Mc} (hr : right p) (h : MOk p nw n m) (hn : n < p.length) {w : Nat} (hw : w < nw) :
  ∃ T : Nat, (takeM m.D w).1 = (T : Int) ∧ T < p.length ∧ (T : Int) ∉ m.order ∧ (T = 0 ∨ p.getD T default ∈ m.order) ∧ m.D.flatten.Perm ((T : Int) :: (takeM m.D w).2.flatten) ∧ (takeM m.D w).2.length = nw := by
 obtain ⟨h1, h2⟩ := takeM_perm (D := m.D) (w := w) (by rw [h.dl]; exact hw) (h.busy hr hn)
 have h3 : (takeM m.D w).1 ∈ m.D.flatten := h1.mem_iff.2 List.mem_cons_self
 obtain ⟨h4, h5, h6⟩ := (h.mem _).1 (List.mem_append_right _ h3)
 have h7 : (takeM m.D w).1 ∉ m.order := fun hc => (List.nodup_append.1 h.nd).2.2 _ hc _ h3 rfl
 obtain ⟨T, hT⟩ : ∃ T : Nat, (takeM m.D w).1 = (T : Int) := ⟨(takeM m.D w).1.toNat, by omega⟩
 rw [hT] at h4 h5 h6 h7 h1
 exact ⟨T, hT, by omega, h7, h6.imp (by omega) fun h => by rwa [Int.toNat_natCast] at h, h1, by rw [h2, h.dl]⟩
theorem MOk.step {nw n : Nat} {m : Mc} (hr : right p) (h : MOk p nw n m) (hn : n < p.length) (hw : 1 ≤ nw) (picks : List Int) : MOk p nw (n + 1) (mstep p picks nw m) := by
 unfold mstep
 obtain ⟨hx0, hx1⟩ := nxt_ok (picks := picks) (nw := nw) (n := m.order.length) (last := m.last) hw
 obtain ⟨w, ew⟩ : ∃ w : Nat, nxt picks nw m.order.length m.last = (w : Int) := ⟨(nxt picks nw m.order.length m.last).toNat, by omega⟩
 rw [ew] at hx0 hx1 ⊢
 rw [Int.toNat_natCast]
 obtain ⟨T, hT, hTl, hTo, hTp, hp, hl⟩ := h.take hr hn (w := w) (by omega)
 rw [hT, Int.toNat_natCast]
 obtain ⟨r, hr1, hr2⟩ := flat_set (D := (takeM m.D w).2) (k := w) (by omega)
 have hper : (m.order ++ [(T : Int)] ++ ((takeM m.D w).2.set w ((takeM m.D w).2.getD w default ++ kids p T)).flatten).Perm (kids p T ++ (m.order ++ m.D.flatten)) := by
  have e1 : ((takeM m.D w).2.set w ((takeM m.D w).2.getD w default ++ kids p T)).flatten.Perm (kids p T ++ (takeM m.D w).2.flatten) := by
   refine (hr2 _).trans ?_
   rw [List.append_assoc]
   refine List.Perm.trans ?_ (hr1.symm.append_left _)
   rw [← List.append_assoc, ← List.append_assoc]
   exact List.perm_append_comm.append_right _
  refine (e1.append_left _).trans ?_
  rw [List.append_assoc]
  refine List.Perm.trans ?_ ((hp.symm.append_left m.order).append_left (kids p T))
  show (m.order ++ (T : Int) :: (kids p T ++ (takeM m.D w).2.flatten)).Perm (kids p T ++ (m.order ++ ([(T : Int)] ++ (takeM m.D w).2.flatten)))
  have a1 : (m.order ++ (T : Int) :: (kids p T ++ (takeM m.D w).2.flatten)) = (m.order ++ [(T : Int)] ++ kids p T) ++ (takeM m.D w).2.flatten := by simp
  have a2 : (kids p T ++ (m.order ++ ([(T : Int)] ++ (takeM m.D w).2.flatten))) = (kids p T ++ (m.order ++ [(T : Int)])) ++ (takeM m.D w).2.flatten := by simp
  rw [a1, a2]
  exact List.perm_append_comm.append_right _
 have hk0 : ∀ x ∈ kids p T, x ∉ m.order ++ m.D.flatten := fun x hx hc => by
  have hgt := kid_gt hr hx
  obtain ⟨_, _, h3⟩ := mem_kids.1 hx
  obtain ⟨_, _, h6⟩ := (h.mem x).1 hc
  rcases h6 with h6 | h6
  ·omega
  ·rw [h3] at h6
   exact hTo h6
 refine ⟨by rw [List.length_set, hl], by simp [h.ol], by simp [h.wl], ?_, fun t => ?_, fun x hx => ?_⟩
 ·rw [hper.nodup_iff, List.nodup_append]
  exact ⟨kids_nd p T, h.nd, fun a ha b hb e => hk0 a ha (e ▸ hb)⟩
 ·rw [hper.mem_iff, List.mem_append, h.mem t, mem_kids, List.mem_append, List.mem_singleton]
  constructor
  ·rintro (⟨h1, h2, h3⟩ | ⟨h1, h2, h3⟩)
   ·exact ⟨h1, h2, .inr (.inr h3)⟩
   ·exact ⟨h1, h2, h3.imp id .inl⟩
  ·rintro ⟨h1, h2, h3 | h3 | h3⟩
   ·exact .inr ⟨h1, h2, .inl h3⟩
   ·exact .inr ⟨h1, h2, .inr h3⟩
   ·exact .inl ⟨h1, h2, h3⟩
 ·rcases List.mem_append.1 hx with hx | hx
  ·exact h.who x hx
  ·rw [List.mem_singleton] at hx
   omega
theorem MOk.run (hr : right p) {picks : List Int} {nw : Nat} (h : 1 ≤ nw) : ∀ n, n ≤ p.length → MOk p nw n (mst p picks nw n)
 | 0, _ => .start hr h
 | n + 1, hn => (MOk.run hr h n (by omega)).step hr (by omega) h picks
theorem MOk.cl {nw n : Nat} {m : Mc} (h : MOk p nw n m) : ∀ t : Nat, t < p.length → 0 < t → (t : Int) ∈ m.order → p.getD t default ∈ m.order := by
 intro t _ h0 ht
 obtain ⟨_, _, h3⟩ := (h.mem t).1 (List.mem_append_left _ ht)
 rcases h3 with h3 | h3
 ·omega
 ·rwa [Int.toNat_natCast] at h3
end R19
end Go.GL
