/- Part 3: contracts of the functions that the law reaches: each answers as its model does. No condition beyond those that each theorem states. -/
import Derived.Test.YtdfegjbmhpfhhaaPart2
set_option linter.unusedVariables false
namespace Go.GL
open R6 R7
namespace R2
open R8 (b2i)
def at8 (c : Cell) (i j : Int) : Cell := ⟨c.x + i, c.y + j⟩
/-- How many of the eight about a cell are in a list. -/
def cntL (l : List Cell) (c : Cell) : Int := b2i (decide (at8 c (-1) (-1) ∈ l)) + b2i (decide (at8 c 0 (-1) ∈ l)) + b2i (decide (at8 c 1 (-1) ∈ l)) + b2i (decide (at8 c (-1) 0 ∈ l)) + b2i (decide (at8 c 1 0 ∈ l)) + b2i (decide (at8 c (-1) 1 ∈ l)) + b2i (decide (at8 c 0 1 ∈ l)) + b2i (decide (at8 c 1 1 ∈ l))
theorem mem_cands {l : List Cell} {d : Cell} : d ∈ cands l ↔ livesAt l d = true ∧ ∃ b ∈ l, ∃ k, k < 9 ∧ nb b k = d := by
 unfold cands about
 rw [List.mem_flatMap]
 constructor
 ·rintro ⟨b, hb, h⟩
  obtain ⟨h1, h2⟩ := List.mem_filter.1 h
  obtain ⟨k, hk, e⟩ := List.mem_map.1 h1
  exact ⟨h2, b, hb, k, List.mem_range.1 hk, e⟩
 ·rintro ⟨h, b, hb, k, hk, e⟩
  exact ⟨b, hb, List.mem_filter.2 ⟨List.mem_map.2 ⟨k, List.mem_range.2 hk, e⟩, h⟩⟩
/-- What 'next' tells. -/
theorem next_ok {l : List Cell} (h : R1.right l) (hb : ∀ c ∈ l, -1000000 ≤ c.x ∧ c.x ≤ 1000000 ∧ -1000000 ≤ c.y ∧ c.y ≤ 1000000) (hl : l.length ≤ 200) : next l = (R1.puts (cands l), 0) := by
 unfold next
 rw [if_pos h]
 refine R1.of_ok (fun d hd => ?_) ?_
 ·obtain ⟨_, b, hbm, k, hk, rfl⟩ := mem_cands.1 hd
  have := hb b hbm
  unfold R1.inB nb
  simp only
  omega
 ·have h1 := RL.puts_le (cands l)
  have h2 := cands_len l l
  have : cands l = l.flatMap (about l) := rfl
  rw [this] at h1
  rw [this]
  omega
end R2
namespace RL
open R8
def outside (c : Cell) : Prop := ((c.x < -2 ∨ 1 < c.x) ∨ c.y < -2) ∨ 1 < c.y
instance (c : Cell) : Decidable (outside c) := inferInstanceAs (Decidable (_ ∨ _))
def withOthers (l more : List Cell) : List Cell := (more.filter fun c => decide (outside c)).foldl R1.put l
end RL
end Go.GL


set_option linter.unusedVariables false
namespace Go.GL
/-! ### Layer 9, as the document has it -/
namespace R9
/-- What was leapt: a node, an exponent, what it came to. -/
abbrev Memo := List (Int × Int × Int)
structure LS where
 ns : List Node
 mm : Memo
/-- A state, a node, an error. -/
abbrev L9 := LS × Int × Int
def look9 : Memo → Int → Int → Option Int
 | [], _, _ => none
 | p :: mm, n, j => if p.1 = n ∧ p.2.1 = j then some p.2.2 else look9 mm n j
def putS (room : Int) (s : LS) (q0 q1 q2 q3 : Int) : L9 := (⟨(R6.put s.ns room q0 q1 q2 q3).1, s.mm⟩, (R6.put s.ns room q0 q1 q2 q3).2.1, (R6.put s.ns room q0 q1 q2 q3).2.2)
def midS (room : Int) (s : LS) (n : Int) : L9 := putS room s (R8.g (R8.s16 s.ns n) 5) (R8.g (R8.s16 s.ns n) 6) (R8.g (R8.s16 s.ns n) 9) (R8.g (R8.s16 s.ns n) 10)
def oneS (room : Int) (s : LS) (n : Int) : L9 := (⟨(R8.one s.ns room n).1, s.mm⟩, (R8.one s.ns room n).2.1, (R8.one s.ns room n).2.2)
def mapS (f : LS → Int → L9) : LS → List Int → LS × List Int × Int
 | s, [] => (s, [], 0)
 | s, q :: qs => if (f s q).2.2 ≠ 0 then ((f s q).1, [], (f s q).2.2) else ((mapS f (f s q).1 qs).1, (f s q).2.1 :: (mapS f (f s q).1 qs).2.1, (mapS f (f s q).1 qs).2.2)
def fourP (room : Int) (l : List Int) (s : LS) (k : Int) : L9 := putS room s (R8.g l k) (R8.g l (k + 1)) (R8.g l (k + 3)) (R8.g l (k + 4))
def fourE : List Int := [0, 1, 3, 4]
def halfF (lp : LS → Int → Int → L9) (room : Int) (full : Bool) (j : Int) : LS → Int → L9 := fun s q => if full = true then lp s q (j - 1) else midS room s q
/-- The nine squares of a node, each behind half of a leap, or where it stands. -/
def half (lp : LS → Int → Int → L9) (room : Int) (full : Bool) (s : LS) (n j : Int) : LS × List Int × Int :=
 if (R8.all s.ns room n).2.2 ≠ 0 then (s, [], (R8.all s.ns room n).2.2) else mapS (halfF lp room full j) ⟨(R8.all s.ns room n).1, s.mm⟩ (R8.all s.ns room n).2.1
def bindM (r : LS × List Int × Int) (f : LS → List Int → L9) : L9 := if r.2.2 ≠ 0 then (r.1, 0, r.2.2) else f r.1 r.2.1
def put4 (room : Int) (s : LS) (l : List Int) : L9 := putS room s (R8.g l 0) (R8.g l 1) (R8.g l 2) (R8.g l 3)
def lastF (lp : LS → Int → Int → L9) (j : Int) : LS → Int → L9 := fun s q => lp s q j
def far (lp : LS → Int → Int → L9) (room : Int) (full : Bool) (s : LS) (n j : Int) : L9 :=
 bindM (half lp room full s n j) fun t l => bindM (mapS (fourP room l) t fourE) fun t l => bindM (mapS (lastF lp (if full = true then j - 1 else j)) t l) (put4 room)
/-- What was leapt is kept. -/
def keep (n j : Int) (r : L9) : L9 := if r.2.2 ≠ 0 then (r.1, 0, r.2.2) else (⟨r.1.ns, r.1.mm ++ [(n, j, r.2.1)]⟩, r.2.1, 0)
/-- A leap of a node of the level k + 2. -/
def leap (room : Int) : Nat → LS → Int → Int → L9
 | 0, s, n, j => match look9 s.mm n j with
  | some to => (s, to, 0)
  | none => keep n j (oneS room s n)
 | k + 1, s, n, j => match look9 s.mm n j with
  | some to => (s, to, 0)
  | none => keep n j (far (leap room k) room (decide (j = k + 1)) s n j)
/-- Is one of the sixteen, but the four in the middle, not dead? -/
def edged (ns : List Node) (n : Int) : Bool := [0, 1, 2, 3, 4, 7, 8, 11, 12, 13, 14, 15].any fun i => decide ((R6.nd ns (R8.g (R8.s16 ns n) i)).pop ≠ 0)
/-- Of a node of the level k + 2. -/
def trim (room : Int) : Nat → LS → Int → L9
 | 0, s, n => (s, n, 0)
 | k + 1, s, n => if edged s.ns n = true then (s, n, 0) else if (midS room s n).2.2 ≠ 0 then ((midS room s n).1, 0, (midS room s n).2.2) else trim room k (midS room s n).1 (midS room s n).2.1
/-- A kid of the larger node. -/
def bigK (dead : Int) (k : Nat) (kid : Int) (i : Nat) : Int := if i + k = 3 then kid else dead
def grow (room : Int) (s : LS) (n : Int) : L9 :=
 let x := R6.nd s.ns n
 if 42 ≤ x.lv then (s, 0, 2) else
 let d := R7.empty s.ns room (x.lv - 1).toNat
 if d.2.2 ≠ 0 then (s, 0, d.2.2) else
 let r := mapS (fun s k => putS room s (bigK d.2.1 k.toNat (x.kids.getD k.toNat default) 0) (bigK d.2.1 k.toNat (x.kids.getD k.toNat default) 1) (bigK d.2.1 k.toNat (x.kids.getD k.toNat default) 2) (bigK d.2.1 k.toNat (x.kids.getD k.toNat default) 3)) ⟨d.1, s.mm⟩ [0, 1, 2, 3]
 if r.2.2 ≠ 0 then (r.1, 0, r.2.2) else
 putS room r.1 (R8.g r.2.1 0) (R8.g r.2.1 1) (R8.g r.2.1 2) (R8.g r.2.1 3)
def bindS (r : L9) (f : LS → Int → L9) : L9 := if r.2.2 ≠ 0 then (r.1, 0, r.2.2) else f r.1 r.2.1
def lvS (s : LS) (n : Int) : Nat := ((R6.nd s.ns n).lv - 2).toNat
def trimS (room : Int) (s : LS) (n : Int) : L9 := trim room (lvS s n) s n
/-- Grown while it is too small (at most so often). -/
def growTo (room : Int) (j : Int) : Nat → LS → Int → L9
 | 0, s, n => (s, n, 0)
 | i + 1, s, n => if (R6.nd s.ns n).lv < j + 3 then bindS (grow room s n) (growTo room j i) else (s, n, 0)
def power (room : Int) (s : LS) (n j : Int) : L9 :=
 bindS (bindS (bindS (bindS (trimS room s n) (grow room)) (grow room)) (growTo room j 64)) fun s m => leap room (lvS s m) s m j
def runL (room : Int) : List Int → LS → Int → L9
 | [], s, n => trimS room s n
 | j :: js, s, n => bindS (power room s n j) (runL room js)
def bits (c : Int) : List Int := ((List.range 62).filter fun i => decide (c / 2 ^ i % 2 = 1)).map fun i => ((i : Nat) : Int)
/-- A store behind what was made in it, or as it was. -/
def out (ns : List Node) (r : L9) : List Node × Int × Int := if r.2.2 ≠ 0 then (ns, 0, r.2.2) else (r.1.ns, r.2.1, 0)
def leapT (ns : List Node) (room n j : Int) : List Node × Int × Int := if R8.may ns room n 2 ∧ 0 ≤ j ∧ j ≤ (R6.nd ns n).lv - 2 then out ns (leap room (lvS ⟨ns, []⟩ n) ⟨ns, []⟩ n j) else (ns, 0, 1)
def trimT (ns : List Node) (room n : Int) : List Node × Int × Int := if R8.may ns room n 2 then out ns (trimS room ⟨ns, []⟩ n) else (ns, 0, 1)
def runT (ns : List Node) (room n c : Int) : List Node × Int × Int := if R8.may ns room n 2 ∧ 0 ≤ c ∧ c ≤ 4611686018427387903 then out ns (runL room (bits c) ⟨ns, []⟩ n) else (ns, 0, 1)
end R9
end Go.GL


set_option linter.unusedVariables false
namespace Go.GL
open R6 R7
/-! ### What leaps keep to -/
namespace R9
def MemOk (ns : List Node) (mm : Memo) : Prop := ∀ p ∈ mm, ∃ lv : Nat, IsN ns (lv + 2) p.1 ∧ IsN ns (lv + 1) p.2.2
theorem MemOk.pre {ns ms : List Node} (hp : ns <+: ms) {mm : Memo} (h : MemOk ns mm) : MemOk ms mm := fun p hm => by
 obtain ⟨lv, a, b⟩ := h p hm
 exact ⟨lv, a.pre hp, b.pre hp⟩
structure Lk (room : Int) (s : LS) : Prop where
 right : R6.right s.ns room
 mem : MemOk s.ns s.mm
theorem Lk.wf {room : Int} {s : LS} (h : Lk room s) : Wf s.ns := (right_iff.1 h.right).2
/-- What came of a state without an error. -/
structure Gd (room : Int) (s : LS) (r : L9) (lv : Nat) : Prop where
 lk : Lk room r.1
 pre : s.ns <+: r.1.ns
 is : IsN r.1.ns lv r.2.1
theorem s16_isN {ns : List Node} (h : Wf ns) {lv : Nat} {n : Int} (hn : IsN ns (lv + 2) n) : ∀ i : Int, 0 ≤ i → i < 16 → IsN ns lv (R8.g (R8.s16 ns n) i) := by
 obtain ⟨a, b, c, d⟩ := kids4 h hn
 obtain ⟨a0, a1, a2, a3⟩ := kids4 h a
 obtain ⟨b0, b1, b2, b3⟩ := kids4 h b
 obtain ⟨c0, c1, c2, c3⟩ := kids4 h c
 obtain ⟨d0, d1, d2, d3⟩ := kids4 h d
 intro i h0 h16
 obtain ⟨k, rfl⟩ : ∃ k : Nat, i = k := ⟨i.toNat, by omega⟩
 have hk : k < 16 := by omega
 unfold R8.g R8.s16
 rw [Int.toNat_natCast]
 match k, hk with
 | 0, _ => exact a0
 | 1, _ => exact a1
 | 2, _ => exact b0
 | 3, _ => exact b1
 | 4, _ => exact a2
 | 5, _ => exact a3
 | 6, _ => exact b2
 | 7, _ => exact b3
 | 8, _ => exact c0
 | 9, _ => exact c1
 | 10, _ => exact d0
 | 11, _ => exact d1
 | 12, _ => exact c2
 | 13, _ => exact c3
 | 14, _ => exact d2
 | 15, _ => exact d3
/-! #### what is new of what was leapt -/
/-- What came to be kept is of nodes of the levels to K + 2. -/
def New (K : Nat) (mm mm' : Memo) (ns' : List Node) : Prop := ∃ add, mm' = mm ++ add ∧ ∀ p ∈ add, ∃ lv, lv ≤ K ∧ IsN ns' (lv + 2) p.1
theorem New.refl (K : Nat) (mm : Memo) (ns' : List Node) : New K mm mm ns' := ⟨[], by simp, by simp⟩
theorem New.trans {K : Nat} {a b c : Memo} {ns ms : List Node} (h : New K a b ns) (hp : ns <+: ms) (k : New K b c ms) : New K a c ms := by
 obtain ⟨x, rfl, hx⟩ := h
 obtain ⟨y, rfl, hy⟩ := k
 refine ⟨x ++ y, by rw [List.append_assoc], fun p hm => ?_⟩
 rcases List.mem_append.1 hm with hm | hm
 ·obtain ⟨lv, h1, h2⟩ := hx p hm
  exact ⟨lv, h1, h2.pre hp⟩
 ·exact hy p hm
theorem look9_app : ∀ {mm add : Memo} {n j : Int}, (∀ p ∈ add, p.1 ≠ n) → look9 (mm ++ add) n j = look9 mm n j
 | [], [], n, j, _ => rfl
 | [], p :: add, n, j, h => by
  have h1 := h p List.mem_cons_self
  have ih := look9_app (mm := []) (n := n) (j := j) fun q hq => h q (List.mem_cons_of_mem _ hq)
  simp only [List.nil_append] at ih ⊢
  unfold look9
  rw [if_neg (fun e => h1 e.1), ih]
  rfl
 | p :: mm, add, n, j, h => by
  simp only [List.cons_append]
  unfold look9
  split
  ·rfl
  ·exact look9_app h
theorem New.look {K : Nat} {mm mm' : Memo} {ns' : List Node} (h : New K mm mm' ns') {lv : Nat} {n j : Int} (hn : IsN ns' (lv + 2) n) (hlv : K < lv) (hl : look9 mm n j = none) : look9 mm' n j = none := by
 obtain ⟨add, rfl, ha⟩ := h
 rw [look9_app, hl]
 rintro p hp rfl
 obtain ⟨lv', h1, h2⟩ := ha p hp
 have e1 := h2.2
 have e2 := hn.2
 omega
end R9
end Go.GL


set_option linter.unusedVariables false
namespace Go.GL
open R6 R7
namespace R9
/-! #### empty, grow -/
def growF (room d : Int) (ks : List Int) : LS → Int → L9 := fun s k => putS room s (bigK d k.toNat (ks.getD k.toNat default) 0) (bigK d k.toNat (ks.getD k.toNat default) 1) (bigK d k.toNat (ks.getD k.toNat default) 2) (bigK d k.toNat (ks.getD k.toNat default) 3)
def k4 : List Int := [0, 1, 2, 3]
/-! #### trim, power, run -/
/-- As Gd, of some level from 2 on. -/
structure Ge (room : Int) (s : LS) (r : L9) : Prop where
 lk : Lk room r.1
 pre : s.ns <+: r.1.ns
 is : ∃ k : Nat, IsN r.1.ns (k + 2) r.2.1
theorem Ge.trans {room : Int} {s t : LS} {r : L9} (h : Ge room t r) (hp : s.ns <+: t.ns) : Ge room s r := ⟨h.lk, hp.trans h.pre, h.is⟩
/-- The loop of power: grown i times. -/
def more (room : Int) (j : Int) : Nat → LS → Int → L9
 | 0, s, n => bindS (bindS (grow room s n) (grow room)) (growTo room j 64)
 | 1, s, n => bindS (grow room s n) (growTo room j 64)
 | i + 2, s, n => growTo room j (64 - i) s n
/-- As Ge, of some level from k + 2 on. -/
def Gk (room : Int) (s : LS) (r : L9) (k : Nat) : Prop := Lk room r.1 ∧ s.ns <+: r.1.ns ∧ ∃ k' : Nat, k ≤ k' ∧ IsN r.1.ns (k' + 2) r.2.1
theorem Gk.le {room : Int} {s : LS} {r : L9} {k k2 : Nat} (h : Gk room s r k) (hk : k2 ≤ k) : Gk room s r k2 := by
 obtain ⟨a, b, k', c, d⟩ := h
 exact ⟨a, b, k', by omega, d⟩
end R9
end Go.GL


set_option linter.unusedVariables false
namespace Go.GL
open R6 R7
/-! ### A leap stands for what stands in the middle behind so many generations -/
namespace R9
/-- One generation of all cells. -/
def gen (f : Int → Int → Bool) : Int → Int → Bool := fun x y => R8.nx f y x
def gens : Nat → (Int → Int → Bool) → Int → Int → Bool
 | 0, f => f
 | m + 1, f => gens m (gen f)
/-- A node stands for a part of the plane. -/
def Std (ns : List Node) (lv : Nat) (n : Int) (f : Int → Int → Bool) (ox oy : Int) : Prop := IsN ns lv n ∧ ∀ x y, inQ lv x y → al ns lv n x y = f (x + ox) (y + oy)
theorem Std.pre {ns ms : List Node} (h : Wf ns) (hp : ns <+: ms) {lv : Nat} {n : Int} {f : Int → Int → Bool} {ox oy : Int} (hs : Std ns lv n f ox oy) : Std ms lv n f ox oy :=
 ⟨hs.1.pre hp, fun x y hq => by rw [al_pre h hp lv n x y hs.1]; exact hs.2 x y hq⟩
theorem Std.back {ns ms : List Node} (h : Wf ns) (hp : ns <+: ms) {lv : Nat} {n : Int} {f : Int → Int → Bool} {ox oy : Int} (hn : IsN ns lv n) (hs : Std ms lv n f ox oy) : Std ns lv n f ox oy :=
 ⟨hn, fun x y hq => by rw [← al_pre h hp lv n x y hn]; exact hs.2 x y hq⟩
theorem Std.at {ns : List Node} {lv : Nat} {n : Int} {f : Int → Int → Bool} {ox oy ox' oy' : Int} (h : Std ns lv n f ox oy) (hx : ox = ox') (hy : oy = oy') : Std ns lv n f ox' oy' := by
 subst hx
 subst hy
 exact h
end R9
end Go.GL


set_option linter.unusedVariables false
namespace Go.GL
open R6 R7
namespace R9
/-- What is kept is true. -/
def MS (s : LS) : Prop := ∀ p ∈ s.mm, ∃ k : Nat, (0 ≤ p.2.1 ∧ p.2.1 ≤ k) ∧ IsN s.ns (k + 2) p.1 ∧ IsN s.ns (k + 1) p.2.2 ∧ ∀ f ox oy, Std s.ns (k + 2) p.1 f ox oy → Std s.ns (k + 1) p.2.2 (gens (2 ^ p.2.1.toNat) f) (ox + 2 ^ k) (oy + 2 ^ k)
theorem MS.pre {s : LS} {ms : List Node} (hw : Wf s.ns) (h : MS s) (hp : s.ns <+: ms) : MS ⟨ms, s.mm⟩ := fun p hm => by
 obtain ⟨k, h1, h2, h3, h4⟩ := h p hm
 exact ⟨k, h1, h2.pre hp, h3.pre hp, fun f ox oy hs => (h4 f ox oy (hs.back hw hp h2)).pre hw hp⟩
/-- What a leap that is right does. -/
def LpOk (room : Int) (k : Nat) (lp : LS → Int → Int → L9) : Prop := ∀ s q j, Lk room s → MS s → IsN s.ns (k + 2) q → 0 ≤ j ∧ j ≤ (k : Int) → (lp s q j).2.2 = 0 →
 Lk room (lp s q j).1 ∧ s.ns <+: (lp s q j).1.ns ∧ MS (lp s q j).1 ∧ ∀ f ox oy, Std s.ns (k + 2) q f ox oy → Std (lp s q j).1.ns (k + 1) (lp s q j).2.1 (gens (2 ^ j.toNat) f) (ox + 2 ^ k) (oy + 2 ^ k)
end R9
end Go.GL


set_option linter.unusedVariables false
namespace Go.GL
open R6 R7
/-! ### What errors a leap may tell -/
namespace R9
def Er (e : Int) : Prop := e = 0 ∨ e = 40
end R9
end Go.GL


set_option linter.unusedVariables false
namespace Go.GL
open R6 R7
namespace R9
/-! #### how many things are kept -/
theorem nodup_len : ∀ (N : Nat) (l : List Nat), l.Nodup → (∀ x ∈ l, x < N) → l.length ≤ N
 | 0, l, _, hb => by
  cases l with
  | nil => exact Nat.le_refl _
  | cons x l => exact absurd (hb x List.mem_cons_self) (by omega)
 | N + 1, l, hn, hb => by
  have h1 := nodup_len N (l.erase N) (hn.erase N) fun x hx => by
   have := (hn.mem_erase_iff).1 hx
   have h2 := hb x this.2
   have h3 := this.1
   omega
  by_cases hm : N ∈ l
  ·have := List.length_erase_of_mem hm
   omega
  ·rw [List.erase_of_not_mem hm] at h1
   omega
/-- No two things that are kept are of the same node and exponent. -/
def Kn (mm : Memo) : Prop := (mm.map fun p => (p.1, p.2.1)).Nodup ∧ ∀ p ∈ mm, 0 ≤ p.2.1 ∧ p.2.1 ≤ 1000000
theorem nodup_map {α β γ : Type} (f : α → β) (g : β → γ) (P : β → Prop) (hg : ∀ a b, P a → P b → g a = g b → a = b) : ∀ l : List α, (∀ x ∈ l, P (f x)) → (l.map f).Nodup → (l.map fun x => g (f x)).Nodup
 | [], _, _ => List.nodup_nil
 | x :: l, hp, hn => by
  simp only [List.map_cons, List.nodup_cons] at hn ⊢
  refine ⟨fun hm => hn.1 ?_, nodup_map f g P hg l (fun y hy => hp y (List.mem_cons_of_mem _ hy)) hn.2⟩
  obtain ⟨y, hy, e⟩ := List.mem_map.1 hm
  rw [← hg _ _ (hp y (List.mem_cons_of_mem _ hy)) (hp x List.mem_cons_self) e]
  exact List.mem_map_of_mem hy
theorem Kn.len {ns : List Node} {mm : Memo} (hm : MemOk ns mm) (hk : Kn mm) (h : ns.length ≤ 100000) : mm.length ≤ 1000000000000 := by
 have h1 := nodup_map (fun p : Int × Int × Int => (p.1, p.2.1)) (fun q : Int × Int => q.1.toNat * 1000001 + q.2.toNat) (fun q => 0 ≤ q.1 ∧ 0 ≤ q.2 ∧ q.2 ≤ 1000000) (fun a b ha hb e => by
  obtain ⟨a1, a2⟩ := a
  obtain ⟨b1, b2⟩ := b
  simp only at ha hb e
  have e1 : a1 = b1 := by omega
  have e2 : a2 = b2 := by omega
  rw [e1, e2]) mm (fun p hp => by
   obtain ⟨lv, a, b⟩ := hm p hp
   exact ⟨a.1.1, hk.2 p hp⟩) hk.1
 have h2 := nodup_len 1000000000000 _ h1 fun x hx => by
  obtain ⟨p, hp, rfl⟩ := List.mem_map.1 hx
  obtain ⟨lv, a, b⟩ := hm p hp
  have h3 := a.1.2
  have h4 := hk.2 p hp
  simp only
  omega
 rw [List.length_map] at h2
 exact h2
theorem look9_none : ∀ {mm : Memo} {n j : Int}, look9 mm n j = none → ∀ p ∈ mm, (p.1, p.2.1) ≠ (n, j)
 | p :: mm, n, j, h, q, hq, e => by
  unfold look9 at h
  split at h
  ·cases h
  ·rename_i h1
   rcases List.mem_cons.1 hq with rfl | hq
   ·exact h1 (by simpa using e)
   ·exact look9_none h q hq e
theorem Kn.snoc {mm : Memo} (h : Kn mm) {n j to : Int} (hl : look9 mm n j = none) (hj : 0 ≤ j ∧ j ≤ 1000000) : Kn (mm ++ [(n, j, to)]) := by
 constructor
 ·rw [List.map_append, List.nodup_append]
  refine ⟨h.1, by simp, fun a ha b hb e => ?_⟩
  obtain ⟨p, hp, rfl⟩ := List.mem_map.1 ha
  simp only [List.map_cons, List.map_nil, List.mem_singleton] at hb
  exact look9_none hl p hp (e.trans hb)
 ·intro p hp
  rcases List.mem_append.1 hp with hp | hp
  ·exact h.2 p hp
  ·rw [List.mem_singleton.1 hp]; exact hj
theorem Kn.nil : Kn [] := ⟨List.nodup_nil, fun p hp => by cases hp⟩
end R9
end Go.GL


set_option linter.unusedVariables false
namespace Go.GL
/-! ### What the laws of chapter 9 make of raw numbers -/
namespace RL
def fcell (v : Int) (r : Cell) : Cell := ⟨pk r.x (2 * R7.side v) - R7.side v, pk r.y (2 * R7.side v) - R7.side v⟩
def fset (v : Int) (raw : List Cell) : List Cell := R1.puts ((raw.take 30).map (fcell v))
def putN (rm : Int) (ns : List Node) (r : Five) : List Node := (R6.intern ns rm (pk r.r0 2) (pk r.r1 2) (pk r.r2 2) (pk r.r3 2)).1
def fstore (rm : Int) (nodes : List Five) : List Node := (nodes.take 10).foldl (putN rm) [R6.n0, R6.n1]
def fv (level : Int) : Int := 3 + pk level 3
def field (c : Int) (nodes : List Five) (raw : List Cell) (level : Int) : List Node × Int × Int := R7.make (fstore (room c) nodes) (room c + 600) (fset (fv level) raw) (fv level)
end RL
namespace R9
end R9
end Go.GL


set_option linter.unusedVariables false
namespace Go.GL
open R6 R7
namespace R9
/-- What a leap tells. -/
structure LeapR (ns : List Node) (room : Int) (k : Nat) (n j : Int) (p : List Node × Int × Int) : Prop where
 er : Er p.2.2
 right : R6.right p.1 room
 pre : ns <+: p.1
 is : p.2.2 = 0 → IsN p.1 (k + 1) p.2.1
 std : p.2.2 = 0 → ∀ f ox oy, Std ns (k + 2) n f ox oy → Std p.1 (k + 1) p.2.1 (gens (2 ^ j.toNat) f) (ox + 2 ^ k) (oy + 2 ^ k)
/-- A set, as a part of the plane. -/
def pl (l : List Cell) : Int → Int → Bool := fun x y => decide ((⟨x, y⟩ : Cell) ∈ l)
end R9
namespace RL
def cropF (l : List Cell) (half : Int) : List Cell := l.filter fun c => decide (((-half ≤ c.x ∧ c.x < half) ∧ -half ≤ c.y) ∧ c.y < half)
def hset (raw : List Cell) : List Cell := R1.puts ((raw.take 40).map cell16)
end RL
end Go.GL


set_option linter.unusedVariables false
namespace Go.GL
open R6 R7
/-! ### A run stands for what is there behind so many generations -/
namespace R9
/-- All that is alive is so near. -/
def Supp (f : Int → Int → Bool) (a : Int) : Prop := ∀ x y, f x y = true → -a ≤ x ∧ x < a ∧ -a ≤ y ∧ y < a
theorem Supp.le {f : Int → Int → Bool} {a b : Int} (h : Supp f a) (hab : a ≤ b) : Supp f b := fun x y hf => by
 have := h x y hf
 omega
/-- A node of the level k + 2 in the middle, and nothing outside. -/
def Ctr (ns : List Node) (k : Nat) (n : Int) (f : Int → Int → Bool) : Prop := Std ns (k + 2) n f (-2 ^ (k + 1)) (-2 ^ (k + 1)) ∧ Supp f (2 ^ (k + 1))
theorem Ctr.pre {ns ms : List Node} (h : Wf ns) (hp : ns <+: ms) {k : Nat} {n : Int} {f : Int → Int → Bool} (hs : Ctr ns k n f) : Ctr ms k n f := ⟨hs.1.pre h hp, hs.2⟩
/-! #### grown -/
def nil2 : Int → Int → Bool := fun _ _ => false
end R9
end Go.GL


set_option linter.unusedVariables false
namespace Go.GL
open R6 R7
namespace R9
/-- An answer without an error. -/
def OkS (room : Int) (s : LS) (r : L9) : Prop := Lk room r.1 ∧ s.ns <+: r.1.ns ∧ MS r.1
theorem OkS.trans {room : Int} {s t : LS} {r : L9} (h : OkS room t r) (hp : s.ns <+: t.ns) : OkS room s r := ⟨h.1, hp.trans h.2.1, h.2.2⟩
/-- How many generations. -/
def total : List Nat → Nat
 | [] => 0
 | j :: js => 2 ^ j + total js
/-! #### the bits -/
def bitsN (c : Int) (m : Nat) : List Nat := (List.range m).filter fun i => decide (c / 2 ^ i % 2 = 1)
end R9
end Go.GL


set_option linter.unusedVariables false
namespace Go.GL
open R6 R7
namespace R9
/-- Trimmed. -/
def Trd (ns : List Node) (k : Nat) (n : Int) : Prop := k = 0 ∨ edged ns n = true
theorem edged_pre {ns ms : List Node} (h : Wf ns) (hp : ns <+: ms) {k : Nat} {n : Int} (hn : IsN ns (k + 2) n) : edged ms n = edged ns n := by
 unfold edged
 rw [R8.s16_pre h hp hn]
 have hi := s16_isN h hn
 have key : ∀ i : Int, 0 ≤ i → i < 16 → nd ms (R8.g (R8.s16 ns n) i) = nd ns (R8.g (R8.s16 ns n) i) := fun i a b => nd_pre hp (hi i a b).1
 simp only [List.any_cons, List.any_nil]
 rw [key 0 (by omega) (by omega), key 1 (by omega) (by omega), key 2 (by omega) (by omega), key 3 (by omega) (by omega), key 4 (by omega) (by omega), key 7 (by omega) (by omega), key 8 (by omega) (by omega), key 11 (by omega) (by omega), key 12 (by omega) (by omega), key 13 (by omega) (by omega), key 14 (by omega) (by omega), key 15 (by omega) (by omega)]
theorem Trd.pre {ns ms : List Node} (h : Wf ns) (hp : ns <+: ms) {k : Nat} {n : Int} (hn : IsN ns (k + 2) n) (ht : Trd ns k n) : Trd ms k n := ht.imp id fun e => by rw [edged_pre h hp hn]; exact e
theorem alive {ns : List Node} (h : Wf ns) : ∀ (lv : Nat) (n : Int), IsN ns lv n → (nd ns n).pop ≠ 0 → ∃ x y, inQ lv x y ∧ al ns lv n x y = true
 | 0, n, hn, hp => by
  rcases isN0 h hn with rfl | rfl
  ·exact absurd (by rw [h.nd0]; rfl) hp
  ·exact ⟨0, 0, ⟨by omega, by decide, by omega, by decide⟩, rfl⟩
 | lv + 1, n, hn, hp => by
  obtain ⟨a, b, c, d⟩ := kids4 h hn
  have hpos := p2pos lv
  have hk : ∀ (q : Int) (a b : Int), (a = 0 ∨ a = 1) → (b = 0 ∨ b = 1) → R7.kid ns n (2 * b + a) = q → (∃ x y, inQ lv x y ∧ al ns lv q x y = true) → ∃ x y, inQ (lv + 1) x y ∧ al ns (lv + 1) n x y = true := by
   rintro q a b ha hb hq ⟨x, y, h1, h2⟩
   refine ⟨x + a * 2 ^ lv, y + b * 2 ^ lv, ?_, ?_⟩
   ·unfold inQ at h1 ⊢
    rw [p2s]
    rcases ha with rfl | rfl <;> rcases hb with rfl | rfl <;> omega
   ·rw [al_kid ns h1 ha hb, hq]
    exact h2
  have hd := fun hc => hp ((dead_kids h hn).2 hc)
  by_cases e0 : (nd ns (nd ns n).k0).pop = 0
  ·by_cases e1 : (nd ns (nd ns n).k1).pop = 0
   ·by_cases e2 : (nd ns (nd ns n).k2).pop = 0
    ·exact hk _ 1 1 (.inr rfl) (.inr rfl) rfl (alive h lv _ d fun e3 => hd ⟨e0, e1, e2, e3⟩)
    ·exact hk _ 0 1 (.inl rfl) (.inr rfl) rfl (alive h lv _ c e2)
   ·exact hk _ 1 0 (.inr rfl) (.inl rfl) rfl (alive h lv _ b e1)
  ·exact hk _ 0 0 (.inl rfl) (.inl rfl) rfl (alive h lv _ a e0)
/-- What a run tells. -/
structure RunR (ns : List Node) (room : Int) (K : Nat) (n c : Int) (f : Int → Int → Bool) (p : List Node × Int × Int) : Prop where
 er : Er p.2.2
 right : R6.right p.1 room
 pre : ns <+: p.1
 ok : p.2.2 = 0 → ∃ k', k' ≤ K ∧ Ctr p.1 k' p.2.1 (gens c.toNat f) ∧ Trd p.1 k' p.2.1
 trim : p.2.2 = 0 → (trimS room ⟨ns, []⟩ n).2.2 = 0 ∧ (trimS room ⟨ns, []⟩ n).1.ns <+: p.1
/-! #### turned by half -/
def refl (f : Int → Int → Bool) : Int → Int → Bool := fun x y => f (-x) (-y)
end R9
end Go.GL


set_option linter.unusedVariables false
namespace Go.GL
/-! ### Generations of sets that lie in a box -/
namespace R2
open R9 (gen gens pl)
/-- Within a box. -/
def Bx (l : List Cell) (a b c d : Int) : Prop := ∀ e ∈ l, a ≤ e.x ∧ e.x ≤ b ∧ c ≤ e.y ∧ e.y ≤ d
theorem Bx.le {l : List Cell} {a b c d a' b' c' d' : Int} (h : Bx l a b c d) (h1 : a' ≤ a) (h2 : b ≤ b') (h3 : c' ≤ c) (h4 : d ≤ d') : Bx l a' b' c' d' := fun e he => by
 have := h e he
 omega
/-- So many generations. -/
def iter : Nat → List Cell → List Cell × Int
 | 0, l => (l, 0)
 | n + 1, l => if (next l).2 ≠ 0 then ([], (next l).2) else iter n (next l).1
def run (l : List Cell) (n : Int) : List Cell × Int := if R1.right l ∧ 0 ≤ n ∧ n ≤ 1000 then iter n.toNat l else ([], 1)
end R2
end Go.GL


set_option linter.unusedVariables false
namespace Go.GL
/-! ### Layer 19, as the document has it -/
namespace R19
/-- The i-th task's parent is one. -/
def okAt (l : List Int) (i : Nat) : Prop := (i = 0 → l.getD i default = -1) ∧ (0 < i → 0 ≤ l.getD i default ∧ l.getD i default < i)
instance (l : List Int) (i : Nat) : Decidable (okAt l i) := inferInstanceAs (Decidable (_ ∧ _))
def right (l : List Int) : Prop := (1 ≤ l.length ∧ l.length ≤ 300) ∧ ∀ i, i < l.length → okAt l i
instance (l : List Int) : Decidable (right l) := inferInstanceAs (Decidable (_ ∧ _))
end R19
end Go.GL
namespace Go.GL
namespace R19
/-! ### What the laws make of raw numbers -/
def treeF (raw : List Int) (i : Nat) : List Int := -1 :: (List.range i).map fun j => pk (raw.getD j default) ((j : Int) + 1)
def tree (raw : List Int) : List Int := treeF raw (if raw.length < 39 then raw.length else 39)
def valAt (raw : List Int) (j : Nat) : Int := if j < raw.length then pk (raw.getD j default) 1000 - 300 else j
def vals (raw : List Int) (n : Nat) : List Int := (List.range n).map (valAt raw)
end R19
end Go.GL
namespace Go.GL
/-- How far a task is. -/
structure Frame where
 par : Int
 a : Option Addr
 len : Nat
 cap : Nat
 sum : Int
 left : Int
 deriving Inhabited
instance : Enc Frame := ⟨fun s => [.int .i64 s.par, .slice s.a s.len s.cap, .int .i64 s.sum, .int .i64 s.left], 4, fun _ => rfl, fun _ => rfl⟩
namespace R19
/-- The kids of t among the first i tasks. -/
def kidsTo (p : List Int) (i : Nat) (t : Nat) : List Int := ((List.range i).filter fun j => decide (p.getD j default = (t : Int))).map fun (j : Nat) => (j : Int)
def kids (p : List Int) (t : Nat) : List Int := kidsTo p p.length t
end R19
end Go.GL
namespace Go.GL
namespace R19
def add1 (fs : List Frame) (p t : Nat) : List Frame := fs.set p { fs.getD p default with sum := IntKind.i64.wrap ((fs.getD p default).sum + (fs.getD t default).sum) }
def less1 (fs : List Frame) (p : Nat) : List Frame := fs.set p { fs.getD p default with left := IntKind.i64.wrap ((fs.getD p default).left - 1) }
/-- A task is done: its parent is told; is the first one done? -/
def joinM : Nat → List Frame → Nat → List Frame × Bool
 | 0, fs, _ => (fs, false)
 | f + 1, fs, t =>
  if (fs.getD t default).par < 0 then (fs, true) else
  if ((less1 (add1 fs (fs.getD t default).par.toNat t) (fs.getD t default).par.toNat).getD (fs.getD t default).par.toNat default).left = 0 then joinM f (less1 (add1 fs (fs.getD t default).par.toNat t) (fs.getD t default).par.toNat) (fs.getD t default).par.toNat
  else (less1 (add1 fs (fs.getD t default).par.toNat t) (fs.getD t default).par.toNat, false)
end R19
end Go.GL
namespace Go.GL
namespace R19
/-! ### Deques -/
/-- Where the first deque is that is not empty, from the j-th one behind w on. -/
def findF (D : List (List Int)) (w : Nat) : Nat → Nat → Option Nat
 | 0, _ => none
 | f + 1, j => if (D.getD ((w + j) % D.length) default).length = 0 then findF D w f (j + 1) else some ((w + j) % D.length)
/-- The task that a worker takes, and what is left. -/
def takeM (D : List (List Int)) (w : Nat) : Int × List (List Int) :=
 if 0 < (D.getD w default).length then ((D.getD w default).getD ((D.getD w default).length - 1) default, D.set w ((D.getD w default).take ((D.getD w default).length - 1)))
 else match findF D w D.length 0 with
  | some k => ((D.getD k default).getD 0 default, D.set k ((D.getD k default).drop 1))
  | none => (-1, D)
end R19
end Go.GL


set_option linter.unusedVariables false
namespace Go.GL
/-! ### Layer 11, as the document has it -/
namespace R11
/-- Those that are left, from the i-th one on. -/
def allF : Nat → List Int → List Int
 | _, [] => []
 | i, n :: l => if 0 < n then (i : Int) :: allF (i + 1) l else allF (i + 1) l
def all (left : List Int) : List Int := allF 0 left
/-- Where the first one is of which p is true. -/
def idx (p : Int → Bool) (l : List Int) : Int := if l.findIdx p < l.length then (l.findIdx p : Int) else -1
def round (a : List Int) (last : Int) : Int := if 0 ≤ idx (fun i => decide (last < i)) a ∧ 0 ≤ last then a.getD (idx (fun i => decide (last < i)) a).toNat default else a.getD 0 default
def next (picks : List Int) (step : Int) (left : List Int) (last : Int) : Int :=
 if (all left).length = 0 then -1 else
 if 0 ≤ step ∧ step < picks.length then (all left).getD (pk (picks.getD step.toNat default) (all left).length).toNat default
 else round (all left) last
def dec (left : List Int) (i : Int) : List Int := left.set i.toNat (left.getD i.toNat default - 1)
def turnsF (picks : List Int) : Nat → Nat → List Int → Int → List Int
 | 0, _, _, _ => []
 | f + 1, s, left, last => if next picks s left last < 0 then [] else next picks s left last :: turnsF picks f (s + 1) (dec left (next picks s left last)) (next picks s left last)
def turns (picks left : List Int) : List Int := turnsF picks 100000 0 left (-1)
theorem allF_mem : ∀ {l : List Int} {i : Nat} {q : Int}, q ∈ allF i l ↔ ∃ j : Nat, j < l.length ∧ q = ((i + j : Nat) : Int) ∧ 0 < l.getD j default
 | [], i, q => by simp [allF]
 | n :: l, i, q => by
  have ih := allF_mem (l := l) (i := i + 1) (q := q)
  have key : (∃ j : Nat, j < (n :: l).length ∧ q = ((i + j : Nat) : Int) ∧ 0 < (n :: l).getD j default) ↔ (q = (i : Int) ∧ 0 < n) ∨ ∃ j : Nat, j < l.length ∧ q = ((i + 1 + j : Nat) : Int) ∧ 0 < l.getD j default := by
   constructor
   ·rintro ⟨j, h1, h2, h3⟩
    cases j with
    | zero => exact .inl ⟨by simpa using h2, by simpa using h3⟩
    | succ j => exact .inr ⟨j, by simpa using h1, by rw [h2]; omega, by simpa using h3⟩
   ·rintro (⟨h1, h2⟩ | ⟨j, h1, h2, h3⟩)
    ·exact ⟨0, by simp, by simpa using h1, by simpa using h2⟩
    ·exact ⟨j + 1, by simpa using h1, by rw [h2]; omega, by simpa using h3⟩
  rw [key, ← ih]
  simp only [allF]
  split
  ·rename_i h
   simp [h]
  ·rename_i h
   simp [h]
theorem mem_all {l : List Int} {q : Int} : q ∈ all l ↔ 0 ≤ q ∧ q < l.length ∧ 0 < l.getD q.toNat default := by
 unfold all
 rw [allF_mem]
 constructor
 ·rintro ⟨j, h1, rfl, h3⟩
  refine ⟨by omega, by omega, ?_⟩
  simpa using h3
 ·rintro ⟨h1, h2, h3⟩
  exact ⟨q.toNat, by omega, by omega, h3⟩
theorem allF_srt : ∀ (l : List Int) (i : Nat), (allF i l).Pairwise (· < ·) ∧ ∀ q ∈ allF i l, (i : Int) ≤ q
 | [], i => by simp [allF]
 | n :: l, i => by
  have ih := allF_srt l (i + 1)
  simp only [allF]
  split
  ·refine ⟨List.pairwise_cons.2 ⟨fun q hq => ?_, ih.1⟩, fun q hq => ?_⟩
   ·have := ih.2 q hq
    omega
   ·rcases List.mem_cons.1 hq with rfl | hq
    ·exact Int.le_refl _
    ·have := ih.2 q hq
     omega
  ·exact ⟨ih.1, fun q hq => by have := ih.2 q hq; omega⟩
theorem all_srt (l : List Int) : (all l).Pairwise (· < ·) := (allF_srt l 0).1
theorem dec_len (l : List Int) (i : Int) : (dec l i).length = l.length := by simp [dec]
theorem idx_some {p : Int → Bool} {l : List Int} (h : 0 ≤ idx p l) : (idx p l).toNat < l.length ∧ p (l.getD (idx p l).toNat default) = true ∧ ∀ j, j < (idx p l).toNat → p (l.getD j default) = false := by
 unfold idx at *
 split at h
 ·rename_i hl
  rw [if_pos hl]
  refine ⟨by simpa using hl, ?_, ?_⟩
  ·have := List.findIdx_getElem (w := hl)
   simpa [hl] using this
  ·intro j hj
   have hj' : j < l.findIdx p := by simpa using hj
   have := List.not_of_lt_findIdx hj'
   simpa [Nat.lt_trans hj' hl] using this
 ·omega
theorem idx_none {p : Int → Bool} {l : List Int} (h : ¬ 0 ≤ idx p l) : ∀ x ∈ l, p x = false := by
 unfold idx at h
 split at h
 ·omega
 ·rename_i hl
  intro x hx
  have := List.findIdx_eq_length.1 (Nat.le_antisymm List.findIdx_le_length (Nat.not_lt.1 hl)) x hx
  simpa using this
/-- The next one round. -/
theorem round_ok {a : List Int} {last : Int} (hs : a.Pairwise (· < ·)) (h0 : ∀ q ∈ a, 0 ≤ q) (hn : a ≠ []) (hl : -1 ≤ last) : round a last ∈ a ∧ ((last < round a last ∧ ∀ j ∈ a, last < j → round a last ≤ j) ∨ ((∀ j ∈ a, j ≤ last) ∧ ∀ j ∈ a, round a last ≤ j)) := by
 have hpos : 0 < a.length := List.length_pos_iff.2 hn
 have hle : ∀ i j, (hij : i ≤ j) → (hj : j < a.length) → a[i]'(by omega) ≤ a[j] := fun i j hij hj => by
  rcases Nat.lt_or_eq_of_le hij with h | rfl
  ·have := List.pairwise_iff_getElem.1 hs i j (by omega) hj h
   omega
  ·exact Int.le_refl _
 have first : ∀ j ∈ a, a.getD 0 default ≤ j := fun j hj => by
  obtain ⟨i, hi, rfl⟩ := List.getElem_of_mem hj
  have := hle 0 i (by omega) hi
  simpa [hpos] using this
 have m0 : a.getD 0 default ∈ a := by simp [hpos]
 unfold round
 split
 ·rename_i h
  obtain ⟨h1, h2, h3⟩ := idx_some h.1
  generalize (idx (fun i => decide (last < i)) a).toNat = k at *
  refine ⟨by simp [h1], .inl ⟨by simpa using h2, fun j hj hlt => ?_⟩⟩
  obtain ⟨i, hi, rfl⟩ := List.getElem_of_mem hj
  by_cases e : i < k
  ·have := h3 i e
   simp [hi] at this
   omega
  ·have := hle k i (by omega) hi
   simpa [h1] using this
 ·rename_i h
  refine ⟨m0, ?_⟩
  by_cases hlast : 0 ≤ last
  ·have hx := idx_none (fun x => h ⟨x, hlast⟩)
   exact .inr ⟨fun j hj => by have := hx j hj; simpa using this, first⟩
  ·exact .inl ⟨by have := h0 _ m0; omega, fun j hj _ => first j hj⟩
theorem getD_mem {l : List Int} {i : Nat} (h : i < l.length) : l.getD i default ∈ l := by
 rw [List.getD_eq_getElem?_getD, List.getElem?_eq_getElem h]
 exact List.getElem_mem h
theorem next_none {picks left : List Int} {step last : Int} (h : next picks step left last < 0) : all left = [] := by
 unfold next at h
 split at h
 ·rename_i hl; exact List.length_eq_zero_iff.1 hl
 ·rename_i hl
  exfalso
  have hmem : ∀ q ∈ all left, 0 ≤ q := fun q hq => (mem_all.1 hq).1
  have hpos : 0 < (all left).length := by omega
  split at h
  ·have := pk_bd (c := picks.getD step.toNat default) (n := (all left).length) (by omega)
   have hi : (pk (picks.getD step.toNat default) (all left).length).toNat < (all left).length := by omega
   have := hmem _ (getD_mem hi)
   omega
  ·unfold round at h
   split at h
   ·rename_i hk
    have hi := (idx_some hk.1).1
    have := hmem _ (getD_mem hi)
    omega
   ·have := hmem _ (getD_mem hpos)
    omega
theorem next_mem {picks left : List Int} {step last : Int} (h : ¬ next picks step left last < 0) : next picks step left last ∈ all left := by
 unfold next at *
 split at h
 ·exact absurd (by omega) h
 ·rename_i hl
  rw [if_neg hl]
  have hpos : 0 < (all left).length := by omega
  split
  ·have := pk_bd (c := picks.getD step.toNat default) (n := (all left).length) (by omega)
   have hi : (pk (picks.getD step.toNat default) (all left).length).toNat < (all left).length := by omega
   exact getD_mem hi
  ·unfold round
   split
   ·rename_i hk
    exact getD_mem (idx_some hk.1).1
   ·exact getD_mem hpos
theorem next_ok {picks left : List Int} {step last : Int} (h : ¬ next picks step left last < 0) : 0 ≤ next picks step left last ∧ next picks step left last < left.length ∧ 0 < left.getD (next picks step left last).toNat default := mem_all.1 (next_mem h)
end R11
end Go.GL


set_option linter.unusedVariables false
namespace Go.GL
/-! ### Turns: who is next, one behind the other -/
namespace R11
def tot (l : List Int) : Nat := (l.map Int.toNat).sum
def Nn (l : List Int) : Prop := ∀ x ∈ l, 0 ≤ x
theorem Nn.at {l : List Int} (h : Nn l) (i : Nat) : 0 ≤ l.getD i default := by
 by_cases hi : i < l.length
 ·exact h _ (getD_mem hi)
 ·rw [List.getD_eq_getElem?_getD, List.getElem?_eq_none (by omega)]; exact Int.le_refl _
theorem tot_set : ∀ (l : List Int) (i : Nat), i < l.length → 0 < l.getD i default → tot (l.set i (l.getD i default - 1)) + 1 = tot l
 | [], i, h, _ => absurd h (by simp)
 | x :: l, 0, _, h => by
  simp only [List.getD_cons_zero] at h
  simp only [List.set_cons_zero, List.getD_cons_zero, tot, List.map_cons, List.sum_cons]
  omega
 | x :: l, i + 1, h, h2 => by
  have := tot_set l i (by simpa using h) (by simpa using h2)
  simp only [List.set_cons_succ, List.getD_cons_succ, tot, List.map_cons, List.sum_cons] at this ⊢
  omega
theorem dec_tot {l : List Int} {i : Int} (h : 0 ≤ i ∧ i < l.length ∧ 0 < l.getD i.toNat default) : tot (dec l i) + 1 = tot l := tot_set l i.toNat (by omega) h.2.2
theorem dec_nn {l : List Int} (hl : Nn l) {i : Int} (h : 0 ≤ i ∧ i < l.length ∧ 0 < l.getD i.toNat default) : Nn (dec l i) := by
 intro x hx
 unfold dec at hx
 rcases List.mem_or_eq_of_mem_set hx with hx | rfl
 ·exact hl x hx
 ·omega
theorem dec_get {l : List Int} {i : Int} (h : 0 ≤ i ∧ i < l.length) (w : Nat) : (dec l i).getD w default = if (w : Int) = i then l.getD w default - 1 else l.getD w default := by
 unfold dec
 rw [List.getD_eq_getElem?_getD, List.getElem?_set, List.getD_eq_getElem?_getD]
 by_cases e : i.toNat = w
 ·subst e
  rw [if_pos rfl, if_pos (by omega), if_pos (by omega)]
  rfl
 ·rw [if_neg e, if_neg (by omega), List.getD_eq_getElem?_getD]
/-- The turns go on from the i-th one, with so much left, behind the last one. -/
structure Go (picks l : List Int) (i : Nat) (now : List Int) (last : Int) : Prop where
 run : l.drop i = turnsF picks (100000 - i) i now last
 nn : Nn now
 lim : tot now + i < 100000
theorem Go.start {picks left : List Int} (h : Nn left) (ht : tot left < 100000) : Go picks (turns picks left) 0 left (-1) := ⟨rfl, h, by omega⟩
theorem drop_getD {l : List Int} {i : Nat} (h : i < l.length) : l.drop i = l.getD i default :: l.drop (i + 1) := by
 rw [List.drop_eq_getElem_cons h]; simp [h]
theorem Go.step {picks l now : List Int} {i : Nat} {last : Int} (h : Go picks l i now last) (hi : i < l.length) :
  next picks i now last = l.getD i default ∧ (0 ≤ l.getD i default ∧ l.getD i default < now.length ∧ 0 < now.getD (l.getD i default).toNat default) ∧ Go picks l (i + 1) (dec now (l.getD i default)) (l.getD i default) := by
 have hr := h.run
 have hl := h.lim
 obtain ⟨f, hf⟩ : ∃ f, 100000 - i = f + 1 := ⟨100000 - i - 1, by omega⟩
 rw [hf, drop_getD hi] at hr
 unfold turnsF at hr
 split at hr
 ·cases hr
 ·rename_i hn
  injection hr with h1 h2
  have hok := next_ok hn
  rw [h1]
  refine ⟨rfl, hok, ?_, dec_nn h.nn hok, ?_⟩
  ·rw [h2, show 100000 - (i + 1) = f by omega]
  ·have := dec_tot hok
   omega
/-- How often a worker has had its turn. -/
def cnt (l : List Int) (i : Nat) (w : Int) : Nat := ((l.take i).filter fun x => decide (x = w)).length
theorem cnt_zero (l : List Int) (w : Int) : cnt l 0 w = 0 := rfl
theorem cnt_succ {l : List Int} {i : Nat} (hi : i < l.length) (w : Int) : cnt l (i + 1) w = cnt l i w + if l.getD i default = w then 1 else 0 := by
 unfold cnt
 rw [List.take_succ_eq_append_getElem hi, List.filter_append, List.length_append, show l.getD i default = l[i] by simp [hi]]
 by_cases e : l[i] = w <;> simp [e]
/-- What is left of each. -/
structure Had (left l : List Int) (i : Nat) (now : List Int) : Prop where
 len : now.length = left.length
 had : ∀ w : Nat, now.getD w default + cnt l i w = left.getD w default
theorem Had.start (left l : List Int) : Had left l 0 left := ⟨rfl, fun w => by rw [cnt_zero]; omega⟩
theorem Had.step {left l now : List Int} {i : Nat} (h : Had left l i now) (hi : i < l.length) (hk : 0 ≤ l.getD i default ∧ l.getD i default < now.length) : Had left l (i + 1) (dec now (l.getD i default)) := by
 refine ⟨by rw [dec_len, h.len], fun w => ?_⟩
 have := h.had w
 rw [dec_get hk, cnt_succ hi]
 by_cases e : (w : Int) = l.getD i default
 ·rw [if_pos e, if_pos e.symm]; omega
 ·rw [if_neg e, if_neg (Ne.symm e)]; omega
/-! #### none waits long -/
/-- How far it is from the last one on to another, round. -/
def far (n : Nat) (last w : Int) : Int := if last < w then w - last else w - last + n
theorem far_bd {n : Nat} {last w : Int} (h1 : -1 ≤ last) (h2 : last < n) (h3 : 0 ≤ w) (h4 : w < n) : 1 ≤ far n last w ∧ far n last w ≤ n := by unfold far; split <;> omega
theorem far_next {now : List Int} {last w : Int} (h1 : -1 ≤ last) (h2 : last < now.length) (hw : w ∈ all now) (hne : round (all now) last ≠ w) : far now.length (round (all now) last) w + 1 ≤ far now.length last w := by
 have hb := mem_all.1 hw
 have hne' : all now ≠ [] := fun e => by rw [e] at hw; cases hw
 obtain ⟨hm, h | h⟩ := round_ok (all_srt now) (fun q hq => (mem_all.1 hq).1) hne' h1
 ·have hmb := mem_all.1 hm
  have := h.2 w hw
  unfold far
  split <;> split <;> omega
 ·have hmb := mem_all.1 hm
  have := h.1 w hw
  have := h.2 w hw
  unfold far
  split <;> split <;> omega
theorem next_round {picks now : List Int} {i : Nat} {last : Int} (hi : picks.length ≤ i) (hn : ¬ next picks i now last < 0) : next picks i now last = round (all now) last := by
 unfold next at *
 split at hn
 ·exact absurd (by omega) hn
 ·rename_i h
  rw [if_neg h, if_neg (by omega)]
/-! #### workers go round -/
/-- All that are left have had as many turns, but that those behind the last one have had one less. -/
structure Rnd (l now : List Int) (i : Nat) (last : Int) (r : Nat) : Prop where
 le : ∀ w : Nat, cnt l i w ≤ r
 hi : ∀ w : Nat, 0 < now.getD w default → (w : Int) ≤ last → cnt l i w = r
 lo : ∀ w : Nat, 0 < now.getD w default → last < (w : Int) → cnt l i w + 1 = r
 lb : -1 ≤ last
theorem Rnd.step {l now : List Int} {i r : Nat} {last : Int} (h : Rnd l now i last r) (hi : i < l.length) (hk : l.getD i default = round (all now) last) (hne : all now ≠ []) : ∃ r', Rnd l (dec now (l.getD i default)) (i + 1) (l.getD i default) r' := by
 have hr := round_ok (all_srt now) (fun q hq => (mem_all.1 hq).1) hne h.lb
 rw [← hk] at hr
 obtain ⟨hm, hr⟩ := hr
 have hmb := mem_all.1 hm
 have hk2 : 0 ≤ l.getD i default ∧ l.getD i default < now.length := ⟨hmb.1, hmb.2.1⟩
 have live : ∀ w : Nat, 0 < (dec now (l.getD i default)).getD w default → 0 < now.getD w default := fun w hw => by
  rw [dec_get hk2] at hw
  split at hw <;> omega
 have mem : ∀ w : Nat, 0 < now.getD w default → (w : Int) ∈ all now := fun w hw => by
  have hlt : w < now.length := by
   apply Decidable.byContradiction
   intro hx
   rw [List.getD_eq_getElem?_getD, List.getElem?_eq_none (by omega)] at hw
   exact absurd hw (by decide)
  exact mem_all.2 ⟨by omega, by omega, by simpa using hw⟩
 generalize hkk : l.getD i default = k at *
 have hkn : ((k.toNat : Nat) : Int) = k := by omega
 have hkc : 0 < now.getD k.toNat default := hmb.2.2
 have ck := cnt_succ hi
 rw [hkk] at ck
 rcases hr with hr | hr
 ·refine ⟨r, ⟨fun w => ?_, fun w hw hle => ?_, fun w hw hlt => ?_, by omega⟩⟩
  ·rw [ck]
   have := h.le w
   split
   ·rename_i e
    have h1 := h.lo w (by rw [show w = k.toNat by omega]; exact hkc) (by omega)
    omega
   ·omega
  ·rw [ck]
   have hl := live w hw
   split
   ·rename_i e
    have h1 := h.lo w hl (by omega)
    omega
   ·rename_i e
    by_cases hlast : (w : Int) ≤ last
    ·exact h.hi w hl hlast
    ·have := hr.2 w (mem w hl) (by omega)
     omega
  ·rw [ck]
   have hl := live w hw
   rw [if_neg (by omega)]
   exact h.lo w hl (by omega)
 ·refine ⟨r + 1, ⟨fun w => ?_, fun w hw hle => ?_, fun w hw hlt => ?_, by omega⟩⟩
  ·rw [ck]
   have := h.le w
   split <;> omega
  ·rw [ck]
   have hl := live w hw
   have h1 := hr.1 w (mem w hl)
   have h2 := hr.2 w (mem w hl)
   have h3 := h.hi w hl h1
   rw [if_pos (by omega)]
   omega
  ·rw [ck]
   have hl := live w hw
   have h1 := hr.1 w (mem w hl)
   have h3 := h.hi w hl h1
   rw [if_neg (by omega)]
   omega
theorem Rnd.start (l left : List Int) : Rnd l left 0 (-1) 1 := ⟨fun w => by rw [cnt_zero]; omega, fun w _ h => by omega, fun w _ _ => by rw [cnt_zero], by omega⟩
end R11
end Go.GL


set_option linter.unusedVariables false
namespace Go.GL
namespace R11
/-! #### none waits longer than for as many turns as there are workers -/
structure Wt (picks left l : List Int) (w : Nat) (i : Nat) (now : List Int) (last waits : Int) : Prop where
 go : Go picks l i now last
 hd : Had left l i now
 lb : -1 ≤ last
 ub : last < left.length
 w0 : 0 ≤ waits
 wn : waits ≤ left.length
 fr : 0 < now.getD w default → waits + far left.length last w ≤ left.length
 zr : i ≤ picks.length → waits = 0
theorem getD_pos {l : List Int} {w : Nat} (h : 0 < l.getD w default) : w < l.length := by
 apply Decidable.byContradiction
 intro hx
 rw [List.getD_eq_getElem?_getD, List.getElem?_eq_none (by omega)] at h
 exact absurd h (by decide)
theorem Wt.start {picks left : List Int} (h : Nn left) (ht : tot left < 100000) (w : Nat) : Wt picks left (turns picks left) w 0 left (-1) 0 :=
 ⟨Go.start h ht, Had.start _ _, by omega, by omega, by omega, by omega, fun hw => by
  have := getD_pos hw
  unfold far
  split <;> omega, fun _ => rfl⟩
theorem Wt.step {picks left l now : List Int} {w i : Nat} {last waits : Int} (h : Wt picks left l w i now last waits) (hi : i < l.length) :
  ∃ now' last', (l.getD i default = w → Wt picks left l w (i + 1) now' last' 0) ∧
   (l.getD i default ≠ w → picks.length ≤ i → (cnt l i w : Int) < left.getD w default → Wt picks left l w (i + 1) now' last' (waits + 1)) ∧
   (l.getD i default ≠ w → ¬ (picks.length ≤ i ∧ (cnt l i w : Int) < left.getD w default) → Wt picks left l w (i + 1) now' last' waits) := by
 obtain ⟨hnx, hok, hg⟩ := h.go.step hi
 have hh := h.hd.step hi ⟨hok.1, hok.2.1⟩
 have hlen := h.hd.len
 have hlast : last < now.length := by rw [hlen]; exact h.ub
 have hw0 := h.w0
 have hdec : ∀ hne : l.getD i default ≠ w, (dec now (l.getD i default)).getD w default = now.getD w default := fun hne => by
  rw [dec_get ⟨hok.1, hok.2.1⟩, if_neg (fun e => hne e.symm)]
 have hnow : ∀ hc : 0 < now.getD w default, (cnt l i w : Int) < left.getD w default := fun hc => by
  have := h.hd.had w
  omega
 refine ⟨dec now (l.getD i default), l.getD i default, fun e => ?_, fun hne hp hc => ?_, fun hne hc => ?_⟩
 ·refine ⟨hg, hh, by omega, by omega, by omega, by omega, fun hw => ?_, fun _ => rfl⟩
  rw [e]
  unfold far
  split <;> omega
 ·have hpos : 0 < now.getD w default := by
   have := h.hd.had w
   omega
  have hf := h.fr hpos
  have hwl := getD_pos hpos
  have hm : (w : Int) ∈ all now := mem_all.2 ⟨by omega, by omega, by simpa using hpos⟩
  have hr := next_round (picks := picks) (now := now) (last := last) hp (by rw [hnx]; omega)
  rw [hnx] at hr
  have hfar := far_next h.lb hlast hm (by rw [← hr]; exact hne)
  rw [← hr, hlen] at hfar
  have hb := far_bd (n := left.length) (last := l.getD i default) (w := w) (by omega) (by omega) (by omega) (by omega)
  refine ⟨hg, hh, by omega, by omega, by omega, by omega, fun _ => by omega, fun hp2 => by omega⟩
 ·refine ⟨hg, hh, by omega, by omega, h.w0, h.wn, fun hw => ?_, fun hp2 => h.zr (by omega)⟩
  rw [hdec hne] at hw
  have h1 := hnow hw
  have h2 := h.zr (by omega)
  have hwl := getD_pos hw
  have hb := far_bd (n := left.length) (last := l.getD i default) (w := w) (by omega) (by omega) (by omega) (by omega)
  omega
/-! #### workers go round -/
/-! #### each order is told by some picks -/
def rank : List Int → Nat → Nat
 | [], _ => 0
 | _ :: _, 0 => 0
 | n :: l, t + 1 => (if 0 < n then 1 else 0) + rank l t
/-- How many turns each of n workers has from the i-th one on. -/
def nowAt (n : Nat) (T : List Int) (i : Nat) : List Int := (List.range n).map fun (k : Nat) => (((T.drop i).filter fun x => decide (x = (k : Int))).length : Int)
def picksAt (n : Nat) (T : List Int) (i : Nat) : List Int := (List.range i).map fun j => (rank (nowAt n T j) (T.getD j default).toNat : Int)
/-! #### a worker without steps -/
def ins (l : List Int) (k : Nat) : List Int := l.take k ++ 0 :: l.drop k
def sh (k : Nat) (x : Int) : Int := if (k : Int) ≤ x then x + 1 else x
theorem ins_len {l : List Int} {k : Nat} (h : k ≤ l.length) : (ins l k).length = l.length + 1 := by
 unfold ins
 rw [List.length_append, List.length_take, List.length_cons, List.length_drop]
 omega
end R11
end Go.GL


set_option linter.unusedVariables false
namespace Go.GL
theorem nodup_le {α : Type} [DecidableEq α] : ∀ (a b : List α), a.Nodup → (∀ x ∈ a, x ∈ b) → a.length ≤ b.length
 | [], _, _, _ => Nat.zero_le _
 | x :: a, b, hn, hs => by
  obtain ⟨h1, h2⟩ := List.nodup_cons.1 hn
  have hx := hs x List.mem_cons_self
  have h3 := nodup_le a (b.erase x) h2 fun y hy => by
   have : y ≠ x := fun e => h1 (e ▸ hy)
   exact (List.mem_erase_of_ne this).2 (hs y (List.mem_cons_of_mem _ hy))
  have h4 := List.length_erase_of_mem hx
  have h5 : 0 < b.length := List.length_pos_of_mem hx
  rw [List.length_cons]
  omega
/-- The numbers below n. -/
def upto (n : Nat) : List Int := (List.range n).map fun (i : Nat) => (i : Int)
theorem mem_upto {n : Nat} {x : Int} : x ∈ upto n ↔ 0 ≤ x ∧ x < n := by
 unfold upto
 rw [List.mem_map]
 constructor
 ·rintro ⟨i, hi, rfl⟩
  have := List.mem_range.1 hi
  omega
 ·intro h
  exact ⟨x.toNat, List.mem_range.2 (by omega), by omega⟩
theorem upto_nd (n : Nat) : (upto n).Nodup := by
 unfold upto
 rw [List.Nodup, List.pairwise_map]
 exact (List.nodup_range (n := n)).imp fun h e => h (by omega)
theorem upto_len (n : Nat) : (upto n).length = n := by simp [upto]
namespace R19
variable {p v : List Int}
/-! ### Kids -/
theorem mem_kids {t : Nat} {x : Int} : x ∈ kids p t ↔ 0 ≤ x ∧ x < p.length ∧ p.getD x.toNat default = (t : Int) := by
 unfold kids kidsTo
 rw [List.mem_map]
 constructor
 ·rintro ⟨i, hi, rfl⟩
  obtain ⟨h1, h2⟩ := List.mem_filter.1 hi
  have := List.mem_range.1 h1
  exact ⟨by omega, by omega, of_decide_eq_true h2⟩
 ·rintro ⟨h0, h1, h2⟩
  exact ⟨x.toNat, List.mem_filter.2 ⟨List.mem_range.2 (by omega), decide_eq_true h2⟩, by omega⟩
theorem kids_nd (p : List Int) (t : Nat) : (kids p t).Nodup := by
 unfold kids kidsTo
 rw [List.Nodup, List.pairwise_map]
 exact ((List.nodup_range (n := p.length)).filter _).imp fun h e => h (by omega)
theorem kid_gt (hr : right p) {t : Nat} {x : Int} (h : x ∈ kids p t) : (t : Int) < x := by
 obtain ⟨h0, h1, h2⟩ := mem_kids.1 h
 obtain ⟨h3, h4⟩ := hr.2 x.toNat (by omega)
 by_cases e : x.toNat = 0
 ·have := h3 e
  omega
 ·have := h4 (by omega)
  omega
theorem par_lt (hr : right p) {x : Nat} (h : x < p.length) : p.getD x default < (x : Int) ∧ -1 ≤ p.getD x default ∧ (p.getD x default < 0 ↔ x = 0) := by
 obtain ⟨h3, h4⟩ := hr.2 x h
 by_cases e : x = 0
 ·have := h3 e
  omega
 ·have := h4 (by omega)
  omega
/-! ### Deques -/
theorem flat_set {D : List (List Int)} {k : Nat} (h : k < D.length) : ∃ r, D.flatten.Perm (D.getD k default ++ r) ∧ ∀ l, (D.set k l).flatten.Perm (l ++ r) := by
 refine ⟨(D.take k).flatten ++ (D.drop (k + 1)).flatten, ?_, fun l => ?_⟩
 ·have e : D = D.take k ++ D.getD k default :: D.drop (k + 1) := by
   have e1 : D.getD k default = D[k] := by simp [h]
   rw [e1, ← List.drop_eq_getElem_cons h, List.take_append_drop]
  have e2 : D.flatten = (D.take k).flatten ++ (D.getD k default ++ (D.drop (k + 1)).flatten) := by
   conv => lhs; rw [e]
   rw [List.flatten_append, List.flatten_cons]
  rw [e2, ← List.append_assoc, ← List.append_assoc]
  exact List.Perm.append_right _ List.perm_append_comm
 ·rw [List.set_eq_take_append_cons_drop, if_pos h, List.flatten_append, List.flatten_cons, ← List.append_assoc, ← List.append_assoc]
  exact List.Perm.append_right _ List.perm_append_comm
theorem findF_none {D : List (List Int)} {w : Nat} : ∀ (f j : Nat), findF D w f j = none → ∀ i, j ≤ i → i < j + f → (D.getD ((w + i) % D.length) default).length = 0
 | 0, j, _, i, h1, h2 => by omega
 | f + 1, j, h, i, h1, h2 => by
  unfold findF at h
  split at h
  ·rename_i h0
   by_cases e : i = j
   ·rw [e]; exact h0
   ·exact findF_none f (j + 1) h i (by omega) (by omega)
  ·exact nomatch h
theorem findF_lt' {D : List (List Int)} {w : Nat} (h0 : 0 < D.length) : ∀ (f j : Nat) {k : Nat}, findF D w f j = some k → k < D.length ∧ 0 < (D.getD k default).length
 | 0, _, _, h => nomatch h
 | f + 1, j, k, h => by
  unfold findF at h
  split at h
  ·exact findF_lt' h0 f (j + 1) h
  ·rename_i h1
   injection h with h
   subst h
   exact ⟨Nat.mod_lt _ h0, by omega⟩
/-- What is taken, and what is left: all that there was. -/
theorem takeM_perm {D : List (List Int)} {w : Nat} (hw : w < D.length) (hn : D.flatten ≠ []) : D.flatten.Perm ((takeM D w).1 :: (takeM D w).2.flatten) ∧ (takeM D w).2.length = D.length := by
 unfold takeM
 split
 ·rename_i h
  obtain ⟨r, h1, h2⟩ := flat_set hw
  refine ⟨?_, by rw [List.length_set]⟩
  refine h1.trans (List.Perm.trans ?_ ((h2 _).symm.cons _))
  generalize D.getD w default = l at *
  have e : l.take (l.length - 1) ++ [l.getD (l.length - 1) default] = l := by
   have e1 : l.getD (l.length - 1) default = l[l.length - 1]'(by omega) := by rw [List.getD_eq_getElem?_getD, List.getElem?_eq_getElem (by omega)]; rfl
   rw [e1]
   have e2 := List.take_append_getElem (l := l) (i := l.length - 1) (by omega)
   rw [e2, List.take_of_length_le (by omega)]
  show (l ++ r).Perm (l.getD (l.length - 1) default :: (l.take (l.length - 1) ++ r))
  conv => lhs; rw [← e]
  rw [List.append_assoc]
  exact List.perm_middle
 ·split
  ·rename_i k hk
   obtain ⟨h3, h4⟩ := findF_lt' (by omega) _ _ hk
   obtain ⟨r, h1, h2⟩ := flat_set h3
   refine ⟨?_, by rw [List.length_set]⟩
   refine h1.trans (List.Perm.trans ?_ ((h2 _).symm.cons _))
   generalize D.getD k default = l at *
   match l, h4 with
   | x :: l, _ => exact List.Perm.refl _
  ·rename_i h hk
   exfalso
   apply hn
   rw [List.flatten_eq_nil_iff]
   intro l hl
   obtain ⟨i, hi, rfl⟩ := List.getElem_of_mem hl
   apply List.eq_nil_of_length_eq_zero
   by_cases hiw : w ≤ i
   ·have := findF_none _ _ hk (i - w) (by omega) (by omega)
    rw [show w + (i - w) = i by omega, Nat.mod_eq_of_lt hi] at this
    simpa [hi] using this
   ·have := findF_none _ _ hk (i + D.length - w) (by omega) (by omega)
    rw [show w + (i + D.length - w) = i + D.length by omega, Nat.add_mod_right, Nat.mod_eq_of_lt hi] at this
    simpa [hi] using this
/-! ### The machine of deques -/
/-- Who is next. -/
def nxt (picks : List Int) (nw n : Nat) (last : Int) : Int := R11.next picks n (List.replicate nw 1) last
theorem nxt_ok {picks : List Int} {nw n : Nat} {last : Int} (h : 1 ≤ nw) : 0 ≤ nxt picks nw n last ∧ nxt picks nw n last < nw := by
 have hne : ¬ R11.next picks n (List.replicate nw 1) last < 0 := fun h1 => by
  have h2 := R11.next_none h1
  have : (0 : Int) ∈ R11.all (List.replicate nw 1) := R11.mem_all.2 ⟨by omega, by rw [List.length_replicate]; omega, by
   rw [List.getD_eq_getElem?_getD, List.getElem?_replicate, if_pos (by exact h)]; decide⟩
  rw [h2] at this
  exact nomatch this
 obtain ⟨h1, h2, _⟩ := R11.next_ok hne
 rw [List.length_replicate] at h2
 exact ⟨h1, h2⟩
structure Mc where
 D : List (List Int)
 order : List Int
 who : List Int
 last : Int
def mstep (p picks : List Int) (nw : Nat) (m : Mc) : Mc :=
 { D := (takeM m.D (nxt picks nw m.order.length m.last).toNat).2.set (nxt picks nw m.order.length m.last).toNat ((takeM m.D (nxt picks nw m.order.length m.last).toNat).2.getD (nxt picks nw m.order.length m.last).toNat default ++ kids p (takeM m.D (nxt picks nw m.order.length m.last).toNat).1.toNat), order := m.order ++ [(takeM m.D (nxt picks nw m.order.length m.last).toNat).1], who := m.who ++ [nxt picks nw m.order.length m.last], last := nxt picks nw m.order.length m.last }
def mst (p picks : List Int) (nw : Nat) : Nat → Mc
 | 0 => ⟨[0] :: List.replicate (nw - 1) [], [], [], -1⟩
 | n + 1 => mstep p picks nw (mst p picks nw n)
/-- What is known of the machine. -/
structure MOk (p : List Int) (nw n : Nat) (m : Mc) : Prop where
 dl : m.D.length = nw
 ol : m.order.length = n
 wl : m.who.length = n
 nd : (m.order ++ m.D.flatten).Nodup
 mem : ∀ t : Int, t ∈ m.order ++ m.D.flatten ↔ (0 ≤ t ∧ t < p.length ∧ (t = 0 ∨ p.getD t.toNat default ∈ m.order))
 who : ∀ w ∈ m.who, 0 ≤ w ∧ w < nw
theorem MOk.all_le {nw n : Nat} {m : Mc} (h : MOk p nw n m) : (m.order ++ m.D.flatten).length ≤ p.length := by
 have := nodup_le _ (upto p.length) h.nd fun x hx => mem_upto.2 ⟨((h.mem x).1 hx).1, ((h.mem x).1 hx).2.1⟩
 rwa [upto_len] at this
/-- No deque has a task: all are run. -/
theorem MOk.full {nw n : Nat} {m : Mc} (hr : right p) (h : MOk p nw n m) (e : m.D.flatten = []) : ∀ t : Nat, t < p.length → (t : Int) ∈ m.order := by
 have hm := h.mem
 rw [e, List.append_nil] at hm
 intro t
 induction t using Nat.strongRecOn with
 | _ t ih =>
  intro ht
  refine (hm t).2 ⟨by omega, by omega, ?_⟩
  obtain ⟨h1, h2, h3⟩ := par_lt hr ht
  by_cases e0 : t = 0
  ·exact .inl (by omega)
  ·right
   have := ih (p.getD t default).toNat (by omega) (by omega)
   rw [Int.toNat_natCast]
   rwa [Int.toNat_of_nonneg (by omega)] at this
/-- All tasks are run behind so many steps. -/
theorem MOk.done {nw : Nat} {m : Mc} (hr : right p) (h : MOk p nw p.length m) : ∀ t : Nat, t < p.length → (t : Int) ∈ m.order := by
 have h1 := h.all_le
 rw [List.length_append, h.ol] at h1
 exact h.full hr (List.eq_nil_of_length_eq_zero (by omega))
/-- While a task is not run, some deque is not empty. -/
theorem MOk.busy {nw n : Nat} {m : Mc} (hr : right p) (h : MOk p nw n m) (hn : n < p.length) : m.D.flatten ≠ [] := by
 intro e
 have hall := h.full hr e
 have := nodup_le (upto p.length) m.order (upto_nd _) fun x hx => by
  obtain ⟨h1, h2⟩ := mem_upto.1 hx
  have := hall x.toNat (by omega)
  rwa [Int.toNat_of_nonneg h1] at this
 rw [upto_len, h.ol] at this
 omega
theorem MOk.start (hr : right p) {picks : List Int} {nw : Nat} (h : 1 ≤ nw) : MOk p nw 0 (mst p picks nw 0) := by
 have e : (mst p picks nw 0).D.flatten = [0] := by
  show ([0] :: List.replicate (nw - 1) ([] : List Int)).flatten = [0]
  rw [List.flatten_cons, List.flatten_replicate_nil]
  rfl
 have hn := hr.1.1
 refine ⟨?_, rfl, rfl, ?_, fun t => ?_, fun w hw => nomatch hw⟩
 ·show ([0] :: List.replicate (nw - 1) ([] : List Int)).length = nw
  rw [List.length_cons, List.length_replicate]
  omega
 ·rw [e]; exact List.pairwise_singleton _ _
 ·rw [e]
  show t ∈ [(0 : Int)] ↔ _ ∧ _ ∧ (_ ∨ _ ∈ ([] : List Int))
  simp only [List.mem_singleton, List.not_mem_nil, or_false]
  omega
/-- What a step takes. -/
theorem MOk.take {nw n : Nat} {m : Mc} (hr : right p) (h : MOk p nw n m) (hn : n < p.length) {w : Nat} (hw : w < nw) :
  ∃ T : Nat, (takeM m.D w).1 = (T : Int) ∧ T < p.length ∧ (T : Int) ∉ m.order ∧ (T = 0 ∨ p.getD T default ∈ m.order) ∧ m.D.flatten.Perm ((T : Int) :: (takeM m.D w).2.flatten) ∧ (takeM m.D w).2.length = nw := by
 obtain ⟨h1, h2⟩ := takeM_perm (D := m.D) (w := w) (by rw [h.dl]; exact hw) (h.busy hr hn)
 have h3 : (takeM m.D w).1 ∈ m.D.flatten := h1.mem_iff.2 List.mem_cons_self
 obtain ⟨h4, h5, h6⟩ := (h.mem _).1 (List.mem_append_right _ h3)
 have h7 : (takeM m.D w).1 ∉ m.order := fun hc => (List.nodup_append.1 h.nd).2.2 _ hc _ h3 rfl
 obtain ⟨T, hT⟩ : ∃ T : Nat, (takeM m.D w).1 = (T : Int) := ⟨(takeM m.D w).1.toNat, by omega⟩
 rw [hT] at h4 h5 h6 h7 h1
 exact ⟨T, hT, by omega, h7, h6.imp (by omega) fun h => by rwa [Int.toNat_natCast] at h, h1, by rw [h2, h.dl]⟩
theorem MOk.step {nw n : Nat} {m : Mc} (hr : right p) (h : MOk p nw n m) (hn : n < p.length) (hw : 1 ≤ nw) (picks : List Int) : MOk p nw (n + 1) (mstep p picks nw m) := by
 unfold mstep
 obtain ⟨hx0, hx1⟩ := nxt_ok (picks := picks) (nw := nw) (n := m.order.length) (last := m.last) hw
 obtain ⟨w, ew⟩ : ∃ w : Nat, nxt picks nw m.order.length m.last = (w : Int) := ⟨(nxt picks nw m.order.length m.last).toNat, by omega⟩
 rw [ew] at hx0 hx1 ⊢
 rw [Int.toNat_natCast]
 obtain ⟨T, hT, hTl, hTo, hTp, hp, hl⟩ := h.take hr hn (w := w) (by omega)
 rw [hT, Int.toNat_natCast]
 obtain ⟨r, hr1, hr2⟩ := flat_set (D := (takeM m.D w).2) (k := w) (by omega)
 have hper : (m.order ++ [(T : Int)] ++ ((takeM m.D w).2.set w ((takeM m.D w).2.getD w default ++ kids p T)).flatten).Perm (kids p T ++ (m.order ++ m.D.flatten)) := by
  have e1 : ((takeM m.D w).2.set w ((takeM m.D w).2.getD w default ++ kids p T)).flatten.Perm (kids p T ++ (takeM m.D w).2.flatten) := by
   refine (hr2 _).trans ?_
   rw [List.append_assoc]
   refine List.Perm.trans ?_ (hr1.symm.append_left _)
   rw [← List.append_assoc, ← List.append_assoc]
   exact List.perm_append_comm.append_right _
  refine (e1.append_left _).trans ?_
  rw [List.append_assoc]
  refine List.Perm.trans ?_ ((hp.symm.append_left m.order).append_left (kids p T))
  show (m.order ++ (T : Int) :: (kids p T ++ (takeM m.D w).2.flatten)).Perm (kids p T ++ (m.order ++ ([(T : Int)] ++ (takeM m.D w).2.flatten)))
  have a1 : (m.order ++ (T : Int) :: (kids p T ++ (takeM m.D w).2.flatten)) = (m.order ++ [(T : Int)] ++ kids p T) ++ (takeM m.D w).2.flatten := by simp
  have a2 : (kids p T ++ (m.order ++ ([(T : Int)] ++ (takeM m.D w).2.flatten))) = (kids p T ++ (m.order ++ [(T : Int)])) ++ (takeM m.D w).2.flatten := by simp
  rw [a1, a2]
  exact List.perm_append_comm.append_right _
 have hk0 : ∀ x ∈ kids p T, x ∉ m.order ++ m.D.flatten := fun x hx hc => by
  have hgt := kid_gt hr hx
  obtain ⟨_, _, h3⟩ := mem_kids.1 hx
  obtain ⟨_, _, h6⟩ := (h.mem x).1 hc
  rcases h6 with h6 | h6
  ·omega
  ·rw [h3] at h6
   exact hTo h6
 refine ⟨by rw [List.length_set, hl], by simp [h.ol], by simp [h.wl], ?_, fun t => ?_, fun x hx => ?_⟩
 ·rw [hper.nodup_iff, List.nodup_append]
  exact ⟨kids_nd p T, h.nd, fun a ha b hb e => hk0 a ha (e ▸ hb)⟩
 ·rw [hper.mem_iff, List.mem_append, h.mem t, mem_kids, List.mem_append, List.mem_singleton]
  constructor
  ·rintro (⟨h1, h2, h3⟩ | ⟨h1, h2, h3⟩)
   ·exact ⟨h1, h2, .inr (.inr h3)⟩
   ·exact ⟨h1, h2, h3.imp id .inl⟩
  ·rintro ⟨h1, h2, h3 | h3 | h3⟩
   ·exact .inr ⟨h1, h2, .inl h3⟩
   ·exact .inr ⟨h1, h2, .inr h3⟩
   ·exact .inl ⟨h1, h2, h3⟩
 ·rcases List.mem_append.1 hx with hx | hx
  ·exact h.who x hx
  ·rw [List.mem_singleton] at hx
   omega
theorem MOk.run (hr : right p) {picks : List Int} {nw : Nat} (h : 1 ≤ nw) : ∀ n, n ≤ p.length → MOk p nw n (mst p picks nw n)
 | 0, _ => .start hr h
 | n + 1, hn => (MOk.run hr h n (by omega)).step hr (by omega) h picks
end R19
end Go.GL


set_option linter.unusedVariables false
namespace Go.GL
/-! ### What chapter 2's laws do with sets -/
namespace R2
def rot (c : Cell) : Cell := ⟨-c.y, c.x⟩
def rotN : Nat → Cell → Cell
 | 0, c => c
 | n + 1, c => rot (rotN n c)
def flipC (k : Int) (c : Cell) : Cell := if 4 ≤ k then ⟨-c.x, c.y⟩ else c
def turnC (way : Int) (c : Cell) : Cell := rotN ((pk way 8).toNat % 4) (flipC (pk way 8) c)
def turned (way : Int) (l : List Cell) : List Cell := R1.puts (l.map (turnC way))
end R2
end Go.GL


set_option linter.unusedVariables false
namespace Go.GL
/-! ### Generations of planes: where they stand, how they are turned, what is far apart, how fast they grow -/
namespace R2
open R9 (gen gens pl)
open R8 (b2i)
def shF (p q : Int) (f : Int → Int → Bool) : Int → Int → Bool := fun x y => f (x - p) (y - q)
def rotF (f : Int → Int → Bool) : Int → Int → Bool := fun x y => f y (-x)
def flipF (f : Int → Int → Bool) : Int → Int → Bool := fun x y => f (-x) y
def orF (f g : Int → Int → Bool) : Int → Int → Bool := fun x y => f x y || g x y
def noF : Int → Int → Bool := fun _ _ => false
def rotFN : Nat → (Int → Int → Bool) → Int → Int → Bool
 | 0, f => f
 | k + 1, f => rotF (rotFN k f)
def turnF (way : Int) (f : Int → Int → Bool) : Int → Int → Bool := rotFN ((pk way 8).toNat % 4) (if 4 ≤ pk way 8 then flipF f else f)
end R2
end Go.GL


set_option linter.unusedVariables false
namespace Go.GL
/-! ### What runs of sets answer -/
namespace R2
open R9 (gen gens pl)
/-! #### Sixteen by sixteen, behind at most twelve generations: at most 816 cells -/
def octP (x y : Int) : Prop := 2 * x + y ≤ 33 ∧ 2 * x - y ≤ 34 ∧ -2 * x + y ≤ 35 ∧ -2 * x - y ≤ 36 ∧ x + 2 * y ≤ 33 ∧ x - 2 * y ≤ 35 ∧ -x + 2 * y ≤ 34 ∧ -x - 2 * y ≤ 36
instance (x y : Int) : Decidable (octP x y) := inferInstanceAs (Decidable (_ ∧ _))
def octL : List Cell := ((List.range 60).flatMap fun i : Nat => (List.range 60).map fun j : Nat => (⟨(i : Int) - 30, (j : Int) - 30⟩ : Cell)).filter fun c => decide (octP c.x c.y)
end R2
end Go.GL


set_option linter.unusedVariables false
set_option linter.unusedSimpArgs false
namespace Go.GL
/-! ### 'm[k] += d': an entry is made or found, and written through its stamp -/
/-- As MapA; hh is the stamp of the entry that ks has. -/
def MapE (P : Program) (kt : TypeId) (b : Nat) (es : KVs) (ks : List Int) (hh : Int) : Asrt := fun c => ∃ ents clock, c = [(b, .map ents clock)] ∧ ents.toList.map (fun e => (e.key, e.val)) = es.map (fun p => (mkv P kt p.1, p.2)) ∧ (∀ p ∈ es, ∃ k, intAt P 9 kt = some k ∧ p.1.length = k) ∧ Stm ents clock ∧ ∃ i e v, ents[i]? = some e ∧ (e.born : Int) = hh ∧ mpos es ks 0 = some (i, v)
theorem MapE.a {P : Program} {kt : TypeId} {b : Nat} {es : KVs} {ks : List Int} {hh : Int} {c : List Chunk} (h : MapE P kt b es ks hh c) : MapA P kt b es c := by
 obtain ⟨ents, clock, h1, h2, h3, h4, _⟩ := h
 exact ⟨ents, clock, h1, h2, h3, h4⟩
section
variable {w0 : World} {n : Nat} {F : Frm} {A : List Asrt} {I : List Chunk} {P : Program}
variable {dst : Option Tmp} {ty : TypeId} {pos : String} {af : Array Edge} {gd : Option (Nat × Bool)}
variable {t e kt : TypeId} {d d' : TypeDesc} {s by_ s' by' : Nat} {z z' : List Value} {x y ix : Operand} {b : Nat} {es : KVs} {u : KVs → List Asrt} {k : Nat}
end
end Go.GL


set_option linter.unusedVariables false
namespace Go.GL
/-! ### How many neighbours cells have, as a map; a cell itself counts ten -/
abbrev NM := List (Cell × Int)
namespace R2
def keyOf (c : Cell) : List Int := [c.x, c.y]
def kvs (nm : NM) : KVs := nm.map fun p => (keyOf p.1, .int .i64 p.2)
def get : NM → Cell → Int
 | [], _ => 0
 | p :: nm, c => if p.1 = c then p.2 else get nm c
def bump : NM → Cell → Int → NM
 | [], c, d => [(c, d)]
 | p :: nm, c, d => if p.1 = c then (c, p.2 + d) :: nm else p :: bump nm c d
/-- The first k of the nine about a cell count one each. -/
def nines (c : Cell) : Nat → NM → NM
 | 0, nm => nm
 | k + 1, nm => bump (nines c k nm) (nb c k) 1
def one (c : Cell) (nm : NM) : NM := bump (nines c 9 nm) c 9
def counts (l : List Cell) : NM := l.foldl (fun nm c => one c nm) []
/-- What lives on of a map of counts. -/
def outOf (p : List Int × Value) : Option Cell :=
 match p with
 | ([x, y], .int .i64 n) => if lives (decide (10 ≤ n)) (n % 10) then some ⟨x, y⟩ else none
 | _ => none
end R2
end Go.GL


set_option linter.unusedVariables false
namespace Go.GL
namespace R2
open R9 (gen gens pl)
/-! #### Boxes -/
theorem lo_mem {l : List Cell} (h : l.length ≠ 0) : (∃ e ∈ l, (R1.lo l (R1.g l 0)).x = e.x) ∧ ∃ e ∈ l, (R1.lo l (R1.g l 0)).y = e.y := by
 have h0 : R1.g l 0 ∈ l := by unfold R1.g; simp [show 0 < l.length by omega]
 obtain ⟨h1, h2⟩ := R1.lo_at (l := l) (c := R1.g l 0)
 exact ⟨h1.elim (fun e => ⟨_, h0, e⟩) id, h2.elim (fun e => ⟨_, h0, e⟩) id⟩
theorem hi_mem {l : List Cell} (h : l.length ≠ 0) : (∃ e ∈ l, (R1.hi l (R1.g l 0)).x = e.x) ∧ ∃ e ∈ l, (R1.hi l (R1.g l 0)).y = e.y := by
 have h0 : R1.g l 0 ∈ l := by unfold R1.g; simp [show 0 < l.length by omega]
 obtain ⟨h1, h2⟩ := R1.hi_at (l := l) (c := R1.g l 0)
 exact ⟨h1.elim (fun e => ⟨_, h0, e⟩) id, h2.elim (fun e => ⟨_, h0, e⟩) id⟩
theorem box_some {l : List Cell} (h : l.length ≠ 0) (hr : R1.right l) : R1.box l = (⟨(R1.lo l (R1.g l 0)).x, (R1.lo l (R1.g l 0)).y, (R1.hi l (R1.g l 0)).x - (R1.lo l (R1.g l 0)).x + 1, (R1.hi l (R1.g l 0)).y - (R1.lo l (R1.g l 0)).y + 1⟩, true) := if_neg (by rw [not_or, Decidable.not_not]; exact ⟨h, hr⟩)
/-- No more than this. -/
structure RBd (r : R1.Rect) : Prop where
 x1 : -1099511627776 ≤ r.x
 x2 : r.x ≤ 1099511627776
 y1 : -1099511627776 ≤ r.y
 y2 : r.y ≤ 1099511627776
 w1 : 0 ≤ r.w
 w2 : r.w ≤ 2199023255553
 h1 : 0 ≤ r.h
 h2 : r.h ≤ 2199023255553
/-! #### Few cells, and how many more there may be -/
def nine (l : List Cell) (c : Cell) : Nat := (l.filter fun d => decide (near c d ∨ d = c)).length
end R2
end Go.GL


set_option linter.unusedVariables false
namespace Go.GL
open Go.Proofs
attribute [local irreducible] wpList Code.wp Exit.then Exit.inBlock Ends Tri TriH OpV OpG FnC epf wpAnyH
variable {A : List Asrt} {I : List Chunk}
theorem R1.first_y {l : List Cell} (hs : R1.Srt l) (h : 0 < l.length) : (R1.lo l (R1.g l 0)).y = (R1.g l 0).y := by
 have h1 := (R1.lo_le (l := l) (c := R1.g l 0)).1
 obtain ⟨e, he, hy⟩ := (R2.lo_mem (l := l) (by omega)).2
 obtain ⟨j, hj, rfl⟩ := List.getElem_of_mem he
 have e1 : R1.g l j = l[j] := by unfold R1.g; simp [hj]
 by_cases hj0 : j = 0
 ·subst hj0
  rw [hy, e1]
 ·have := R1.srt_lt hs (i := 0) (j := j) (by omega) hj
  rw [e1] at this
  unfold R1.less at this
  omega
theorem R1.last_y {l : List Cell} (hs : R1.Srt l) (h : 0 < l.length) : (R1.hi l (R1.g l 0)).y = (R1.g l (l.length - 1)).y := by
 have h1 := (R1.hi_ge (l := l) (c := R1.g l 0)).2 (R1.g l (l.length - 1)) (by unfold R1.g; simp [show l.length - 1 < l.length by omega])
 obtain ⟨e, he, hy⟩ := (R2.hi_mem (l := l) (by omega)).2
 obtain ⟨j, hj, rfl⟩ := List.getElem_of_mem he
 have e1 : R1.g l j = l[j] := by unfold R1.g; simp [hj]
 by_cases hj0 : j = l.length - 1
 ·rw [hy, ← hj0, e1]
 ·have := R1.srt_lt hs (i := j) (j := l.length - 1) (by omega) (by omega)
  rw [e1] at this
  unfold R1.less at this
  omega
set_option maxHeartbeats 2000000 in
set_option maxRecDepth 100000 in
theorem cells_box {l : List Cell} {a : Option Addr} {cap : Nat} (hs : SlAt I a l) (hn : l.length ≤ 1000000000) :
  FnC Try.prog 16 [.slice a l.length cap].toArray A I (fun v A' I' => v = .tuple [rectV (R1.box l).1, .bool (R1.box l).2].toArray ∧ A = A' ∧ I ⊆ I') := by
 skip
 skip
 refine fn_enter1 Try.func16 rfl Try.ntmps16 rfl fun w0 => ?_
 refine tS (tR ?_)
 refine tri_g opg_alloc rfl ?_
 rintro _ _ _ ⟨b2, rfl, rfl, rfl⟩
 refine tA rfl rfl (tN (tT (tS (tS (tR (tM rfl rfl ?_))))))
 refine tri_v (opv_len rfl) rfl ?_
 refine tri_v (by first | exact opv_eql rfl rfl | exact opv_eqlI rfl rfl rfl rfl rfl rfl | exact opv_eqlB rfl rfl | exact opv_eqlNil rfl rfl) rfl ?_
 refine tM rfl rfl ?_
 refine tri_split rfl rfl (fun h0 => ?_) (fun h0 => ?_)
 ·have h0 : l.length = 0 := by omega
  refine tri_guard_skip rfl rfl rfl rfl (tri_guard_skip rfl rfl rfl rfl (tri_guard_skip rfl rfl rfl rfl ?_))
  refine tri_v (by first | exact opv_pick_t rfl rfl | exact opv_pick_f rfl rfl | exact opv_pick_bool rfl rfl rfl | exact opv_pick rfl rfl rfl) rfl ?_
  refine tN (tT ?_)
  refine tri_cond_true rfl ?_
  refine tS (tR ?_)
  refine tri_v (by first | exact opv_buildS rfl rfl | exact opv_buildA rfl rfl) rfl ?_
  refine tri_g (opg_store rfl rfl rfl rfl rfl rfl) rfl ?_
  rintro _ _ _ ⟨rfl, rfl⟩
  refine tA rfl rfl (tN (tT (tri_ret (tri_then_ret ?_))))
  refine tri_end A Suf.h rfl (.cons (rv_cellA rfl rfl rfl) (.cons (rv_tmp rfl) .nil)) ?_
  rw [show R1.box l = (⟨0, 0, 0, 0⟩, false) from if_pos (.inl h0)]
  exact ⟨rfl, rfl, fun _ h => h⟩
 ·have h0 : l.length ≠ 0 := by omega
  refine tri_guard_run rfl rfl rfl (tM rfl rfl (tri_guard_run rfl rfl rfl ?_))
  refine tri_g (opg_call (xs := [_]) rfl (cells_right hs hn)) rfl ?_
  rintro _ _ I1 ⟨rfl, rfl, hI1⟩
  refine tri_guard_run rfl rfl rfl ?_
  refine tri_v (by first | exact opv_notD rfl | exact opv_not rfl) rfl ?_
  refine tri_v (by first | exact opv_pick_t rfl rfl | exact opv_pick_f rfl rfl | exact opv_pick_bool rfl rfl rfl | exact opv_pick rfl rfl rfl) rfl ?_
  refine tN (tT ?_)
  refine tri_cond_dec rfl (fun h1 => ?_) (fun h1 => ?_)
  ·refine tS (tR ?_)
   refine tri_v (by first | exact opv_buildS rfl rfl | exact opv_buildA rfl rfl) rfl ?_
   refine tri_g (opg_store rfl rfl rfl rfl rfl rfl) rfl ?_
   rintro _ _ _ ⟨rfl, rfl⟩
   refine tA rfl rfl (tN (tT (tri_ret (tri_then_ret ?_))))
   refine tri_end A Suf.h rfl (.cons (rv_cellA rfl rfl rfl) (.cons (rv_tmp rfl) .nil)) ?_
   rw [show R1.box l = (⟨0, 0, 0, 0⟩, false) from if_pos (.inr h1)]
   exact ⟨rfl, rfl, hI1⟩
  ·have hr : R1.right l := Decidable.not_not.1 h1
   have hsrt := R1.right_srt hr
   have hbx := R2.box_some h0 hr
   rw [R1.first_y hsrt (by omega), R1.last_y hsrt (by omega)] at hbx
   have hin : ∀ d ∈ l, R1.inB d := R1.right_inB hr
   have h00 : R1.inB (R1.g l 0) := (hr.1 0 (by omega)).1
   have hll : R1.inB (R1.g l (l.length - 1)) := (hr.1 _ (by omega)).1
   have hs := hs.mono hI1
   have hl2 := hr.2
   refine tri_skip (tT (tS ?_))
   refine tri_draw [0, 1, 2, 3, 4, 5, 6, 7, 8, 9] rfl [] rfl mixed ?_
   refine th_take rfl rfl (by kernel_rfl)  (opv_move rfl) ?_
   refine th_take rfl rfl (by kernel_rfl)  (by first | exact opv_indexAddrA rfl rfl (by first | decide | omega) (by first | decide | omega) | exact opv_indexAddrSN rfl rfl (by omega) (by assumption) rfl | exact opv_indexAddrS rfl rfl (by omega) (by omega) (by assumption) rfl | exact opv_indexAddrE rfl (by assumption) (by omega) rfl (by first | decide | omega) (by first | decide | omega) | exact opv_indexAddrRN rfl rfl (by omega) | exact opv_indexAddrR rfl rfl (by omega) (by omega) | exact opv_indexAddrRA rfl (by omega) rfl (by first | decide | omega) (by first | decide | omega) | exact opv_indexAddrSP rfl rfl (by omega) (by omega) | exact opv_indexAddrSN rfl rfl (by omega) (by assumption) (by omega) | exact opv_indexAddrS rfl rfl (by omega) (by omega) (by assumption) (by omega)) ?_
   refine th_take rfl rfl (by kernel_rfl)  (by first | exact opv_fieldAddr rfl rfl | exact opv_fieldAddrE rfl (by assumption) (by omega) rfl | exact opv_fieldAddrR rfl (by omega) rfl | exact opv_fieldAddrP rfl rfl rfl) ?_
   refine th_take rfl rfl (by kernel_rfl)  (by first | exact opv_load1 rfl rfl rfl | exact opv_loadA rfl rfl rfl | exact opv_loadE1 rfl (by assumption) rfl (by omega) rfl rfl | exact opv_loadEA rfl (by assumption) rfl (by omega) rfl rfl | exact opv_loadRX1 rfl rfl (by omega) rfl rfl | exact opv_loadRXA rfl rfl (by omega) rfl rfl rfl | exact opv_loadIX rfl rfl (by omega) | exact opv_loadR1 rfl rfl rfl | exact opv_loadRA rfl rfl rfl rfl) ?_
   refine th_take rfl rfl (by kernel_rfl)  (opv_move rfl) ?_
   refine th_take rfl rfl (by kernel_rfl)  (by first | exact opv_indexAddrA rfl rfl (by first | decide | omega) (by first | decide | omega) | exact opv_indexAddrSN rfl rfl (by omega) (by assumption) rfl | exact opv_indexAddrS rfl rfl (by omega) (by omega) (by assumption) rfl | exact opv_indexAddrE rfl (by assumption) (by omega) rfl (by first | decide | omega) (by first | decide | omega) | exact opv_indexAddrRN rfl rfl (by omega) | exact opv_indexAddrR rfl rfl (by omega) (by omega) | exact opv_indexAddrRA rfl (by omega) rfl (by first | decide | omega) (by first | decide | omega) | exact opv_indexAddrSP rfl rfl (by omega) (by omega) | exact opv_indexAddrSN rfl rfl (by omega) (by assumption) (by omega) | exact opv_indexAddrS rfl rfl (by omega) (by omega) (by assumption) (by omega)) ?_
   refine th_take rfl rfl (by kernel_rfl)  (by first | exact opv_fieldAddr rfl rfl | exact opv_fieldAddrE rfl (by assumption) (by omega) rfl | exact opv_fieldAddrR rfl (by omega) rfl | exact opv_fieldAddrP rfl rfl rfl) ?_
   refine th_take rfl rfl (by kernel_rfl)  (by first | exact opv_load1 rfl rfl rfl | exact opv_loadA rfl rfl rfl | exact opv_loadE1 rfl (by assumption) rfl (by omega) rfl rfl | exact opv_loadEA rfl (by assumption) rfl (by omega) rfl rfl | exact opv_loadRX1 rfl rfl (by omega) rfl rfl | exact opv_loadRXA rfl rfl (by omega) rfl rfl rfl | exact opv_loadIX rfl rfl (by omega) | exact opv_loadR1 rfl rfl rfl | exact opv_loadRA rfl rfl rfl rfl) ?_
   refine th_take rfl rfl (by kernel_rfl)  (opv_assign rfl) ?_
   refine th_take rfl rfl (by kernel_rfl)  (opv_assign rfl) ?_
   refine th_done (by kernel_rfl) ?_
   refine tT (tS (tS (tR (tM rfl rfl ?_))))
   refine tri_v (opv_len rfl) rfl ?_
   refine tM rfl rfl (tN (tT (tri_block ?_)))
   refine tri_sub (F' := [(0, .slice a l.length cap), (2, pt b2 0), (4, .int .i64 (R1.lo (l.take 0) (R1.g l 0)).x), (5, .int .i64 (R1.hi (l.take 0) (R1.g l 0)).x), (27, .slice a l.length cap), (28, .int .i64 (l.length : Nat)), (29, .int .i64 ((0 : Nat) : Int))]) ⟨rfl, rfl, rfl, rfl, rfl, rfl, rfl, trivial⟩ ?_
   refine loop_ind (G := Nat) (fun i => l.length - i) (fun i => i ≤ l.length) (fun i => [(0, .slice a l.length cap), (2, pt b2 0), (4, .int .i64 (R1.lo (l.take i) (R1.g l 0)).x), (5, .int .i64 (R1.hi (l.take i) (R1.g l 0)).x), (27, .slice a l.length cap), (28, .int .i64 (l.length : Nat)), (29, .int .i64 (i : Nat))]) (fun i => Box b2 [.int .i64 0, .int .i64 0, .int .i64 0, .int .i64 0] 35 :: A) (fun _ => _) ?_ 0 (by omega)
   rintro i hi K hK
   skip
   refine tS (tR ?_)
   refine tri_v (opv_lss rfl rfl) rfl ?_
   refine tN (tT (tS ?_))
   refine tri_cond_dec rfl (fun h => ?_) (fun h => ?_)
   ·have hlt : i < l.length := by omega
    have elo := R1.lo_take l (R1.g l 0) hlt
    have ehi := R1.hi_take l (R1.g l 0) hlt
    have := hK (i + 1) (by omega) (by omega)
    rw [elo, ehi] at this
    refine tri_skip (tT (tS (tri_block (tS (tR ?_)))))
    refine tri_v (by first | exact opv_indexAddrA rfl rfl (by first | decide | omega) (by first | decide | omega) | exact opv_indexAddrSN rfl rfl (by omega) (by assumption) rfl | exact opv_indexAddrS rfl rfl (by omega) (by omega) (by assumption) rfl | exact opv_indexAddrE rfl (by assumption) (by omega) rfl (by first | decide | omega) (by first | decide | omega) | exact opv_indexAddrRN rfl rfl (by omega) | exact opv_indexAddrR rfl rfl (by omega) (by omega) | exact opv_indexAddrRA rfl (by omega) rfl (by first | decide | omega) (by first | decide | omega) | exact opv_indexAddrSP rfl rfl (by omega) (by omega) | exact opv_indexAddrSN rfl rfl (by omega) (by assumption) (by omega) | exact opv_indexAddrS rfl rfl (by omega) (by omega) (by assumption) (by omega)) rfl ?_
    refine tri_v (by first | exact opv_load1 rfl rfl rfl | exact opv_loadA rfl rfl rfl | exact opv_loadE1 rfl (by assumption) rfl (by omega) rfl rfl | exact opv_loadEA rfl (by assumption) rfl (by omega) rfl rfl | exact opv_loadRX1 rfl rfl (by omega) rfl rfl | exact opv_loadRXA rfl rfl (by omega) rfl rfl rfl | exact opv_loadIX rfl rfl (by omega) | exact opv_loadR1 rfl rfl rfl | exact opv_loadRA rfl rfl rfl rfl) rfl ?_
    refine tri_g opg_alloc rfl ?_
    rintro _ _ _ ⟨b7, rfl, rfl, rfl⟩
    refine tri_g (opg_store rfl rfl rfl rfl rfl rfl) rfl ?_
    rintro _ _ _ ⟨rfl, rfl⟩
    refine tN (tT ?_)
    refine tri_draw [0, 1, 2, 3, 4, 5, 6, 7, 8, 9] rfl [] rfl mixed ?_
    refine th_take rfl rfl (by kernel_rfl)  (opv_move rfl) ?_
    refine th_take rfl rfl (by kernel_rfl)  (by first | exact opv_fieldAddr rfl rfl | exact opv_fieldAddrE rfl (by assumption) (by omega) rfl | exact opv_fieldAddrR rfl (by omega) rfl | exact opv_fieldAddrP rfl rfl rfl) ?_
    refine th_take rfl rfl (by kernel_rfl)  (by first | exact opv_load1 rfl rfl rfl | exact opv_loadA rfl rfl rfl | exact opv_loadE1 rfl (by assumption) rfl (by omega) rfl rfl | exact opv_loadEA rfl (by assumption) rfl (by omega) rfl rfl | exact opv_loadRX1 rfl rfl (by omega) rfl rfl | exact opv_loadRXA rfl rfl (by omega) rfl rfl rfl | exact opv_loadIX rfl rfl (by omega) | exact opv_loadR1 rfl rfl rfl | exact opv_loadRA rfl rfl rfl rfl) ?_
    refine th_take rfl rfl (by kernel_rfl)  (opv_min2 rfl rfl) ?_
    refine th_take rfl rfl (by kernel_rfl)  (opv_move rfl) ?_
    refine th_take rfl rfl (by kernel_rfl)  (by first | exact opv_fieldAddr rfl rfl | exact opv_fieldAddrE rfl (by assumption) (by omega) rfl | exact opv_fieldAddrR rfl (by omega) rfl | exact opv_fieldAddrP rfl rfl rfl) ?_
    refine th_take rfl rfl (by kernel_rfl)  (by first | exact opv_load1 rfl rfl rfl | exact opv_loadA rfl rfl rfl | exact opv_loadE1 rfl (by assumption) rfl (by omega) rfl rfl | exact opv_loadEA rfl (by assumption) rfl (by omega) rfl rfl | exact opv_loadRX1 rfl rfl (by omega) rfl rfl | exact opv_loadRXA rfl rfl (by omega) rfl rfl rfl | exact opv_loadIX rfl rfl (by omega) | exact opv_loadR1 rfl rfl rfl | exact opv_loadRA rfl rfl rfl rfl) ?_
    refine th_take rfl rfl (by kernel_rfl)  (opv_max2 rfl rfl) ?_
    refine th_take rfl rfl (by kernel_rfl)  (opv_assign rfl) ?_
    refine th_take rfl rfl (by kernel_rfl)  (opv_assign rfl) ?_
    refine th_done (by kernel_rfl) ?_
    refine tri_inBlock ?_
    refine tT (tR ?_)
    refine tri_v (by first | exact opv_add rfl rfl (w64 (by omega) (by omega))) rfl ?_
    refine tM rfl rfl (tN (tT ?_))
    refine tri_drop ?_
    refine tri_sub ?_ this
    exact ⟨rfl, rfl, rfl, rfl, rfl, rfl, rfl, trivial⟩
   ·have e : l.take i = l := List.take_of_length_le (by omega)
    rw [e]
    have blo := R1.lo_bd h00 hin
    have bhi := R1.hi_bd h00 hin
    have e2 : l.getD ((l.length : Int) - 1).toNat default = R1.g l (l.length - 1) := by rw [show ((l.length : Int) - 1).toNat = l.length - 1 by omega]; rfl
    have hll2 := hll
    rw [← e2] at hll2
    have h002 : R1.inB (l.getD (Int.toNat 0) default) := h00
    unfold R1.inB at blo bhi hll2 h002
    clear hK
    refine tri_exit ?_
    refine tri_then_exit ?_
    refine tri_then_exit ?_
    refine tri_inBlock_hit rfl ?_
    refine tT (tS ?_)
    refine tri_draw [0, 1, 2, 3, 4, 5, 6, 7, 8, 9, 10, 11, 12] rfl [] rfl mixed ?_
    refine th_take rfl rfl (by kernel_rfl)  (opv_move rfl) ?_
    refine th_take rfl rfl (by kernel_rfl)  (by first | exact opv_indexAddrA rfl rfl (by first | decide | omega) (by first | decide | omega) | exact opv_indexAddrSN rfl rfl (by omega) (by assumption) rfl | exact opv_indexAddrS rfl rfl (by omega) (by omega) (by assumption) rfl | exact opv_indexAddrE rfl (by assumption) (by omega) rfl (by first | decide | omega) (by first | decide | omega) | exact opv_indexAddrRN rfl rfl (by omega) | exact opv_indexAddrR rfl rfl (by omega) (by omega) | exact opv_indexAddrRA rfl (by omega) rfl (by first | decide | omega) (by first | decide | omega) | exact opv_indexAddrSP rfl rfl (by omega) (by omega) | exact opv_indexAddrSN rfl rfl (by omega) (by assumption) (by omega) | exact opv_indexAddrS rfl rfl (by omega) (by omega) (by assumption) (by omega)) ?_
    refine th_take rfl rfl (by kernel_rfl)  (by first | exact opv_fieldAddr rfl rfl | exact opv_fieldAddrE rfl (by assumption) (by omega) rfl | exact opv_fieldAddrR rfl (by omega) rfl | exact opv_fieldAddrP rfl rfl rfl) ?_
    refine th_take rfl rfl (by kernel_rfl)  (by first | exact opv_load1 rfl rfl rfl | exact opv_loadA rfl rfl rfl | exact opv_loadE1 rfl (by assumption) rfl (by omega) rfl rfl | exact opv_loadEA rfl (by assumption) rfl (by omega) rfl rfl | exact opv_loadRX1 rfl rfl (by omega) rfl rfl | exact opv_loadRXA rfl rfl (by omega) rfl rfl rfl | exact opv_loadIX rfl rfl (by omega) | exact opv_loadR1 rfl rfl rfl | exact opv_loadRA rfl rfl rfl rfl) ?_
    refine th_take rfl rfl (by kernel_rfl)  (opv_move rfl) ?_
    refine th_take rfl rfl (by kernel_rfl)  (opv_move rfl) ?_
    refine th_take rfl rfl (by kernel_rfl)  (opv_len rfl) ?_
    refine th_take rfl rfl (by kernel_rfl)  (by first | exact opv_sub rfl rfl (w64 (by omega) (by omega)) | exact opv_sub rfl rfl rfl) ?_
    refine th_take rfl rfl (by kernel_rfl)  (by first | exact opv_indexAddrA rfl rfl (by first | decide | omega) (by first | decide | omega) | exact opv_indexAddrSN rfl rfl (by omega) (by assumption) rfl | exact opv_indexAddrS rfl rfl (by omega) (by omega) (by assumption) rfl | exact opv_indexAddrE rfl (by assumption) (by omega) rfl (by first | decide | omega) (by first | decide | omega) | exact opv_indexAddrRN rfl rfl (by omega) | exact opv_indexAddrR rfl rfl (by omega) (by omega) | exact opv_indexAddrRA rfl (by omega) rfl (by first | decide | omega) (by first | decide | omega) | exact opv_indexAddrSP rfl rfl (by omega) (by omega) | exact opv_indexAddrSN rfl rfl (by omega) (by assumption) (by omega) | exact opv_indexAddrS rfl rfl (by omega) (by omega) (by assumption) (by omega)) ?_
    refine th_take rfl rfl (by kernel_rfl)  (by first | exact opv_fieldAddr rfl rfl | exact opv_fieldAddrE rfl (by assumption) (by omega) rfl | exact opv_fieldAddrR rfl (by omega) rfl | exact opv_fieldAddrP rfl rfl rfl) ?_
    refine th_take rfl rfl (by kernel_rfl)  (by first | exact opv_load1 rfl rfl rfl | exact opv_loadA rfl rfl rfl | exact opv_loadE1 rfl (by assumption) rfl (by omega) rfl rfl | exact opv_loadEA rfl (by assumption) rfl (by omega) rfl rfl | exact opv_loadRX1 rfl rfl (by omega) rfl rfl | exact opv_loadRXA rfl rfl (by omega) rfl rfl rfl | exact opv_loadIX rfl rfl (by omega) | exact opv_loadR1 rfl rfl rfl | exact opv_loadRA rfl rfl rfl rfl) ?_
    refine th_take rfl rfl (by kernel_rfl)  (opv_assign rfl) ?_
    refine th_take rfl rfl (by kernel_rfl)  (opv_assign rfl) ?_
    refine th_done (by kernel_rfl) ?_
    refine tT (tS (tR (tM rfl rfl (tM rfl rfl (tM rfl rfl (tM rfl rfl ?_))))))
    refine tri_v (by first | exact opv_sub rfl rfl (w64 (by omega) (by omega)) | exact opv_sub rfl rfl rfl) rfl ?_
    refine tri_v (by first | exact opv_add rfl rfl (w64 (by omega) (by omega))) rfl ?_
    refine tM rfl rfl (tM rfl rfl ?_)
    refine tri_v (by first | exact opv_sub rfl rfl (w64 (by omega) (by omega)) | exact opv_sub rfl rfl rfl) rfl ?_
    refine tri_v (by first | exact opv_add rfl rfl (w64 (by omega) (by omega))) rfl ?_
    refine tri_v (by first | exact opv_buildS rfl rfl | exact opv_buildA rfl rfl) rfl ?_
    refine tri_g (opg_store rfl rfl rfl rfl rfl rfl) rfl ?_
    rintro _ _ _ ⟨rfl, rfl⟩
    refine tA rfl rfl (tN (tT (tri_ret ?_)))
    refine tri_end A Suf.h rfl (.cons (rv_cellA rfl rfl rfl) (.cons (rv_tmp rfl) .nil)) ?_
    rw [hbx]
    refine ⟨?_, rfl, hI1⟩
    rw [e2]
    rfl
end Go.GL


set_option linter.unusedVariables false
namespace Go.GL
open Go.Proofs
attribute [local irreducible] wpList Code.wp Exit.then Exit.inBlock Ends Tri TriH OpV OpG FnC epf wpAnyH
variable {A : List Asrt} {I : List Chunk}
set_option maxHeartbeats 2000000 in
set_option maxRecDepth 100000 in
theorem ref01_withT {l : List Cell} {a : Option Addr} {cap : Nat} {c : Cell} (hs : SlAt I a l) (hn : l.length ≤ 100000000) :
  FnC Try.prog 20 [.slice a l.length cap, cellV c, .bool true].toArray A I (fun v A' I' => ∃ a' cap', v = .tuple [.slice a' (R1.wth l c true).1.length cap', .int .i64 (R1.wth l c true).2].toArray ∧ SlAt I' a' (R1.wth l c true).1 ∧ A = A' ∧ I ⊆ I') := by
 skip
 skip
 refine fn_enter3 Try.func20 rfl Try.ntmps20 rfl fun w0 => ?_
 refine tS (tR ?_)
 first | refine tri_g (opg_box_agg rfl) rfl ?_ | refine tri_g (opg_box1 rfl rfl) rfl ?_
 rintro _ _ _ ⟨b4, rfl, rfl, rfl⟩
 refine tA rfl rfl (tA rfl rfl (tN (tT (tS (tS (tR (tM rfl rfl ?_)))))))
 refine tri_g (opg_call (xs := [_]) rfl (ref01_right hs (by omega))) rfl ?_
 rintro _ _ _ ⟨rfl, rfl, rfl⟩
 refine tri_v (by first | exact opv_notD rfl | exact opv_not rfl) rfl ?_
 refine tN (tT ?_)
 refine tri_cond_dec rfl (fun h1 => ?_) (fun h1 => ?_)
 ·refine tS (tR (tA rfl rfl (tA rfl rfl (tN (tT (tri_ret (tri_then_ret ?_)))))))
  refine tri_end A Suf.h rfl (.cons (rv_tmp rfl) (.cons (rv_tmp rfl) .nil)) ?_
  rw [show R1.wth l c true = ([], 1) from if_neg h1]
  exact ⟨none, 0, rfl, SlAt.nil, rfl, fun _ h => h⟩
 ·have hr : R1.right l := Decidable.not_not.1 h1
  have hl2 := hr.2
  refine tri_skip (tT (tS (tS (tR ?_))))
  refine tri_v (by first | exact opv_load1 rfl rfl rfl | exact opv_loadA rfl rfl rfl | exact opv_loadE1 rfl (by assumption) rfl (by omega) rfl rfl | exact opv_loadEA rfl (by assumption) rfl (by omega) rfl rfl | exact opv_loadRX1 rfl rfl (by omega) rfl rfl | exact opv_loadRXA rfl rfl (by omega) rfl rfl rfl | exact opv_loadIX rfl rfl (by omega) | exact opv_loadR1 rfl rfl rfl | exact opv_loadRA rfl rfl rfl rfl) rfl ?_
  refine tri_g (opg_call (xs := [_]) rfl (ref01_in (c := c))) rfl ?_
  rintro _ _ _ ⟨rfl, rfl, rfl⟩
  refine tri_v (by first | exact opv_notD rfl | exact opv_not rfl) rfl ?_
  refine tN (tT ?_)
  refine tri_cond_dec rfl (fun h2 => ?_) (fun h2 => ?_)
  ·refine tS (tR (tA rfl rfl (tA rfl rfl (tN (tT (tri_ret (tri_then_ret ?_)))))))
   refine tri_end A Suf.h rfl (.cons (rv_tmp rfl) (.cons (rv_tmp rfl) .nil)) ?_
   rw [show R1.wth l c true = ([], 2) from (if_pos hr).trans (if_neg h2)]
   exact ⟨none, 0, rfl, SlAt.nil, rfl, fun _ h => h⟩
  ·have hc : R1.inB c := Decidable.not_not.1 h2
   have hw : R1.wth l c true = if 2000 < (R1.put l c).length then ([], 3) else (R1.put l c, 0) := (if_pos hr).trans (if_pos hc)
   refine tri_skip (tT (tS (tR (tA rfl rfl (tN (tT (tS ?_)))))))
   refine tS (tR (tM rfl rfl (tN (tT ?_))))
   refine tri_cond_true (by first | rfl | exact rfl) ?_
   refine tR (tM rfl rfl ?_)
   refine tri_v (by first | exact opv_load1 rfl rfl rfl | exact opv_loadA rfl rfl rfl | exact opv_loadE1 rfl (by assumption) rfl (by omega) rfl rfl | exact opv_loadEA rfl (by assumption) rfl (by omega) rfl rfl | exact opv_loadRX1 rfl rfl (by omega) rfl rfl | exact opv_loadRXA rfl rfl (by omega) rfl rfl rfl | exact opv_loadIX rfl rfl (by omega) | exact opv_loadR1 rfl rfl rfl | exact opv_loadRA rfl rfl rfl rfl) rfl ?_
   refine tri_g (opg_call (xs := [_, _]) rfl (ref01_put (c := c) hs (by omega))) rfl ?_
   rintro _ _ I2 ⟨a2, cap2, rfl, hs2, rfl, hI2⟩
   have hpl := R1.put_len l c
   refine tA rfl rfl (tN (tT (tS (tS (tR (tA rfl rfl (tN ?_)))))))
   refine tT (tri_block ?_)
   refine tri_rounds 1 ?_
   refine tri_round ?_
   refine tS (tS (tR (tM rfl rfl (tM rfl rfl ?_))))
   refine tri_v (opv_len rfl) rfl ?_
   refine tri_v (opv_lss rfl rfl) rfl ?_
   refine tM rfl rfl ?_
   refine tri_split rfl rfl (fun h5 => ?_) (fun h5 => ?_)
   ·refine tri_guard_run rfl rfl rfl (tM rfl rfl (tri_guard_run rfl rfl rfl ?_))
    refine tri_v (by first | exact opv_notD rfl | exact opv_not rfl) rfl ?_
    refine tri_v (by first | exact opv_pick_t rfl rfl | exact opv_pick_f rfl rfl | exact opv_pick_bool rfl rfl rfl | exact opv_pick rfl rfl rfl) rfl ?_
    refine tN (tT ?_)
    refine tri_cond_false (by first | rfl | exact rfl) ?_
    refine tri_exit ?_
    refine tri_then_exit ?_
    refine tri_then_exit ?_
    refine tri_inBlock_hit rfl ?_
    refine tT (tS (tS (tR (tM rfl rfl ?_))))
    refine tri_v (opv_len rfl) rfl ?_
    refine tri_v (opv_gtr rfl rfl) rfl ?_
    refine tN (tT ?_)
    refine tri_cond_dec rfl (fun h6 => ?_) (fun h6 => ?_)
    ·refine tS (tR (tA rfl rfl (tA rfl rfl (tN (tT (tri_ret (tri_then_ret ?_)))))))
     refine tri_end A Suf.h rfl (.cons (rv_tmp rfl) (.cons (rv_tmp rfl) .nil)) ?_
     rw [hw, if_pos (by omega)]
     exact ⟨none, 0, rfl, SlAt.nil, rfl, hI2⟩
    ·refine tri_skip (tT (tS (tR (tM rfl rfl (tA rfl rfl (tA rfl rfl (tN ?_)))))))
     refine tT (tri_ret ?_)
     refine tri_end A Suf.h rfl (.cons (rv_tmp rfl) (.cons (rv_tmp rfl) .nil)) ?_
     rw [hw, if_neg (by omega)]
     exact ⟨a2, cap2, rfl, hs2, rfl, hI2⟩
   ·refine tri_guard_skip rfl rfl rfl rfl (tri_guard_skip rfl rfl rfl rfl ?_)
    refine tri_v (by first | exact opv_pick_t rfl rfl | exact opv_pick_f rfl rfl | exact opv_pick_bool rfl rfl rfl | exact opv_pick rfl rfl rfl) rfl ?_
    refine tN (tT ?_)
    refine tri_cond_false rfl ?_
    refine tri_exit ?_
    refine tri_then_exit ?_
    refine tri_then_exit ?_
    refine tri_inBlock_hit rfl ?_
    refine tT (tS (tS (tR (tM rfl rfl ?_))))
    refine tri_v (opv_len rfl) rfl ?_
    refine tri_v (opv_gtr rfl rfl) rfl ?_
    refine tN (tT ?_)
    refine tri_cond_dec rfl (fun h6 => ?_) (fun h6 => ?_)
    ·refine tS (tR (tA rfl rfl (tA rfl rfl (tN (tT (tri_ret (tri_then_ret ?_)))))))
     refine tri_end A Suf.h rfl (.cons (rv_tmp rfl) (.cons (rv_tmp rfl) .nil)) ?_
     rw [hw, if_pos (by omega)]
     exact ⟨none, 0, rfl, SlAt.nil, rfl, hI2⟩
    ·refine tri_skip (tT (tS (tR (tM rfl rfl (tA rfl rfl (tA rfl rfl (tN ?_)))))))
     refine tT (tri_ret ?_)
     refine tri_end A Suf.h rfl (.cons (rv_tmp rfl) (.cons (rv_tmp rfl) .nil)) ?_
     rw [hw, if_neg (by omega)]
     exact ⟨a2, cap2, rfl, hs2, rfl, hI2⟩
set_option maxHeartbeats 2000000 in
set_option maxRecDepth 100000 in
theorem ref01_withF {l : List Cell} {a : Option Addr} {cap : Nat} {c : Cell} (hs : SlAt I a l) (hn : l.length ≤ 100000000) :
  FnC Try.prog 20 [.slice a l.length cap, cellV c, .bool false].toArray A I (fun v A' I' => ∃ a' cap', v = .tuple [.slice a' (R1.wth l c false).1.length cap', .int .i64 (R1.wth l c false).2].toArray ∧ SlAt I' a' (R1.wth l c false).1 ∧ A = A' ∧ I ⊆ I') := by
 skip
 skip
 refine fn_enter3 Try.func20 rfl Try.ntmps20 rfl fun w0 => ?_
 refine tS (tR ?_)
 first | refine tri_g (opg_box_agg rfl) rfl ?_ | refine tri_g (opg_box1 rfl rfl) rfl ?_
 rintro _ _ _ ⟨b4, rfl, rfl, rfl⟩
 refine tA rfl rfl (tA rfl rfl (tN (tT (tS (tS (tR (tM rfl rfl ?_)))))))
 refine tri_g (opg_call (xs := [_]) rfl (ref01_right hs (by omega))) rfl ?_
 rintro _ _ _ ⟨rfl, rfl, rfl⟩
 refine tri_v (by first | exact opv_notD rfl | exact opv_not rfl) rfl ?_
 refine tN (tT ?_)
 refine tri_cond_dec rfl (fun h1 => ?_) (fun h1 => ?_)
 ·refine tS (tR (tA rfl rfl (tA rfl rfl (tN (tT (tri_ret (tri_then_ret ?_)))))))
  refine tri_end A Suf.h rfl (.cons (rv_tmp rfl) (.cons (rv_tmp rfl) .nil)) ?_
  rw [show R1.wth l c false = ([], 1) from if_neg h1]
  exact ⟨none, 0, rfl, SlAt.nil, rfl, fun _ h => h⟩
 ·have hr : R1.right l := Decidable.not_not.1 h1
  have hl2 := hr.2
  refine tri_skip (tT (tS (tS (tR ?_))))
  refine tri_v (by first | exact opv_load1 rfl rfl rfl | exact opv_loadA rfl rfl rfl | exact opv_loadE1 rfl (by assumption) rfl (by omega) rfl rfl | exact opv_loadEA rfl (by assumption) rfl (by omega) rfl rfl | exact opv_loadRX1 rfl rfl (by omega) rfl rfl | exact opv_loadRXA rfl rfl (by omega) rfl rfl rfl | exact opv_loadIX rfl rfl (by omega) | exact opv_loadR1 rfl rfl rfl | exact opv_loadRA rfl rfl rfl rfl) rfl ?_
  refine tri_g (opg_call (xs := [_]) rfl (ref01_in (c := c))) rfl ?_
  rintro _ _ _ ⟨rfl, rfl, rfl⟩
  refine tri_v (by first | exact opv_notD rfl | exact opv_not rfl) rfl ?_
  refine tN (tT ?_)
  refine tri_cond_dec rfl (fun h2 => ?_) (fun h2 => ?_)
  ·refine tS (tR (tA rfl rfl (tA rfl rfl (tN (tT (tri_ret (tri_then_ret ?_)))))))
   refine tri_end A Suf.h rfl (.cons (rv_tmp rfl) (.cons (rv_tmp rfl) .nil)) ?_
   rw [show R1.wth l c false = ([], 2) from (if_pos hr).trans (if_neg h2)]
   exact ⟨none, 0, rfl, SlAt.nil, rfl, fun _ h => h⟩
  ·have hc : R1.inB c := Decidable.not_not.1 h2
   have hw : R1.wth l c false = if 2000 < (l.filter fun d => decide (d ≠ c)).length then ([], 3) else (l.filter fun d => decide (d ≠ c), 0) := (if_pos hr).trans (if_pos hc)
   refine tri_skip (tT (tS (tR (tA rfl rfl (tN (tT (tS ?_)))))))
   refine tS (tR (tM rfl rfl (tN (tT ?_))))
   refine tri_cond_false (by first | rfl | exact rfl) ?_
   refine tri_skip (tT (tS (tS (tR (tA rfl rfl (tN (tT ?_)))))))
   refine tri_block ?_
   refine tri_nilRow (E := 25) (sz := 2) ?_
   refine tri_sub (F' := [(0, .slice a l.length cap), (2, .bool false), (4, pt b4 0), (8, .slice none 0 0), (9, .int .i64 ((0 : Nat) : Int))]) ⟨rfl, rfl, rfl, rfl, rfl, trivial⟩ ?_
   refine loop_ind (G := Nat × Option Addr × Nat) (fun g => l.length - g.1) (fun g => g.1 ≤ l.length) (fun g => [(0, .slice a l.length cap), (2, .bool false), (4, pt b4 0), (8, .slice g.2.1 ((l.take g.1).filter fun d => decide (d ≠ c)).length g.2.2), (9, .int .i64 (g.1 : Nat))]) (fun g => Row g.2.1 g.2.2 ((l.take g.1).filter fun d => decide (d ≠ c)).length 25 2 (encs ((l.take g.1).filter fun d => decide (d ≠ c))) :: Box b4 [.int .i64 c.x, .int .i64 c.y] 25 :: A) (fun _ => I) ?_ (0, none, 0) (Nat.zero_le _)
   rintro ⟨i, a1, cap1⟩ hi K hK
   simp only at hi hK ⊢
   skip
   refine tS (tS (tR (tM rfl rfl (tM rfl rfl ?_))))
   refine tri_v (opv_len rfl) rfl ?_
   refine tri_v (opv_lss rfl rfl) rfl ?_
   refine tM rfl rfl ?_
   refine tri_split rfl rfl (fun h5 => ?_) (fun h5 => ?_)
   ·have hlt : i < l.length := by omega
    have hnx : (l.take (i + 1)).filter (fun d => decide (d ≠ c)) = (l.take i).filter (fun d => decide (d ≠ c)) ++ if l.getD i default ≠ c then [l.getD i default] else [] := by
     rw [List.take_succ_eq_append_getElem hlt, List.filter_append, show l.getD i default = l[i] by simp [hlt]]
     congr 1
     by_cases e : l[i] = c
     ·simp [e]
     ·simp [e]
    have hfl : ((l.take i).filter fun d => decide (d ≠ c)).length ≤ 2000 := by
     have h1 := List.length_filter_le (fun d => decide (d ≠ c)) (l.take i)
     rw [List.length_take] at h1
     omega
    have hKn := fun (a' : Option Addr) (c' : Nat) => hK (i + 1, a', c')
    simp only [hnx] at hKn
    generalize (l.take i).filter (fun d => decide (d ≠ c)) = acc at *
    refine tri_guard_run rfl rfl rfl (tM rfl rfl (tri_guard_run rfl rfl rfl ?_))
    refine tri_v (by first | exact opv_notD rfl | exact opv_not rfl) rfl ?_
    refine tri_v (by first | exact opv_pick_t rfl rfl | exact opv_pick_f rfl rfl | exact opv_pick_bool rfl rfl rfl | exact opv_pick rfl rfl rfl) rfl ?_
    refine tN (tT ?_)
    refine tri_cond_true (by first | rfl | exact rfl) ?_
    refine tri_skip (tT (tS (tri_block (tS ?_))))
    refine tri_draw [0, 1, 2, 3, 4, 5] rfl [] rfl mixed ?_
    refine th_take rfl rfl (by kernel_rfl)  (opv_move rfl) ?_
    refine th_take rfl rfl (by kernel_rfl)  (opv_move rfl) ?_
    refine th_take rfl rfl (by kernel_rfl)  (by first | exact opv_indexAddrA rfl rfl (by first | decide | omega) (by first | decide | omega) | exact opv_indexAddrSN rfl rfl (by omega) (by assumption) rfl | exact opv_indexAddrS rfl rfl (by omega) (by omega) (by assumption) rfl | exact opv_indexAddrE rfl (by assumption) (by omega) rfl (by first | decide | omega) (by first | decide | omega) | exact opv_indexAddrRN rfl rfl (by omega) | exact opv_indexAddrR rfl rfl (by omega) (by omega) | exact opv_indexAddrRA rfl (by omega) rfl (by first | decide | omega) (by first | decide | omega) | exact opv_indexAddrSP rfl rfl (by omega) (by omega) | exact opv_indexAddrSN rfl rfl (by omega) (by assumption) (by omega) | exact opv_indexAddrS rfl rfl (by omega) (by omega) (by assumption) (by omega)) ?_
    refine th_take rfl rfl (by kernel_rfl)  (by first | exact opv_load1 rfl rfl rfl | exact opv_loadA rfl rfl rfl | exact opv_loadE1 rfl (by assumption) rfl (by omega) rfl rfl | exact opv_loadEA rfl (by assumption) rfl (by omega) rfl rfl | exact opv_loadRX1 rfl rfl (by omega) rfl rfl | exact opv_loadRXA rfl rfl (by omega) rfl rfl rfl | exact opv_loadIX rfl rfl (by omega) | exact opv_loadR1 rfl rfl rfl | exact opv_loadRA rfl rfl rfl rfl) ?_
    refine th_take rfl rfl (by kernel_rfl)  (by first | exact opv_load1 rfl rfl rfl | exact opv_loadA rfl rfl rfl | exact opv_loadE1 rfl (by assumption) rfl (by omega) rfl rfl | exact opv_loadEA rfl (by assumption) rfl (by omega) rfl rfl | exact opv_loadRX1 rfl rfl (by omega) rfl rfl | exact opv_loadRXA rfl rfl (by omega) rfl rfl rfl | exact opv_loadIX rfl rfl (by omega) | exact opv_loadR1 rfl rfl rfl | exact opv_loadRA rfl rfl rfl rfl) ?_
    refine th_take rfl rfl (by kernel_rfl)  (by first | exact opv_neq rfl rfl | exact opv_neqI rfl rfl rfl rfl rfl rfl | exact opv_neqB rfl rfl) ?_
    refine th_done (by kernel_rfl) ?_
    refine tT ?_
    refine tri_cond_dec rfl (fun h6 => ?_) (fun h6 => ?_)
    ·have h6 : l.getD i default ≠ c := Cell.ne_iff'.2 h6
     refine tR (tM rfl rfl (tM rfl rfl (tM rfl rfl ?_)))
     refine tri_v (by first | exact opv_indexAddrA rfl rfl (by first | decide | omega) (by first | decide | omega) | exact opv_indexAddrSN rfl rfl (by omega) (by assumption) rfl | exact opv_indexAddrS rfl rfl (by omega) (by omega) (by assumption) rfl | exact opv_indexAddrE rfl (by assumption) (by omega) rfl (by first | decide | omega) (by first | decide | omega) | exact opv_indexAddrRN rfl rfl (by omega) | exact opv_indexAddrR rfl rfl (by omega) (by omega) | exact opv_indexAddrRA rfl (by omega) rfl (by first | decide | omega) (by first | decide | omega) | exact opv_indexAddrSP rfl rfl (by omega) (by omega) | exact opv_indexAddrSN rfl rfl (by omega) (by assumption) (by omega) | exact opv_indexAddrS rfl rfl (by omega) (by omega) (by assumption) (by omega)) rfl ?_
     refine tri_v (by first | exact opv_load1 rfl rfl rfl | exact opv_loadA rfl rfl rfl | exact opv_loadE1 rfl (by assumption) rfl (by omega) rfl rfl | exact opv_loadEA rfl (by assumption) rfl (by omega) rfl rfl | exact opv_loadRX1 rfl rfl (by omega) rfl rfl | exact opv_loadRXA rfl rfl (by omega) rfl rfl rfl | exact opv_loadIX rfl rfl (by omega) | exact opv_loadR1 rfl rfl rfl | exact opv_loadRA rfl rfl rfl rfl) rfl ?_
     refine tri_g (opg_buildSlice rfl rfl rfl rfl) rfl ?_
     rintro _ _ _ ⟨b41, rfl, rfl, rfl⟩
     refine tri_g (opg_appendB rfl rfl rfl rfl (by omega) rfl) rfl ?_
     rintro _ _ _ ⟨a3, cap3, rfl, rfl, rfl⟩
     refine tA rfl rfl (tN ?_)
     refine tri_inBlock ?_
     refine tT (tR (tM rfl rfl ?_))
     refine tri_v (by first | exact opv_add rfl rfl (w64 (by omega) (by omega))) rfl ?_
     refine tA rfl rfl (tN (tT ?_))
     refine tri_drop ?_
     refine tri_rowEq (len' := (acc ++ [l.getD i default]).length) (cells' := encs (acc ++ [l.getD i default])) (by simp) (by rw [encs_append]; rfl) ?_
     simp only [if_pos h6] at hKn
     refine tri_sub ?_ (hKn a3 cap3 (by omega) (by omega))
     rw [List.length_append]
     exact ⟨rfl, rfl, rfl, rfl, rfl, trivial⟩
    ·have h6 : ¬ l.getD i default ≠ c := fun h => h6 (Cell.ne_iff'.1 h)
     refine tri_skip ?_
     refine tri_inBlock ?_
     refine tT (tR (tM rfl rfl ?_))
     refine tri_v (by first | exact opv_add rfl rfl (w64 (by omega) (by omega))) rfl ?_
     refine tA rfl rfl (tN (tT ?_))
     simp only [if_neg h6, List.append_nil] at hKn
     refine tri_sub ?_ (hKn a1 cap1 (by omega) (by omega))
     exact ⟨rfl, rfl, rfl, rfl, rfl, trivial⟩
   ·have e : l.take i = l := List.take_of_length_le (by omega)
    rw [e]
    clear hK
    generalize l.filter (fun d => decide (d ≠ c)) = acc at *
    refine tri_guard_skip rfl rfl rfl rfl (tri_guard_skip rfl rfl rfl rfl ?_)
    refine tri_v (by first | exact opv_pick_t rfl rfl | exact opv_pick_f rfl rfl | exact opv_pick_bool rfl rfl rfl | exact opv_pick rfl rfl rfl) rfl ?_
    refine tN (tT ?_)
    refine tri_cond_false rfl ?_
    refine tri_exit ?_
    refine tri_then_exit ?_
    refine tri_then_exit ?_
    refine tri_inBlock_hit rfl ?_
    refine tT (tS (tS (tR (tM rfl rfl ?_))))
    refine tri_v (opv_len rfl) rfl ?_
    refine tri_v (opv_gtr rfl rfl) rfl ?_
    refine tN (tT ?_)
    refine tri_cond_dec rfl (fun h6 => ?_) (fun h6 => ?_)
    ·refine tS (tR (tA rfl rfl (tA rfl rfl (tN (tT (tri_ret (tri_then_ret ?_)))))))
     refine tri_end A Suf.h rfl (.cons (rv_tmp rfl) (.cons (rv_tmp rfl) .nil)) ?_
     rw [hw, if_pos (by omega)]
     exact ⟨none, 0, rfl, SlAt.nil, rfl, fun _ h => h⟩
    ·refine tri_skip (tT (tS (tR (tM rfl rfl (tA rfl rfl (tA rfl rfl (tN ?_)))))))
     refine tT (tri_ret ?_)
     refine tri_freezeRow (α := Cell) rfl fun J hJ hs2 => ?_
     refine tri_end A Suf.h rfl (.cons (rv_tmp rfl) (.cons (rv_tmp rfl) .nil)) ?_
     rw [hw, if_neg (by omega)]
     exact ⟨a1, cap1, rfl, hs2, rfl, hJ⟩
theorem ref01_with {l : List Cell} {a : Option Addr} {cap : Nat} {c : Cell} {alive : Bool} (hs : SlAt I a l) (hn : l.length ≤ 100000000) :
  FnC Try.prog 20 [.slice a l.length cap, cellV c, .bool alive].toArray A I (fun v A' I' => ∃ a' cap', v = .tuple [.slice a' (R1.wth l c alive).1.length cap', .int .i64 (R1.wth l c alive).2].toArray ∧ SlAt I' a' (R1.wth l c alive).1 ∧ A = A' ∧ I ⊆ I') := by
 cases alive
 ·exact ref01_withF hs hn
 ·exact ref01_withT hs hn
end Go.GL


set_option linter.unusedVariables false
namespace Go.GL
open Go.Proofs
attribute [local irreducible] wpList Code.wp Exit.then Exit.inBlock Ends Tri TriH OpV OpG FnC epf wpAnyH
variable {A : List Asrt} {I : List Chunk}
set_option maxHeartbeats 2000000 in
set_option maxRecDepth 100000 in
theorem ref01_shift {l : List Cell} {a : Option Addr} {cap : Nat} {dx dy : Int} (hs : SlAt I a l) (hn : l.length ≤ 1000000000) :
  FnC Try.prog 24 [.slice a l.length cap, .int .i64 dx, .int .i64 dy].toArray A I (fun v A' I' => ∃ a' cap', v = .tuple [.slice a' (R1.shift l dx dy).1.length cap', .int .i64 (R1.shift l dx dy).2].toArray ∧ SlAt I' a' (R1.shift l dx dy).1 ∧ A = A' ∧ I ⊆ I') := by
 skip
 skip
 refine fn_enter3 Try.func24 rfl Try.ntmps24 rfl fun w0 => ?_
 refine tS (tR (tA rfl rfl (tA rfl rfl (tN (tT (tS (tS ?_)))))))
 refine tR (tM rfl rfl ?_)
 refine tri_g (opg_call (xs := [_]) rfl (ref01_right hs hn)) rfl ?_
 rintro _ _ _ ⟨rfl, rfl, rfl⟩
 refine tri_v (by first | exact opv_notD rfl | exact opv_not rfl) rfl ?_
 refine tN (tT ?_)
 refine tri_cond_dec rfl (fun h1 => ?_) (fun h1 => ?_)
 ·refine tS (tR (tA rfl rfl (tA rfl rfl (tN (tT (tri_ret (tri_then_ret ?_)))))))
  refine tri_end A Suf.h rfl (.cons (rv_tmp rfl) (.cons (rv_tmp rfl) .nil)) ?_
  rw [show R1.shift l dx dy = ([], 1) from if_neg h1]
  exact ⟨none, 0, rfl, SlAt.nil, rfl, fun _ h => h⟩
 ·have hr : R1.right l := Decidable.not_not.1 h1
  have hsh : R1.shift l dx dy = if ∀ i, i < l.length → R1.inB (R1.mv dx dy (R1.g l i)) then (l.map (R1.mv dx dy), 0) else ([], 2) := if_pos hr
  have hin : ∀ i, i < l.length → R1.inB (R1.g l i) := fun i hi => (hr.1 i hi).1
  have bad : ∀ i, i < l.length → ¬ R1.inB (R1.mv dx dy (R1.g l i)) → ∃ a' cap', Value.tuple [.slice none 0 0, .int .i64 2].toArray = .tuple [.slice a' (R1.shift l dx dy).1.length cap', .int .i64 (R1.shift l dx dy).2].toArray ∧ SlAt I a' (R1.shift l dx dy).1 ∧ A = A ∧ I ⊆ I := fun i hi h => by
   rw [hsh, if_neg (fun k => h (k i hi))]
   exact ⟨none, 0, rfl, SlAt.nil, rfl, fun _ h => h⟩
  refine tri_skip (tT (tS (tR (tA rfl rfl (tN (tT (tS ?_)))))))
  refine tR (tA rfl rfl (tN (tT (tS (tS (tR (tA rfl rfl ?_)))))))
  refine tN (tT (tri_block ?_))
  refine tri_nilRow (E := 25) (sz := 2) ?_
  refine tri_sub (F' := [(0, .slice a l.length cap), (1, .int .i64 dx), (2, .int .i64 dy), (8, .int .i64 2199023255552), (9, .slice none 0 0), (10, .int .i64 (0 : Nat))]) ⟨rfl, rfl, rfl, rfl, rfl, rfl, trivial⟩ ?_
  refine loop_ind (G := Nat × Option Addr × Nat) (fun g => l.length - g.1) (fun g => g.1 ≤ l.length ∧ ∀ j, j < g.1 → R1.inB (R1.mv dx dy (R1.g l j))) (fun g => [(0, .slice a l.length cap), (1, .int .i64 dx), (2, .int .i64 dy), (8, .int .i64 2199023255552), (9, .slice g.2.1 ((l.take g.1).map (R1.mv dx dy)).length g.2.2), (10, .int .i64 (g.1 : Nat))]) (fun g => Row g.2.1 g.2.2 ((l.take g.1).map (R1.mv dx dy)).length 25 2 (encs ((l.take g.1).map (R1.mv dx dy))) :: A) (fun _ => I) ?_ (0, none, 0) ⟨by simp only; omega, fun j h => absurd h (by simp only; omega)⟩
  rintro ⟨i, a1, cap1⟩ ⟨hi, hok⟩ K hK
  simp only at hi hok hK ⊢
  skip
  refine tS (tS (tR (tM rfl rfl (tM rfl rfl ?_))))
  refine tri_v (opv_len rfl) rfl ?_
  refine tri_v (opv_lss rfl rfl) rfl ?_
  refine tN (tT ?_)
  refine tri_cond_dec rfl (fun h => ?_) (fun h => ?_)
  ·have hlt : i < l.length := by omega
   have hci := hin i hlt
   have hi1 : R1.g l i = l.getD i default := rfl
   rw [hi1] at hci
   have bx := hci.1
   have bx2 := hci.2.1
   have by1 := hci.2.2.1
   have by2 := hci.2.2.2
   have bad2 : ¬ R1.inB ⟨(l.getD i default).x + dx, (l.getD i default).y + dy⟩ → _ := fun h => bad i hlt h
   have off : ∀ {p : Prop}, (p → dx < -2199023255552 ∨ 2199023255552 < dx ∨ dy < -2199023255552 ∨ 2199023255552 < dy) → p → ¬ R1.inB ⟨(l.getD i default).x + dx, (l.getD i default).y + dy⟩ := fun h hp => by
    have := h hp
    unfold R1.inB
    simp only
    omega
   refine tri_skip (tT (tS (tri_block (tS (tS ?_)))))
   refine tri_draw [0, 1, 2, 3, 4, 5, 6, 7, 8, 9, 10, 11, 12, 13, 14, 15, 16, 17, 18, 19, 20, 21, 22, 23, 24, 25, 26, 27, 28, 29, 30, 31, 32, 33, 34, 35, 36, 37, 38] rfl [] rfl mixed ?_
   refine th_take rfl rfl (by kernel_rfl)  (opv_move rfl) ?_
   refine th_take rfl rfl (by kernel_rfl)  (opv_move rfl) ?_
   refine th_take rfl rfl (by kernel_rfl)  (by first | exact opv_negE rfl (by omega) (by omega)) ?_
   refine th_take rfl rfl (by kernel_rfl)  (opv_lss rfl rfl) ?_
   refine th_take rfl rfl (by kernel_rfl)  (opv_move rfl) ?_
   refine th_split rfl rfl rfl (fun h2 => ?_) (fun h2 => ?_)
   ·refine th_skip rfl rfl rfl rfl rfl (by kernel_rfl)  ?_
    refine th_skip rfl rfl rfl rfl rfl (by kernel_rfl)  ?_
    refine th_skip rfl rfl rfl rfl rfl (by kernel_rfl)  ?_
    refine th_take rfl rfl (by kernel_rfl)  (by first | exact opv_pick_t rfl rfl | exact opv_pick_f rfl rfl | exact opv_pick_bool rfl rfl rfl | exact opv_pick rfl rfl rfl) ?_
    refine th_take rfl rfl (by kernel_rfl)  (opv_move rfl) ?_
    refine th_skip rfl rfl rfl rfl rfl (by kernel_rfl)  ?_
    refine th_skip rfl rfl rfl rfl rfl (by kernel_rfl)  ?_
    refine th_skip rfl rfl rfl rfl rfl (by kernel_rfl)  ?_
    refine th_skip rfl rfl rfl rfl rfl (by kernel_rfl)  ?_
    refine th_take rfl rfl (by kernel_rfl)  (by first | exact opv_pick_t rfl rfl | exact opv_pick_f rfl rfl | exact opv_pick_bool rfl rfl rfl | exact opv_pick rfl rfl rfl) ?_
    refine th_take rfl rfl (by kernel_rfl)  (opv_move rfl) ?_
    refine th_skip rfl rfl rfl rfl rfl (by kernel_rfl)  ?_
    refine th_skip rfl rfl rfl rfl rfl (by kernel_rfl)  ?_
    refine th_skip rfl rfl rfl rfl rfl (by kernel_rfl)  ?_
    refine th_take rfl rfl (by kernel_rfl)  (by first | exact opv_pick_t rfl rfl | exact opv_pick_f rfl rfl | exact opv_pick_bool rfl rfl rfl | exact opv_pick rfl rfl rfl) ?_
    refine th_take rfl rfl (by kernel_rfl)  (opv_move rfl) ?_
    refine th_skip rfl rfl rfl rfl rfl (by kernel_rfl)  ?_
    refine th_skip rfl rfl rfl rfl rfl (by kernel_rfl)  ?_
    refine th_skip rfl rfl rfl rfl rfl (by kernel_rfl)  ?_
    refine th_skip rfl rfl rfl rfl rfl (by kernel_rfl)  ?_
    refine th_skip rfl rfl rfl rfl rfl (by kernel_rfl)  ?_
    refine th_skip rfl rfl rfl rfl rfl (by kernel_rfl)  ?_
    refine th_skip rfl rfl rfl rfl rfl (by kernel_rfl)  ?_
    refine th_skip rfl rfl rfl rfl rfl (by kernel_rfl)  ?_
    refine th_skip rfl rfl rfl rfl rfl (by kernel_rfl)  ?_
    refine th_skip rfl rfl rfl rfl rfl (by kernel_rfl)  ?_
    refine th_skip rfl rfl rfl rfl rfl (by kernel_rfl)  ?_
    refine th_skip rfl rfl rfl rfl rfl (by kernel_rfl)  ?_
    refine th_skip rfl rfl rfl rfl rfl (by kernel_rfl)  ?_
    refine th_skip rfl rfl rfl rfl rfl (by kernel_rfl)  ?_
    refine th_skip rfl rfl rfl rfl rfl (by kernel_rfl)  ?_
    refine th_one (by kernel_rfl) (step_skip rfl rfl rfl rfl rfl ?_)
    refine th_skip rfl rfl rfl rfl rfl (by kernel_rfl)  ?_
    refine th_take rfl rfl (by kernel_rfl)  (by first | exact opv_pick_t rfl rfl | exact opv_pick_f rfl rfl | exact opv_pick_bool rfl rfl rfl | exact opv_pick rfl rfl rfl) ?_
    refine th_done (by kernel_rfl) ?_
    refine tT ?_
    refine tri_cond_true rfl ?_
    refine tS (tR (tA rfl rfl (tA rfl rfl (tN (tT (tri_ret (tri_then_ret ?_)))))))
    refine tri_inBlock_ret ?_
    refine tri_then_ret (tri_then_ret ?_)
    refine tri_inBlock_ret ?_
    refine tri_then_ret ?_
    refine tri_end A Suf.h rfl (.cons (rv_tmp rfl) (.cons (rv_tmp rfl) .nil)) (bad2 (off (fun h => .inl h) h2))
   ·refine th_take_g rfl rfl rfl rfl rfl (by kernel_rfl)  (opv_move rfl) ?_
    refine th_take_g rfl rfl rfl rfl rfl (by kernel_rfl)  (opv_move rfl) ?_
    refine th_take_g rfl rfl rfl rfl rfl (by kernel_rfl)  (opv_gtr rfl rfl) ?_
    refine th_take rfl rfl (by kernel_rfl)  (by first | exact opv_pick_t rfl rfl | exact opv_pick_f rfl rfl | exact opv_pick_bool rfl rfl rfl | exact opv_pick rfl rfl rfl) ?_
    refine th_take rfl rfl (by kernel_rfl)  (opv_move rfl) ?_
    refine th_split rfl rfl rfl (fun h3 => ?_) (fun h3 => ?_)
    ·refine th_skip rfl rfl rfl rfl rfl (by kernel_rfl)  ?_
     refine th_skip rfl rfl rfl rfl rfl (by kernel_rfl)  ?_
     refine th_skip rfl rfl rfl rfl rfl (by kernel_rfl)  ?_
     refine th_skip rfl rfl rfl rfl rfl (by kernel_rfl)  ?_
     refine th_take rfl rfl (by kernel_rfl)  (by first | exact opv_pick_t rfl rfl | exact opv_pick_f rfl rfl | exact opv_pick_bool rfl rfl rfl | exact opv_pick rfl rfl rfl) ?_
     refine th_take rfl rfl (by kernel_rfl)  (opv_move rfl) ?_
     refine th_skip rfl rfl rfl rfl rfl (by kernel_rfl)  ?_
     refine th_skip rfl rfl rfl rfl rfl (by kernel_rfl)  ?_
     refine th_skip rfl rfl rfl rfl rfl (by kernel_rfl)  ?_
     refine th_take rfl rfl (by kernel_rfl)  (by first | exact opv_pick_t rfl rfl | exact opv_pick_f rfl rfl | exact opv_pick_bool rfl rfl rfl | exact opv_pick rfl rfl rfl) ?_
     refine th_take rfl rfl (by kernel_rfl)  (opv_move rfl) ?_
     refine th_skip rfl rfl rfl rfl rfl (by kernel_rfl)  ?_
     refine th_skip rfl rfl rfl rfl rfl (by kernel_rfl)  ?_
     refine th_skip rfl rfl rfl rfl rfl (by kernel_rfl)  ?_
     refine th_skip rfl rfl rfl rfl rfl (by kernel_rfl)  ?_
     refine th_skip rfl rfl rfl rfl rfl (by kernel_rfl)  ?_
     refine th_skip rfl rfl rfl rfl rfl (by kernel_rfl)  ?_
     refine th_skip rfl rfl rfl rfl rfl (by kernel_rfl)  ?_
     refine th_skip rfl rfl rfl rfl rfl (by kernel_rfl)  ?_
     refine th_skip rfl rfl rfl rfl rfl (by kernel_rfl)  ?_
     refine th_skip rfl rfl rfl rfl rfl (by kernel_rfl)  ?_
     refine th_skip rfl rfl rfl rfl rfl (by kernel_rfl)  ?_
     refine th_skip rfl rfl rfl rfl rfl (by kernel_rfl)  ?_
     refine th_skip rfl rfl rfl rfl rfl (by kernel_rfl)  ?_
     refine th_skip rfl rfl rfl rfl rfl (by kernel_rfl)  ?_
     refine th_skip rfl rfl rfl rfl rfl (by kernel_rfl)  ?_
     refine th_one (by kernel_rfl) (step_skip rfl rfl rfl rfl rfl ?_)
     refine th_skip rfl rfl rfl rfl rfl (by kernel_rfl)  ?_
     refine th_take rfl rfl (by kernel_rfl)  (by first | exact opv_pick_t rfl rfl | exact opv_pick_f rfl rfl | exact opv_pick_bool rfl rfl rfl | exact opv_pick rfl rfl rfl) ?_
     refine th_done (by kernel_rfl) ?_
     refine tT ?_
     refine tri_cond_true rfl ?_
     refine tS (tR (tA rfl rfl (tA rfl rfl (tN (tT (tri_ret (tri_then_ret ?_)))))))
     refine tri_inBlock_ret ?_
     refine tri_then_ret (tri_then_ret ?_)
     refine tri_inBlock_ret ?_
     refine tri_then_ret ?_
     refine tri_end A Suf.h rfl (.cons (rv_tmp rfl) (.cons (rv_tmp rfl) .nil)) (bad2 (off (fun h => .inr (.inl h)) h3))
    ·refine th_take_g rfl rfl rfl rfl rfl (by kernel_rfl)  (opv_move rfl) ?_
     refine th_take_g rfl rfl rfl rfl rfl (by kernel_rfl)  (opv_move rfl) ?_
     refine th_take_g rfl rfl rfl rfl rfl (by kernel_rfl)  (by first | exact opv_negE rfl (by omega) (by omega)) ?_
     refine th_take_g rfl rfl rfl rfl rfl (by kernel_rfl)  (opv_lss rfl rfl) ?_
     refine th_take rfl rfl (by kernel_rfl)  (by first | exact opv_pick_t rfl rfl | exact opv_pick_f rfl rfl | exact opv_pick_bool rfl rfl rfl | exact opv_pick rfl rfl rfl) ?_
     refine th_take rfl rfl (by kernel_rfl)  (opv_move rfl) ?_
     refine th_split rfl rfl rfl (fun h4 => ?_) (fun h4 => ?_)
     ·refine th_skip rfl rfl rfl rfl rfl (by kernel_rfl)  ?_
      refine th_skip rfl rfl rfl rfl rfl (by kernel_rfl)  ?_
      refine th_skip rfl rfl rfl rfl rfl (by kernel_rfl)  ?_
      refine th_take rfl rfl (by kernel_rfl)  (by first | exact opv_pick_t rfl rfl | exact opv_pick_f rfl rfl | exact opv_pick_bool rfl rfl rfl | exact opv_pick rfl rfl rfl) ?_
      refine th_take rfl rfl (by kernel_rfl)  (opv_move rfl) ?_
      refine th_skip rfl rfl rfl rfl rfl (by kernel_rfl)  ?_
      refine th_skip rfl rfl rfl rfl rfl (by kernel_rfl)  ?_
      refine th_skip rfl rfl rfl rfl rfl (by kernel_rfl)  ?_
      refine th_skip rfl rfl rfl rfl rfl (by kernel_rfl)  ?_
      refine th_skip rfl rfl rfl rfl rfl (by kernel_rfl)  ?_
      refine th_skip rfl rfl rfl rfl rfl (by kernel_rfl)  ?_
      refine th_skip rfl rfl rfl rfl rfl (by kernel_rfl)  ?_
      refine th_skip rfl rfl rfl rfl rfl (by kernel_rfl)  ?_
      refine th_skip rfl rfl rfl rfl rfl (by kernel_rfl)  ?_
      refine th_skip rfl rfl rfl rfl rfl (by kernel_rfl)  ?_
      refine th_skip rfl rfl rfl rfl rfl (by kernel_rfl)  ?_
      refine th_skip rfl rfl rfl rfl rfl (by kernel_rfl)  ?_
      refine th_skip rfl rfl rfl rfl rfl (by kernel_rfl)  ?_
      refine th_skip rfl rfl rfl rfl rfl (by kernel_rfl)  ?_
      refine th_skip rfl rfl rfl rfl rfl (by kernel_rfl)  ?_
      refine th_one (by kernel_rfl) (step_skip rfl rfl rfl rfl rfl ?_)
      refine th_skip rfl rfl rfl rfl rfl (by kernel_rfl)  ?_
      refine th_take rfl rfl (by kernel_rfl)  (by first | exact opv_pick_t rfl rfl | exact opv_pick_f rfl rfl | exact opv_pick_bool rfl rfl rfl | exact opv_pick rfl rfl rfl) ?_
      refine th_done (by kernel_rfl) ?_
      refine tT ?_
      refine tri_cond_true rfl ?_
      refine tS (tR (tA rfl rfl (tA rfl rfl (tN (tT (tri_ret (tri_then_ret ?_)))))))
      refine tri_inBlock_ret ?_
      refine tri_then_ret (tri_then_ret ?_)
      refine tri_inBlock_ret ?_
      refine tri_then_ret ?_
      refine tri_end A Suf.h rfl (.cons (rv_tmp rfl) (.cons (rv_tmp rfl) .nil)) (bad2 (off (fun h => .inr (.inr (.inl h))) h4))
     ·refine th_take_g rfl rfl rfl rfl rfl (by kernel_rfl)  (opv_move rfl) ?_
      refine th_take_g rfl rfl rfl rfl rfl (by kernel_rfl)  (opv_move rfl) ?_
      refine th_take_g rfl rfl rfl rfl rfl (by kernel_rfl)  (opv_gtr rfl rfl) ?_
      refine th_take rfl rfl (by kernel_rfl)  (by first | exact opv_pick_t rfl rfl | exact opv_pick_f rfl rfl | exact opv_pick_bool rfl rfl rfl | exact opv_pick rfl rfl rfl) ?_
      refine th_take rfl rfl (by kernel_rfl)  (opv_move rfl) ?_
      refine th_split rfl rfl rfl (fun h5 => ?_) (fun h5 => ?_)
      ·refine th_skip rfl rfl rfl rfl rfl (by kernel_rfl)  ?_
       refine th_skip rfl rfl rfl rfl rfl (by kernel_rfl)  ?_
       refine th_skip rfl rfl rfl rfl rfl (by kernel_rfl)  ?_
       refine th_skip rfl rfl rfl rfl rfl (by kernel_rfl)  ?_
       refine th_skip rfl rfl rfl rfl rfl (by kernel_rfl)  ?_
       refine th_skip rfl rfl rfl rfl rfl (by kernel_rfl)  ?_
       refine th_skip rfl rfl rfl rfl rfl (by kernel_rfl)  ?_
       refine th_skip rfl rfl rfl rfl rfl (by kernel_rfl)  ?_
       refine th_skip rfl rfl rfl rfl rfl (by kernel_rfl)  ?_
       refine th_skip rfl rfl rfl rfl rfl (by kernel_rfl)  ?_
       refine th_skip rfl rfl rfl rfl rfl (by kernel_rfl)  ?_
       refine th_skip rfl rfl rfl rfl rfl (by kernel_rfl)  ?_
       refine th_skip rfl rfl rfl rfl rfl (by kernel_rfl)  ?_
       refine th_skip rfl rfl rfl rfl rfl (by kernel_rfl)  ?_
       refine th_skip rfl rfl rfl rfl rfl (by kernel_rfl)  ?_
       refine th_one (by kernel_rfl) (step_skip rfl rfl rfl rfl rfl ?_)
       refine th_skip rfl rfl rfl rfl rfl (by kernel_rfl)  ?_
       refine th_take rfl rfl (by kernel_rfl)  (by first | exact opv_pick_t rfl rfl | exact opv_pick_f rfl rfl | exact opv_pick_bool rfl rfl rfl | exact opv_pick rfl rfl rfl) ?_
       refine th_done (by kernel_rfl) ?_
       refine tT ?_
       refine tri_cond_true rfl ?_
       refine tS (tR (tA rfl rfl (tA rfl rfl (tN (tT (tri_ret (tri_then_ret ?_)))))))
       refine tri_inBlock_ret ?_
       refine tri_then_ret (tri_then_ret ?_)
       refine tri_inBlock_ret ?_
       refine tri_then_ret ?_
       refine tri_end A Suf.h rfl (.cons (rv_tmp rfl) (.cons (rv_tmp rfl) .nil)) (bad2 (off (fun h => .inr (.inr (.inr h))) h5))
      ·refine th_take_g rfl rfl rfl rfl rfl (by kernel_rfl)  (opv_move rfl) ?_
       refine th_take_g rfl rfl rfl rfl rfl (by kernel_rfl)  (opv_move rfl) ?_
       refine th_take_g rfl rfl rfl rfl rfl (by kernel_rfl)  (by first | exact opv_indexAddrA rfl rfl (by first | decide | omega) (by first | decide | omega) | exact opv_indexAddrSN rfl rfl (by omega) (by assumption) rfl | exact opv_indexAddrS rfl rfl (by omega) (by omega) (by assumption) rfl | exact opv_indexAddrE rfl (by assumption) (by omega) rfl (by first | decide | omega) (by first | decide | omega) | exact opv_indexAddrRN rfl rfl (by omega) | exact opv_indexAddrR rfl rfl (by omega) (by omega) | exact opv_indexAddrRA rfl (by omega) rfl (by first | decide | omega) (by first | decide | omega) | exact opv_indexAddrSP rfl rfl (by omega) (by omega) | exact opv_indexAddrSN rfl rfl (by omega) (by assumption) (by omega) | exact opv_indexAddrS rfl rfl (by omega) (by omega) (by assumption) (by omega)) ?_
       refine th_take_g rfl rfl rfl rfl rfl (by kernel_rfl)  (by first | exact opv_fieldAddr rfl rfl | exact opv_fieldAddrE rfl (by assumption) (by omega) rfl | exact opv_fieldAddrR rfl (by omega) rfl | exact opv_fieldAddrP rfl rfl rfl) ?_
       refine th_take_g rfl rfl rfl rfl rfl (by kernel_rfl)  (by first | exact opv_load1 rfl rfl rfl | exact opv_loadA rfl rfl rfl | exact opv_loadE1 rfl (by assumption) rfl (by omega) rfl rfl | exact opv_loadEA rfl (by assumption) rfl (by omega) rfl rfl | exact opv_loadRX1 rfl rfl (by omega) rfl rfl | exact opv_loadRXA rfl rfl (by omega) rfl rfl rfl | exact opv_loadIX rfl rfl (by omega) | exact opv_loadR1 rfl rfl rfl | exact opv_loadRA rfl rfl rfl rfl) ?_
       refine th_take_g rfl rfl rfl rfl rfl (by kernel_rfl)  (opv_move rfl) ?_
       refine th_take_g rfl rfl rfl rfl rfl (by kernel_rfl)  (by first | exact opv_add rfl rfl (w64 (by omega) (by omega))) ?_
       refine th_take_g rfl rfl rfl rfl rfl (by kernel_rfl)  (opv_move rfl) ?_
       refine th_take_g rfl rfl rfl rfl rfl (by kernel_rfl)  (opv_move rfl) ?_
       refine th_take_g rfl rfl rfl rfl rfl (by kernel_rfl)  (by first | exact opv_indexAddrA rfl rfl (by first | decide | omega) (by first | decide | omega) | exact opv_indexAddrSN rfl rfl (by omega) (by assumption) rfl | exact opv_indexAddrS rfl rfl (by omega) (by omega) (by assumption) rfl | exact opv_indexAddrE rfl (by assumption) (by omega) rfl (by first | decide | omega) (by first | decide | omega) | exact opv_indexAddrRN rfl rfl (by omega) | exact opv_indexAddrR rfl rfl (by omega) (by omega) | exact opv_indexAddrRA rfl (by omega) rfl (by first | decide | omega) (by first | decide | omega) | exact opv_indexAddrSP rfl rfl (by omega) (by omega) | exact opv_indexAddrSN rfl rfl (by omega) (by assumption) (by omega) | exact opv_indexAddrS rfl rfl (by omega) (by omega) (by assumption) (by omega)) ?_
       refine th_take_g rfl rfl rfl rfl rfl (by kernel_rfl)  (by first | exact opv_fieldAddr rfl rfl | exact opv_fieldAddrE rfl (by assumption) (by omega) rfl | exact opv_fieldAddrR rfl (by omega) rfl | exact opv_fieldAddrP rfl rfl rfl) ?_
       refine th_take_g rfl rfl rfl rfl rfl (by kernel_rfl)  (by first | exact opv_load1 rfl rfl rfl | exact opv_loadA rfl rfl rfl | exact opv_loadE1 rfl (by assumption) rfl (by omega) rfl rfl | exact opv_loadEA rfl (by assumption) rfl (by omega) rfl rfl | exact opv_loadRX1 rfl rfl (by omega) rfl rfl | exact opv_loadRXA rfl rfl (by omega) rfl rfl rfl | exact opv_loadIX rfl rfl (by omega) | exact opv_loadR1 rfl rfl rfl | exact opv_loadRA rfl rfl rfl rfl) ?_
       refine th_take_g rfl rfl rfl rfl rfl (by kernel_rfl)  (opv_move rfl) ?_
       refine th_take_g rfl rfl rfl rfl rfl (by kernel_rfl)  (by first | exact opv_add rfl rfl (w64 (by omega) (by omega))) ?_
       refine th_take_g rfl rfl rfl rfl rfl (by kernel_rfl)  (by first | exact opv_buildS rfl rfl | exact opv_buildA rfl rfl) ?_
       refine th_one (by kernel_rfl) (step_mg rfl rfl rfl rfl rfl (opg_call (xs := [_]) rfl (ref01_in (c := (⟨(l.getD i default).x + dx, (l.getD i default).y + dy⟩ : Cell)))) ?_)
       rintro _ _ _ ⟨rfl, rfl, rfl⟩
       refine ⟨Suf.h, (by first | exact fun _ h => h | assumption | exact fun _ h => (by assumption : _ ⊆ _) ((by assumption : _ ⊆ _) h)), ?_⟩
       refine th_take_g rfl rfl rfl rfl rfl (by kernel_rfl)  (by first | exact opv_notD rfl | exact opv_not rfl) ?_
       refine th_take rfl rfl (by kernel_rfl)  (by first | exact opv_pick_t rfl rfl | exact opv_pick_f rfl rfl | exact opv_pick_bool rfl rfl rfl | exact opv_pick rfl rfl rfl) ?_
       refine th_done (by kernel_rfl) ?_
       refine tT ?_
       refine tri_cond_dec rfl (fun h6 => ?_) (fun h6 => ?_)
       ·refine tS (tR (tA rfl rfl (tA rfl rfl (tN (tT (tri_ret (tri_then_ret ?_)))))))
        refine tri_inBlock_ret ?_
        refine tri_then_ret (tri_then_ret ?_)
        refine tri_inBlock_ret ?_
        refine tri_then_ret ?_
        refine tri_end A Suf.h rfl (.cons (rv_tmp rfl) (.cons (rv_tmp rfl) .nil)) (bad2 h6)
       ·have h6 : R1.inB (R1.mv dx dy (R1.g l i)) := Decidable.not_not.1 h6
        have e : (l.take (i + 1)).map (R1.mv dx dy) = (l.take i).map (R1.mv dx dy) ++ [R1.mv dx dy (l.getD i default)] := by
         rw [List.take_succ_eq_append_getElem hlt, List.map_append]
         simp [hlt]
        have hal : ((l.take i).map (R1.mv dx dy)).length ≤ l.length := by rw [List.length_map, List.length_take]; omega
        generalize (l.take i).map (R1.mv dx dy) = acc at *
        skip
        refine tri_skip (tT ?_)
        refine tri_draw [0, 1, 2, 3, 4, 5, 6, 7, 8, 9, 10, 11, 12, 13, 14, 15, 16, 17, 18] rfl [_] rfl mixed ?_
        refine th_take rfl rfl (by kernel_rfl)  (opv_move rfl) ?_
        refine th_take rfl rfl (by kernel_rfl)  (opv_move rfl) ?_
        refine th_take rfl rfl (by kernel_rfl)  (opv_move rfl) ?_
        refine th_take rfl rfl (by kernel_rfl)  (by first | exact opv_indexAddrA rfl rfl (by first | decide | omega) (by first | decide | omega) | exact opv_indexAddrSN rfl rfl (by omega) (by assumption) rfl | exact opv_indexAddrS rfl rfl (by omega) (by omega) (by assumption) rfl | exact opv_indexAddrE rfl (by assumption) (by omega) rfl (by first | decide | omega) (by first | decide | omega) | exact opv_indexAddrRN rfl rfl (by omega) | exact opv_indexAddrR rfl rfl (by omega) (by omega) | exact opv_indexAddrRA rfl (by omega) rfl (by first | decide | omega) (by first | decide | omega) | exact opv_indexAddrSP rfl rfl (by omega) (by omega) | exact opv_indexAddrSN rfl rfl (by omega) (by assumption) (by omega) | exact opv_indexAddrS rfl rfl (by omega) (by omega) (by assumption) (by omega)) ?_
        refine th_take rfl rfl (by kernel_rfl)  (by first | exact opv_fieldAddr rfl rfl | exact opv_fieldAddrE rfl (by assumption) (by omega) rfl | exact opv_fieldAddrR rfl (by omega) rfl | exact opv_fieldAddrP rfl rfl rfl) ?_
        refine th_take rfl rfl (by kernel_rfl)  (by first | exact opv_load1 rfl rfl rfl | exact opv_loadA rfl rfl rfl | exact opv_loadE1 rfl (by assumption) rfl (by omega) rfl rfl | exact opv_loadEA rfl (by assumption) rfl (by omega) rfl rfl | exact opv_loadRX1 rfl rfl (by omega) rfl rfl | exact opv_loadRXA rfl rfl (by omega) rfl rfl rfl | exact opv_loadIX rfl rfl (by omega) | exact opv_loadR1 rfl rfl rfl | exact opv_loadRA rfl rfl rfl rfl) ?_
        refine th_take rfl rfl (by kernel_rfl)  (opv_move rfl) ?_
        refine th_take rfl rfl (by kernel_rfl)  (by first | exact opv_add rfl rfl (w64 (by omega) (by omega))) ?_
        refine th_take rfl rfl (by kernel_rfl)  (opv_move rfl) ?_
        refine th_take rfl rfl (by kernel_rfl)  (opv_move rfl) ?_
        refine th_take rfl rfl (by kernel_rfl)  (by first | exact opv_indexAddrA rfl rfl (by first | decide | omega) (by first | decide | omega) | exact opv_indexAddrSN rfl rfl (by omega) (by assumption) rfl | exact opv_indexAddrS rfl rfl (by omega) (by omega) (by assumption) rfl | exact opv_indexAddrE rfl (by assumption) (by omega) rfl (by first | decide | omega) (by first | decide | omega) | exact opv_indexAddrRN rfl rfl (by omega) | exact opv_indexAddrR rfl rfl (by omega) (by omega) | exact opv_indexAddrRA rfl (by omega) rfl (by first | decide | omega) (by first | decide | omega) | exact opv_indexAddrSP rfl rfl (by omega) (by omega) | exact opv_indexAddrSN rfl rfl (by omega) (by assumption) (by omega) | exact opv_indexAddrS rfl rfl (by omega) (by omega) (by assumption) (by omega)) ?_
        refine th_take rfl rfl (by kernel_rfl)  (by first | exact opv_fieldAddr rfl rfl | exact opv_fieldAddrE rfl (by assumption) (by omega) rfl | exact opv_fieldAddrR rfl (by omega) rfl | exact opv_fieldAddrP rfl rfl rfl) ?_
        refine th_take rfl rfl (by kernel_rfl)  (by first | exact opv_load1 rfl rfl rfl | exact opv_loadA rfl rfl rfl | exact opv_loadE1 rfl (by assumption) rfl (by omega) rfl rfl | exact opv_loadEA rfl (by assumption) rfl (by omega) rfl rfl | exact opv_loadRX1 rfl rfl (by omega) rfl rfl | exact opv_loadRXA rfl rfl (by omega) rfl rfl rfl | exact opv_loadIX rfl rfl (by omega) | exact opv_loadR1 rfl rfl rfl | exact opv_loadRA rfl rfl rfl rfl) ?_
        refine th_take rfl rfl (by kernel_rfl)  (opv_move rfl) ?_
        refine th_take rfl rfl (by kernel_rfl)  (by first | exact opv_add rfl rfl (w64 (by omega) (by omega))) ?_
        refine th_take rfl rfl (by kernel_rfl)  (by first | exact opv_buildS rfl rfl | exact opv_buildA rfl rfl) ?_
        refine th_one (by kernel_rfl) (step_m rfl rfl (opg_buildSlice rfl rfl rfl rfl) ?_)
        rintro _ _ _ ⟨b75, rfl, rfl, rfl⟩
        refine ⟨Suf.h, (by first | exact fun _ h => h | assumption | exact fun _ h => (by assumption : _ ⊆ _) ((by assumption : _ ⊆ _) h)), ?_⟩
        refine th_one (by kernel_rfl) (step_m rfl rfl (opg_appendB rfl rfl rfl rfl (by omega) rfl) ?_)
        rintro _ _ _ ⟨a2, cap2, rfl, rfl, rfl⟩
        refine ⟨Suf.h, (by first | exact fun _ h => h | assumption | exact fun _ h => (by assumption : _ ⊆ _) ((by assumption : _ ⊆ _) h)), ?_⟩
        refine th_take rfl rfl (by kernel_rfl)  (opv_assign rfl) ?_
        refine th_done (by kernel_rfl) ?_
        refine tri_inBlock ?_
        refine tT (tR (tM rfl rfl ?_))
        refine tri_v (by first | exact opv_add rfl rfl (w64 (by omega) (by omega))) rfl ?_
        refine tA rfl rfl (tN (tT ?_))
        refine tri_drop ?_
        refine tri_rowEq (len' := (acc ++ [R1.mv dx dy (l.getD i default)]).length) (cells' := encs (acc ++ [R1.mv dx dy (l.getD i default)])) (by simp) (by rw [encs_append]; rfl) ?_
        have := hK (i + 1, a2, cap2) ⟨by simp only; omega, fun j hj => ?_⟩ (by simp only; omega)
        ·simp only [e] at this
         refine tri_sub ?_ this
         rw [List.length_append]
         exact ⟨rfl, rfl, rfl, rfl, rfl, rfl, trivial⟩
        ·by_cases e : j = i
         ·subst e; exact h6
         ·exact hok j (by simp only at hj; omega)
  ·refine tri_exit ?_
   refine tri_then_exit ?_
   refine tri_then_exit ?_
   refine tri_inBlock_hit rfl ?_
   refine tT (tS (tR (tM rfl rfl (tA rfl rfl (tA rfl rfl (tN (tT ?_)))))))
   refine tri_ret ?_
   have e : l.take i = l := List.take_of_length_le (by omega)
   rw [e]
   refine tri_freezeRow (α := Cell) rfl fun J hJ hs2 => ?_
   refine tri_end A Suf.h rfl (.cons (rv_tmp rfl) (.cons (rv_tmp rfl) .nil)) ?_
   rw [hsh, if_pos (fun j hj => hok j (by omega))]
   exact ⟨a1, cap1, rfl, hs2, rfl, hJ⟩
end Go.GL


set_option linter.unusedVariables false
namespace Go.GL
open Go.Proofs
attribute [local irreducible] wpList Code.wp Exit.then Exit.inBlock Ends Tri TriH OpV OpG FnC epf wpAnyH
variable {A : List Asrt} {I : List Chunk}
set_option maxRecDepth 100000 in
theorem law01_pick {c n : Int} (h0 : -9223372036854775808 ≤ c) (h1 : c ≤ 9223372036854775807) (hn : 0 < n) : FnC Try.prog 18 [.int .i64 c, .int .i64 n].toArray A I (fun v A' I' => v = .int .i64 (pk c n) ∧ A = A' ∧ I = I') := by
 refine fn_enter2 Try.func18 rfl Try.ntmps18 rfl fun w0 => ?_
 refine tS (tR (tA rfl rfl (tN (tT (tS (tS (tR ?_)))))))
 refine tM rfl rfl ?_
 refine tri_v (opv_lss rfl rfl) rfl ?_
 refine tN (tT ?_)
 refine tri_cond_dec rfl (fun h => ?_) (fun h => ?_)
 ·refine tR (tM rfl rfl ?_)
  refine tri_v (by first | exact opv_add rfl rfl (w64 (by omega) (by omega))) rfl ?_
  refine tri_v (by first | exact opv_negE rfl (by omega) (by omega)) rfl ?_
  refine tA rfl rfl (tN (tT (tS (tR (tM rfl rfl (tM rfl rfl ?_))))))
  refine tri_v (by first | exact opv_remE rfl rfl (by omega) (by omega) | exact opv_rem rfl rfl (by omega) rfl) rfl ?_
  refine tA rfl rfl (tN (tT (tri_ret ?_)))
  refine tri_end A Suf.h rfl (.cons (rv_tmp rfl) .nil) ⟨?_, rfl, rfl⟩
  rw [pk, if_pos h]; rfl
 ·refine tri_skip (tT (tS (tR (tM rfl rfl (tM rfl rfl ?_)))))
  refine tri_v (by first | exact opv_remE rfl rfl (by omega) (by omega) | exact opv_rem rfl rfl (by omega) rfl) rfl ?_
  refine tA rfl rfl (tN (tT (tri_ret ?_)))
  refine tri_end A Suf.h rfl (.cons (rv_tmp rfl) .nil) ⟨?_, rfl, rfl⟩
  rw [pk, if_neg h]; rfl
set_option maxRecDepth 100000 in
theorem law01_setA {l : List Cell} {a : Option Addr} {cap : Nat} (hs : SlAt I a l) (hc : RL.Cs l) :
  FnC Try.prog 10 [.slice a l.length cap].toArray A I (fun v A' I' => ∃ a' cap', v = .slice a' (RL.set l).length cap' ∧ StA I' a' cap' (RL.set l) ∧ A = A' ∧ I ⊆ I') := by
 refine fn_enter1 Try.func10 rfl Try.ntmps10 rfl fun w0 => ?_
 refine tS (tR (tA rfl rfl (tN (tT (tS (tR (tA rfl rfl ?_)))))))
 refine tN (tT (tS (tS (tR (tA rfl rfl (tN (tT ?_)))))))
 refine tri_block ?_
 refine tri_sub (F' := [(0, .slice a l.length cap), (3, .slice none 0 0), (4, .int .i64 (0 : Nat))]) ⟨rfl, rfl, rfl, trivial⟩ ?_
 refine loop_ind (G := Nat × Option Addr × Nat × List Chunk) (fun g => 60 - g.1) (fun g => g.1 ≤ l.length ∧ g.1 ≤ 60 ∧ StA g.2.2.2 g.2.1 g.2.2.1 (R1.puts ((l.take g.1).map RL.cell16)) ∧ I ⊆ g.2.2.2) (fun g => [(0, .slice a l.length cap), (3, .slice g.2.1 (R1.puts ((l.take g.1).map RL.cell16)).length g.2.2.1), (4, .int .i64 (g.1 : Nat))]) (fun _ => A) (fun g => g.2.2.2) ?_ (0, none, 0, I) ⟨by omega, by omega, StA.nil, fun _ h => h⟩
 rintro ⟨i, a1, cap1, I1⟩ ⟨hi, hi6, hs1, hI1⟩ K hK
 simp only at hi hi6 hs1 hI1 hK ⊢
 have hsm : SlAt I1 a l := hs.mono hI1
 have fin : i = l.length ∨ i = 60 → RL.set l = R1.puts ((l.take i).map RL.cell16) := by
  rintro (rfl | rfl)
  ·unfold RL.set
   rw [List.take_length, List.take_of_length_le (by omega)]
  ·rfl
 skip
 refine tS (tS (tR (tM rfl rfl (tM rfl rfl ?_))))
 refine tri_v (opv_len rfl) rfl ?_
 refine tri_v (opv_lss rfl rfl) rfl ?_
 refine tM rfl rfl ?_
 refine tri_split rfl rfl (fun h => ?_) (fun h => ?_)
 ·refine tri_guard_run rfl rfl rfl (tM rfl rfl (tri_guard_run rfl rfl rfl ?_))
  refine tri_v (opv_lss rfl rfl) rfl ?_
  refine tri_v (by first | exact opv_pick_t rfl rfl | exact opv_pick_f rfl rfl | exact opv_pick_bool rfl rfl rfl | exact opv_pick rfl rfl rfl) rfl ?_
  refine tN (tT ?_)
  refine tri_cond_dec rfl (fun h2 => ?_) (fun h2 => ?_)
  ·refine tri_skip (tT (tS (tri_block ?_)))
   refine tri_draw [0, 1, 2, 3, 4, 5, 8, 9, 10, 11, 12, 6, 7, 13, 14, 15, 16, 17] rfl [] rfl mixed ?_
   refine th_take rfl rfl (by kernel_rfl)  (opv_move rfl) ?_
   refine th_take rfl rfl (by kernel_rfl)  (opv_move rfl) ?_
   refine th_take rfl rfl (by kernel_rfl)  (opv_move rfl) ?_
   refine th_take rfl rfl (by kernel_rfl)  (by first | exact opv_indexAddrA rfl rfl (by first | decide | omega) (by first | decide | omega) | exact opv_indexAddrSN rfl rfl (by omega) (by assumption) rfl | exact opv_indexAddrS rfl rfl (by omega) (by omega) (by assumption) rfl | exact opv_indexAddrE rfl (by assumption) (by omega) rfl (by first | decide | omega) (by first | decide | omega) | exact opv_indexAddrRN rfl rfl (by omega) | exact opv_indexAddrR rfl rfl (by omega) (by omega) | exact opv_indexAddrRA rfl (by omega) rfl (by first | decide | omega) (by first | decide | omega) | exact opv_indexAddrSP rfl rfl (by omega) (by omega) | exact opv_indexAddrSN rfl rfl (by omega) (by assumption) (by omega) | exact opv_indexAddrS rfl rfl (by omega) (by omega) (by assumption) (by omega)) ?_
   refine th_take rfl rfl (by kernel_rfl)  (by first | exact opv_indexAddrA rfl rfl (by first | decide | omega) (by first | decide | omega) | exact opv_indexAddrSN rfl rfl (by omega) (by assumption) rfl | exact opv_indexAddrS rfl rfl (by omega) (by omega) (by assumption) rfl | exact opv_indexAddrE rfl (by assumption) (by omega) rfl (by first | decide | omega) (by first | decide | omega) | exact opv_indexAddrRN rfl rfl (by omega) | exact opv_indexAddrR rfl rfl (by omega) (by omega) | exact opv_indexAddrRA rfl (by omega) rfl (by first | decide | omega) (by first | decide | omega) | exact opv_indexAddrSP rfl rfl (by omega) (by omega) | exact opv_indexAddrSN rfl rfl (by omega) (by assumption) (by omega) | exact opv_indexAddrS rfl rfl (by omega) (by omega) (by assumption) (by omega)) ?_
   refine th_take rfl rfl (by kernel_rfl)  (by first | exact opv_load1 rfl rfl rfl | exact opv_loadA rfl rfl rfl | exact opv_loadE1 rfl (by assumption) rfl (by omega) rfl rfl | exact opv_loadEA rfl (by assumption) rfl (by omega) rfl rfl | exact opv_loadRX1 rfl rfl (by omega) rfl rfl | exact opv_loadRXA rfl rfl (by omega) rfl rfl rfl | exact opv_loadIX rfl rfl (by omega) | exact opv_loadR1 rfl rfl rfl | exact opv_loadRA rfl rfl rfl rfl) ?_
   refine th_take rfl rfl (by kernel_rfl)  (opv_move rfl) ?_
   refine th_take rfl rfl (by kernel_rfl)  (opv_move rfl) ?_
   refine th_take rfl rfl (by kernel_rfl)  (by first | exact opv_indexAddrA rfl rfl (by first | decide | omega) (by first | decide | omega) | exact opv_indexAddrSN rfl rfl (by omega) (by assumption) rfl | exact opv_indexAddrS rfl rfl (by omega) (by omega) (by assumption) rfl | exact opv_indexAddrE rfl (by assumption) (by omega) rfl (by first | decide | omega) (by first | decide | omega) | exact opv_indexAddrRN rfl rfl (by omega) | exact opv_indexAddrR rfl rfl (by omega) (by omega) | exact opv_indexAddrRA rfl (by omega) rfl (by first | decide | omega) (by first | decide | omega) | exact opv_indexAddrSP rfl rfl (by omega) (by omega) | exact opv_indexAddrSN rfl rfl (by omega) (by assumption) (by omega) | exact opv_indexAddrS rfl rfl (by omega) (by omega) (by assumption) (by omega)) ?_
   refine th_take rfl rfl (by kernel_rfl)  (by first | exact opv_indexAddrA rfl rfl (by first | decide | omega) (by first | decide | omega) | exact opv_indexAddrSN rfl rfl (by omega) (by assumption) rfl | exact opv_indexAddrS rfl rfl (by omega) (by omega) (by assumption) rfl | exact opv_indexAddrE rfl (by assumption) (by omega) rfl (by first | decide | omega) (by first | decide | omega) | exact opv_indexAddrRN rfl rfl (by omega) | exact opv_indexAddrR rfl rfl (by omega) (by omega) | exact opv_indexAddrRA rfl (by omega) rfl (by first | decide | omega) (by first | decide | omega) | exact opv_indexAddrSP rfl rfl (by omega) (by omega) | exact opv_indexAddrSN rfl rfl (by omega) (by assumption) (by omega) | exact opv_indexAddrS rfl rfl (by omega) (by omega) (by assumption) (by omega)) ?_
   refine th_take rfl rfl (by kernel_rfl)  (by first | exact opv_load1 rfl rfl rfl | exact opv_loadA rfl rfl rfl | exact opv_loadE1 rfl (by assumption) rfl (by omega) rfl rfl | exact opv_loadEA rfl (by assumption) rfl (by omega) rfl rfl | exact opv_loadRX1 rfl rfl (by omega) rfl rfl | exact opv_loadRXA rfl rfl (by omega) rfl rfl rfl | exact opv_loadIX rfl rfl (by omega) | exact opv_loadR1 rfl rfl rfl | exact opv_loadRA rfl rfl rfl rfl) ?_
   have hlt : i < l.length := by omega
   have hci := hc i hlt
   have hcx := hci.1
   have hcy := hci.2
   have px := pk_bd (c := (l.getD i default).x) (n := 16) (by omega)
   have py := pk_bd (c := (l.getD i default).y) (n := 16) (by omega)
   have hl1 := R1.puts_len ((l.take i).map RL.cell16)
   rw [List.length_map, List.length_take] at hl1
   refine th_one (by kernel_rfl) (step_m rfl rfl (opg_call (xs := [_, _]) rfl (law01_pick (c := (l.getD i default).x) hcx.1 hcx.2 (by decide))) ?_)
   rintro _ _ _ ⟨rfl, rfl, rfl⟩
   refine ⟨Suf.h, (by first | exact fun _ h => h | assumption | exact fun _ h => (by assumption : _ ⊆ _) ((by assumption : _ ⊆ _) h)), ?_⟩
   refine th_take rfl rfl (by kernel_rfl)  (by first | exact opv_sub rfl rfl (w64 (by omega) (by omega)) | exact opv_sub rfl rfl rfl) ?_
   refine th_one (by kernel_rfl) (step_m rfl rfl (opg_call (xs := [_, _]) rfl (law01_pick (c := (l.getD i default).y) hcy.1 hcy.2 (by decide))) ?_)
   rintro _ _ _ ⟨rfl, rfl, rfl⟩
   refine ⟨Suf.h, (by first | exact fun _ h => h | assumption | exact fun _ h => (by assumption : _ ⊆ _) ((by assumption : _ ⊆ _) h)), ?_⟩
   refine th_take rfl rfl (by kernel_rfl)  (by first | exact opv_sub rfl rfl (w64 (by omega) (by omega)) | exact opv_sub rfl rfl rfl) ?_
   refine th_take rfl rfl (by kernel_rfl)  (by first | exact opv_buildS rfl rfl | exact opv_buildA rfl rfl) ?_
   refine th_one (by kernel_rfl) (step_m rfl rfl (opg_call (xs := [_, _]) rfl (ref01_putA (c := RL.cell16 (l.getD i default)) hs1.sl (by omega))) ?_)
   rintro _ _ I2 ⟨a2, cap2, rfl, hs2, rfl, hI2⟩
   refine ⟨Suf.h, (by first | exact fun _ h => h | assumption | exact fun _ h => (by assumption : _ ⊆ _) ((by assumption : _ ⊆ _) h)), ?_⟩
   refine th_take rfl rfl (by kernel_rfl)  (opv_assign rfl) ?_
   refine th_done (by kernel_rfl) ?_
   refine tri_inBlock ?_
   refine tT (tR (tM rfl rfl ?_))
   refine tri_v (by first | exact opv_add rfl rfl (w64 (by omega) (by omega))) rfl ?_
   refine tA rfl rfl (tN (tT ?_))
   have e : R1.puts ((l.take (i + 1)).map RL.cell16) = R1.put (R1.puts ((l.take i).map RL.cell16)) (RL.cell16 (l.getD i default)) := by
    rw [← R1.puts_snoc, List.take_succ_eq_append_getElem hlt, List.map_append, show l.getD i default = l[i] by simp [hlt]]; rfl
   refine tri_sub ?_ (hK (i + 1, a2, cap2, I2) ⟨by simp only; omega, by simp only; omega, by simp only [e]; exact hs2, fun _ h => hI2 (hI1 h)⟩ (by simp only; omega))
   simp only [e]
   exact ⟨rfl, rfl, rfl, trivial⟩
  ·refine tri_exit ?_
   refine tri_then_exit ?_
   refine tri_then_exit ?_
   refine tri_inBlock_hit rfl ?_
   refine tT (tS (tR (tM rfl rfl (tA rfl rfl (tN (tT (tri_ret ?_)))))))
   refine tri_end A Suf.h rfl (.cons (rv_tmp rfl) .nil) ⟨a1, cap1, ?_, ?_, rfl, hI1⟩
   ·rw [fin (by omega)]; rfl
   ·rw [fin (by omega)]; exact hs1
 ·refine tri_guard_skip rfl rfl rfl rfl (tri_guard_skip rfl rfl rfl rfl ?_)
  refine tri_v (by first | exact opv_pick_t rfl rfl | exact opv_pick_f rfl rfl | exact opv_pick_bool rfl rfl rfl | exact opv_pick rfl rfl rfl) rfl ?_
  refine tN (tT ?_)
  refine tri_cond_false rfl ?_
  refine tri_exit ?_
  refine tri_then_exit ?_
  refine tri_then_exit ?_
  refine tri_inBlock_hit rfl ?_
  refine tT (tS (tR (tM rfl rfl (tA rfl rfl (tN (tT (tri_ret ?_)))))))
  refine tri_end A Suf.h rfl (.cons (rv_tmp rfl) .nil) ⟨a1, cap1, ?_, ?_, rfl, hI1⟩
  ·rw [fin (by omega)]; rfl
  ·rw [fin (by omega)]; exact hs1
theorem law01_set {l : List Cell} {a : Option Addr} {cap : Nat} (hs : SlAt I a l) (hc : RL.Cs l) :
  FnC Try.prog 10 [.slice a l.length cap].toArray A I (fun v A' I' => ∃ a' cap', v = .slice a' (RL.set l).length cap' ∧ SlAt I' a' (RL.set l) ∧ A = A' ∧ I ⊆ I') :=
 (law01_setA hs hc).mono fun v A' I' ⟨a', c', h1, h2, h3, h4⟩ => ⟨a', c', h1, h2.sl, h3, h4⟩
end Go.GL


set_option linter.unusedVariables false
namespace Go.GL
open Go.Proofs
attribute [local irreducible] wpList Code.wp Exit.then Exit.inBlock Ends Tri TriH OpV OpG FnC epf wpAnyH
variable {A : List Asrt} {I : List Chunk}
set_option maxHeartbeats 4000000 in
set_option maxRecDepth 100000 in
theorem law01_awake : FnC Try.prog 9 [].toArray A I (fun v A' I' => v = .bool true ∧ A = A' ∧ I ⊆ I') := by
 obtain ⟨l1, hl1⟩ : ∃ l1 : List Cell, l1 = [⟨1, 0⟩, ⟨0, 1⟩] := ⟨_, rfl⟩
 have e1 : (R1.of [⟨1, 0⟩, ⟨0, 1⟩, ⟨1, 0⟩]).1 = l1 := by subst hl1; decide +kernel
 have e2 : (R1.of [⟨1, 0⟩, ⟨0, 1⟩, ⟨1, 0⟩]).2 = 0 := by decide +kernel
 have n1 : l1.length = 2 := by subst hl1; rfl
 have n2 : l1.getD 0 default = ⟨1, 0⟩ := by subst hl1; rfl
 have b1 : (R1.box l1).1 = ⟨0, 0, 2, 2⟩ := by subst hl1; decide +kernel
 have b2 : (R1.box l1).2 = true := by subst hl1; decide +kernel
 have w1 : (R1.wth l1 ⟨1, 0⟩ false).2 = 0 := by subst hl1; decide +kernel
 have w2 : (R1.wth l1 ⟨1, 0⟩ false).1.length = 1 := by subst hl1; decide +kernel
 have w3 : (R1.wth l1 ⟨1, 0⟩ false).1.getD 0 default = ⟨0, 1⟩ := by subst hl1; decide +kernel
 have s1 : (R1.shift l1 5 (-5)).2 = 0 := by subst hl1; decide +kernel
 have s2 : (R1.shift l1 5 (-5)).1.length = 2 := by subst hl1; decide +kernel
 have s3 : (R1.shift l1 5 (-5)).1.getD 0 default = ⟨6, -5⟩ := by subst hl1; decide +kernel
 have r1 : R1.right l1 := by subst hl1; decide +kernel
 have r2 : ¬ R1.right [⟨0, 0⟩, ⟨0, 0⟩] := by decide +kernel
 have h1 : (⟨0, 1⟩ : Cell) ∈ l1 := by subst hl1; decide
 have h2 : (⟨0, 0⟩ : Cell) ∉ l1 := by subst hl1; decide
 have f1 : (R1.of [⟨1099511627777, 0⟩]).2 = 2 := by decide +kernel
 have z1 : (R1.box []).2 = false := by decide +kernel
 clear hl1
 skip
 skip
 refine fn_enter0 Try.func9 rfl Try.ntmps9 rfl fun w0 => ?_
 refine tS (tR (tA rfl rfl (tN (tT (tS (tR ?_))))))
 refine tri_v (by first | exact opv_buildS rfl rfl | exact opv_buildA rfl rfl) rfl ?_
 refine tri_v (by first | exact opv_buildS rfl rfl | exact opv_buildA rfl rfl) rfl ?_
 refine tri_v (by first | exact opv_buildS rfl rfl | exact opv_buildA rfl rfl) rfl ?_
 refine tri_g (opg_buildSlice rfl rfl rfl rfl) rfl ?_
 rintro _ _ _ ⟨b17, rfl, rfl, rfl⟩
 refine tri_freezeBoxS ([⟨1, 0⟩, ⟨0, 1⟩, ⟨1, 0⟩] : List Cell) rfl fun J1 hJ1 hs1 => ?_
 refine tri_g (opg_call (xs := [_]) rfl (cells_of hs1 (by decide))) rfl ?_
 rintro _ _ I1 ⟨a1, c1, rfl, hr1, rfl, hI1⟩
 rw [e1] at hr1
 rw [e1, e2]
 refine tM rfl rfl ?_
 refine tri_v (opv_extract rfl rfl) rfl ?_
 refine tri_v (opv_extract rfl rfl) rfl ?_
 refine tA rfl rfl (tA rfl rfl (tN (tT (tS (tR (tM rfl rfl ?_))))))
 refine tri_g (opg_call (xs := [_]) rfl (cells_box hr1 (by omega))) rfl ?_
 rintro _ _ I2 ⟨rfl, rfl, hI2⟩
 rw [b1, b2]
 refine tM rfl rfl ?_
 refine tri_v (opv_extract rfl rfl) rfl ?_
 refine tri_v (opv_extract rfl rfl) rfl ?_
 refine tri_g opg_alloc rfl ?_
 rintro _ _ _ ⟨b3, rfl, rfl, rfl⟩
 refine tri_g (opg_store rfl rfl rfl rfl rfl rfl) rfl ?_
 rintro _ _ _ ⟨rfl, rfl⟩
 refine tA rfl rfl (tN (tT (tS (tR ?_))))
 refine tri_v (by first | exact opv_buildS rfl rfl | exact opv_buildA rfl rfl) rfl ?_
 refine tri_g (opg_buildSlice rfl rfl rfl rfl) rfl ?_
 rintro _ _ _ ⟨b28, rfl, rfl, rfl⟩
 refine tri_freezeBoxS ([⟨1099511627777, 0⟩] : List Cell) rfl fun J2 hJ2 hs2 => ?_
 refine tri_g (opg_call (xs := [_]) rfl (cells_of hs2 (by decide))) rfl ?_
 rintro _ _ I3 ⟨a3, c3, rfl, hr3, rfl, hI3⟩
 rw [f1]
 have hr1 := hr1.mono fun _ h => hI3 (hJ2 (hI2 h))
 refine tM rfl rfl ?_
 refine tri_v (opv_extract rfl rfl) rfl ?_
 refine tri_v (opv_extract rfl rfl) rfl ?_
 refine tA rfl rfl (tA rfl rfl (tN (tT (tS (tR (tM rfl rfl ?_))))))
 refine tri_v (by first | exact opv_buildS rfl rfl | exact opv_buildA rfl rfl) rfl ?_
 refine tri_g (opg_call (xs := [_, _, _]) rfl (cells_with (c := (⟨1, 0⟩ : Cell)) (alive := false) hr1 (by omega))) rfl ?_
 rintro _ _ I4 ⟨a4, c4, rfl, hr4, rfl, hI4⟩
 rw [w1]
 have hr1 := hr1.mono hI4
 refine tM rfl rfl ?_
 refine tri_v (opv_extract rfl rfl) rfl ?_
 refine tri_v (opv_extract rfl rfl) rfl ?_
 refine tA rfl rfl (tA rfl rfl (tN (tT (tS (tR (tM rfl rfl ?_))))))
 refine tri_g (opg_call (xs := [_, _, _]) rfl (cells_shift hr1 (by omega) ⟨by decide, by decide⟩ ⟨by decide, by decide⟩)) rfl ?_
 rintro _ _ I5 ⟨a5, c5, rfl, hr5, rfl, hI5⟩
 rw [s1]
 have hr1 := hr1.mono hI5
 have hr4 := hr4.mono hI5
 refine tM rfl rfl ?_
 refine tri_v (opv_extract rfl rfl) rfl ?_
 refine tri_v (opv_extract rfl rfl) rfl ?_
 refine tA rfl rfl (tA rfl rfl (tN (tT (tS (tR ?_)))))
 refine tri_g (opg_call (xs := [_]) rfl (cells_box (l := []) SlAt.nil (by decide))) rfl ?_
 rintro _ _ I6 ⟨rfl, rfl, hI6⟩
 rw [z1]
 have hr1 := hr1.mono hI6
 have hr4 := hr4.mono hI6
 have hr5 := hr5.mono hI6
 have I06 : I ⊆ I6 := fun _ h => hI6 (hI5 (hI4 (hI3 (hJ2 (hI2 (hI1 (hJ1 h)))))))
 generalize R1.wth l1 ⟨1, 0⟩ false = wt at *
 generalize R1.shift l1 5 (-5) = sh at *
 refine tM rfl rfl ?_
 refine tri_v (opv_extract rfl rfl) rfl ?_
 refine tri_v (opv_extract rfl rfl) rfl ?_
 refine tri_g opg_alloc rfl ?_
 rintro _ _ _ ⟨b11, rfl, rfl, rfl⟩
 refine tri_g (opg_store rfl rfl rfl rfl rfl rfl) rfl ?_
 rintro _ _ _ ⟨rfl, rfl⟩
 refine tA rfl rfl (tN (tT (tS (tS (tR (tM rfl rfl ?_))))))
 refine tri_v (opv_len rfl) rfl ?_
 refine tri_v (by first | exact opv_neq rfl rfl | exact opv_neqI rfl rfl rfl rfl rfl rfl | exact opv_neqB rfl rfl) rfl ?_
 refine tM rfl rfl ?_
 refine tri_false rfl rfl ((by omega)) ?_
 refine tri_guard_run rfl rfl rfl (tM rfl rfl (tri_guard_run rfl rfl rfl ?_))
 refine tri_v (opv_len rfl) rfl ?_
 refine tri_guard_run rfl rfl rfl ?_
 refine tri_v (by first | exact opv_neq rfl rfl | exact opv_neqI rfl rfl rfl rfl rfl rfl | exact opv_neqB rfl rfl) rfl ?_
 refine tri_v (by first | exact opv_pick_t rfl rfl | exact opv_pick_f rfl rfl | exact opv_pick_bool rfl rfl rfl | exact opv_pick rfl rfl rfl) rfl ?_
 refine tM rfl rfl ?_
 refine tri_false rfl rfl ((by omega)) ?_
 refine tri_guard_run rfl rfl rfl (tM rfl rfl (tri_guard_run rfl rfl rfl ?_))
 refine tri_v (opv_len rfl) rfl ?_
 refine tri_guard_run rfl rfl rfl ?_
 refine tri_v (by first | exact opv_neq rfl rfl | exact opv_neqI rfl rfl rfl rfl rfl rfl | exact opv_neqB rfl rfl) rfl ?_
 refine tri_v (by first | exact opv_pick_t rfl rfl | exact opv_pick_f rfl rfl | exact opv_pick_bool rfl rfl rfl | exact opv_pick rfl rfl rfl) rfl ?_
 refine tN (tT ?_)
 refine tri_cond_not rfl ((by omega)) ?_
 refine tri_skip (tT (tS (tR (tM rfl rfl ?_))))
 refine tri_v (by first | exact opv_eql rfl rfl | exact opv_eqlI rfl rfl rfl rfl rfl rfl | exact opv_eqlB rfl rfl | exact opv_eqlNil rfl rfl) rfl ?_
 refine tM rfl rfl ?_
 refine tri_true rfl rfl (rfl) ?_
 refine tri_guard_run rfl rfl rfl (tM rfl rfl (tri_guard_run rfl rfl rfl ?_))
 refine tri_v (by first | exact opv_indexAddrA rfl rfl (by first | decide | omega) (by first | decide | omega) | exact opv_indexAddrSN rfl rfl (by omega) (by assumption) rfl | exact opv_indexAddrS rfl rfl (by omega) (by omega) (by assumption) rfl | exact opv_indexAddrE rfl (by assumption) (by omega) rfl (by first | decide | omega) (by first | decide | omega) | exact opv_indexAddrRN rfl rfl (by omega) | exact opv_indexAddrR rfl rfl (by omega) (by omega) | exact opv_indexAddrRA rfl (by omega) rfl (by first | decide | omega) (by first | decide | omega) | exact opv_indexAddrSP rfl rfl (by omega) (by omega) | exact opv_indexAddrSN rfl rfl (by omega) (by assumption) (by omega) | exact opv_indexAddrS rfl rfl (by omega) (by omega) (by assumption) (by omega)) rfl ?_
 refine tri_guard_run rfl rfl rfl ?_
 refine tri_v (by first | exact opv_load1 rfl rfl rfl | exact opv_loadA rfl rfl rfl | exact opv_loadE1 rfl (by assumption) rfl (by omega) rfl rfl | exact opv_loadEA rfl (by assumption) rfl (by omega) rfl rfl | exact opv_loadRX1 rfl rfl (by omega) rfl rfl | exact opv_loadRXA rfl rfl (by omega) rfl rfl rfl | exact opv_loadIX rfl rfl (by omega) | exact opv_loadR1 rfl rfl rfl | exact opv_loadRA rfl rfl rfl rfl) rfl ?_
 refine tri_guard_run rfl rfl rfl ?_
 refine tri_v (by first | exact opv_buildS rfl rfl | exact opv_buildA rfl rfl) rfl ?_
 refine tri_guard_run rfl rfl rfl ?_
 refine tri_v (by first | exact opv_eql rfl rfl | exact opv_eqlI rfl rfl rfl rfl rfl rfl | exact opv_eqlB rfl rfl | exact opv_eqlNil rfl rfl) rfl ?_
 refine tri_v (by first | exact opv_pick_t rfl rfl | exact opv_pick_f rfl rfl | exact opv_pick_bool rfl rfl rfl | exact opv_pick rfl rfl rfl) rfl ?_
 refine tM rfl rfl ?_
 refine tri_true rfl rfl ((by show [(l1.getD 0 default).x, (l1.getD 0 default).y] = _; rw [n2])) ?_
 refine tri_guard_run rfl rfl rfl ?_
 refine tri_v (by first | exact opv_load1 rfl rfl rfl | exact opv_loadA rfl rfl rfl | exact opv_loadE1 rfl (by assumption) rfl (by omega) rfl rfl | exact opv_loadEA rfl (by assumption) rfl (by omega) rfl rfl | exact opv_loadRX1 rfl rfl (by omega) rfl rfl | exact opv_loadRXA rfl rfl (by omega) rfl rfl rfl | exact opv_loadIX rfl rfl (by omega) | exact opv_loadR1 rfl rfl rfl | exact opv_loadRA rfl rfl rfl rfl) rfl ?_
 refine tri_guard_run rfl rfl rfl ?_
 refine tri_v (by first | exact opv_buildS rfl rfl | exact opv_buildA rfl rfl) rfl ?_
 refine tri_guard_run rfl rfl rfl ?_
 refine tri_v (by first | exact opv_eql rfl rfl | exact opv_eqlI rfl rfl rfl rfl rfl rfl | exact opv_eqlB rfl rfl | exact opv_eqlNil rfl rfl) rfl ?_
 refine tri_v (by first | exact opv_pick_t rfl rfl | exact opv_pick_f rfl rfl | exact opv_pick_bool rfl rfl rfl | exact opv_pick rfl rfl rfl) rfl ?_
 refine tM rfl rfl ?_
 refine tri_true rfl rfl (rfl) ?_
 refine tri_guard_run rfl rfl rfl (tM rfl rfl ?_)
 refine tri_v (by first | exact opv_pick_t rfl rfl | exact opv_pick_f rfl rfl | exact opv_pick_bool rfl rfl rfl | exact opv_pick rfl rfl rfl) rfl ?_
 refine tM rfl rfl ?_
 refine tri_bool 77 rfl (fun _ => ?_) (fun h => absurd h (by decide))
 refine tri_guard_run rfl rfl rfl (tM rfl rfl (tri_guard_run rfl rfl rfl ?_))
 refine tri_v (by first | exact opv_eql rfl rfl | exact opv_eqlI rfl rfl rfl rfl rfl rfl | exact opv_eqlB rfl rfl | exact opv_eqlNil rfl rfl) rfl ?_
 refine tri_v (by first | exact opv_pick_t rfl rfl | exact opv_pick_f rfl rfl | exact opv_pick_bool rfl rfl rfl | exact opv_pick rfl rfl rfl) rfl ?_
 refine tM rfl rfl ?_
 refine tri_true rfl rfl (rfl) ?_
 refine tri_guard_run rfl rfl rfl (tM rfl rfl (tri_guard_run rfl rfl rfl ?_))
 refine tri_v (by first | exact opv_eql rfl rfl | exact opv_eqlI rfl rfl rfl rfl rfl rfl | exact opv_eqlB rfl rfl | exact opv_eqlNil rfl rfl) rfl ?_
 refine tri_v (by first | exact opv_pick_t rfl rfl | exact opv_pick_f rfl rfl | exact opv_pick_bool rfl rfl rfl | exact opv_pick rfl rfl rfl) rfl ?_
 refine tM rfl rfl ?_
 refine tri_true rfl rfl (rfl) ?_
 refine tri_guard_run rfl rfl rfl (tM rfl rfl (tri_guard_run rfl rfl rfl ?_))
 refine tri_v (by first | exact opv_indexAddrA rfl rfl (by first | decide | omega) (by first | decide | omega) | exact opv_indexAddrSN rfl rfl (by omega) (by assumption) rfl | exact opv_indexAddrS rfl rfl (by omega) (by omega) (by assumption) rfl | exact opv_indexAddrE rfl (by assumption) (by omega) rfl (by first | decide | omega) (by first | decide | omega) | exact opv_indexAddrRN rfl rfl (by omega) | exact opv_indexAddrR rfl rfl (by omega) (by omega) | exact opv_indexAddrRA rfl (by omega) rfl (by first | decide | omega) (by first | decide | omega) | exact opv_indexAddrSP rfl rfl (by omega) (by omega) | exact opv_indexAddrSN rfl rfl (by omega) (by assumption) (by omega) | exact opv_indexAddrS rfl rfl (by omega) (by omega) (by assumption) (by omega)) rfl ?_
 refine tri_guard_run rfl rfl rfl ?_
 refine tri_v (by first | exact opv_load1 rfl rfl rfl | exact opv_loadA rfl rfl rfl | exact opv_loadE1 rfl (by assumption) rfl (by omega) rfl rfl | exact opv_loadEA rfl (by assumption) rfl (by omega) rfl rfl | exact opv_loadRX1 rfl rfl (by omega) rfl rfl | exact opv_loadRXA rfl rfl (by omega) rfl rfl rfl | exact opv_loadIX rfl rfl (by omega) | exact opv_loadR1 rfl rfl rfl | exact opv_loadRA rfl rfl rfl rfl) rfl ?_
 refine tri_guard_run rfl rfl rfl ?_
 refine tri_v (by first | exact opv_buildS rfl rfl | exact opv_buildA rfl rfl) rfl ?_
 refine tri_guard_run rfl rfl rfl ?_
 refine tri_v (by first | exact opv_eql rfl rfl | exact opv_eqlI rfl rfl rfl rfl rfl rfl | exact opv_eqlB rfl rfl | exact opv_eqlNil rfl rfl) rfl ?_
 refine tri_v (by first | exact opv_pick_t rfl rfl | exact opv_pick_f rfl rfl | exact opv_pick_bool rfl rfl rfl | exact opv_pick rfl rfl rfl) rfl ?_
 refine tM rfl rfl ?_
 refine tri_true rfl rfl ((by show [(wt.1.getD 0 default).x, (wt.1.getD 0 default).y] = _; rw [w3])) ?_
 refine tri_guard_run rfl rfl rfl (tM rfl rfl (tri_guard_run rfl rfl rfl ?_))
 refine tri_v (by first | exact opv_eql rfl rfl | exact opv_eqlI rfl rfl rfl rfl rfl rfl | exact opv_eqlB rfl rfl | exact opv_eqlNil rfl rfl) rfl ?_
 refine tri_v (by first | exact opv_pick_t rfl rfl | exact opv_pick_f rfl rfl | exact opv_pick_bool rfl rfl rfl | exact opv_pick rfl rfl rfl) rfl ?_
 refine tM rfl rfl ?_
 refine tri_true rfl rfl (rfl) ?_
 refine tri_guard_run rfl rfl rfl (tM rfl rfl (tri_guard_run rfl rfl rfl ?_))
 refine tri_v (by first | exact opv_indexAddrA rfl rfl (by first | decide | omega) (by first | decide | omega) | exact opv_indexAddrSN rfl rfl (by omega) (by assumption) rfl | exact opv_indexAddrS rfl rfl (by omega) (by omega) (by assumption) rfl | exact opv_indexAddrE rfl (by assumption) (by omega) rfl (by first | decide | omega) (by first | decide | omega) | exact opv_indexAddrRN rfl rfl (by omega) | exact opv_indexAddrR rfl rfl (by omega) (by omega) | exact opv_indexAddrRA rfl (by omega) rfl (by first | decide | omega) (by first | decide | omega) | exact opv_indexAddrSP rfl rfl (by omega) (by omega) | exact opv_indexAddrSN rfl rfl (by omega) (by assumption) (by omega) | exact opv_indexAddrS rfl rfl (by omega) (by omega) (by assumption) (by omega)) rfl ?_
 refine tri_guard_run rfl rfl rfl ?_
 refine tri_v (by first | exact opv_load1 rfl rfl rfl | exact opv_loadA rfl rfl rfl | exact opv_loadE1 rfl (by assumption) rfl (by omega) rfl rfl | exact opv_loadEA rfl (by assumption) rfl (by omega) rfl rfl | exact opv_loadRX1 rfl rfl (by omega) rfl rfl | exact opv_loadRXA rfl rfl (by omega) rfl rfl rfl | exact opv_loadIX rfl rfl (by omega) | exact opv_loadR1 rfl rfl rfl | exact opv_loadRA rfl rfl rfl rfl) rfl ?_
 refine tri_guard_run rfl rfl rfl ?_
 refine tri_v (by first | exact opv_buildS rfl rfl | exact opv_buildA rfl rfl) rfl ?_
 refine tri_guard_run rfl rfl rfl ?_
 refine tri_v (by first | exact opv_eql rfl rfl | exact opv_eqlI rfl rfl rfl rfl rfl rfl | exact opv_eqlB rfl rfl | exact opv_eqlNil rfl rfl) rfl ?_
 refine tri_v (by first | exact opv_pick_t rfl rfl | exact opv_pick_f rfl rfl | exact opv_pick_bool rfl rfl rfl | exact opv_pick rfl rfl rfl) rfl ?_
 refine tM rfl rfl ?_
 refine tri_true rfl rfl ((by show [(sh.1.getD 0 default).x, (sh.1.getD 0 default).y] = _; rw [s3])) ?_
 refine tri_guard_run rfl rfl rfl (tM rfl rfl (tri_guard_run rfl rfl rfl ?_))
 refine tri_v (by first | exact opv_notD rfl | exact opv_not rfl) rfl ?_
 refine tri_v (by first | exact opv_pick_t rfl rfl | exact opv_pick_f rfl rfl | exact opv_pick_bool rfl rfl rfl | exact opv_pick rfl rfl rfl) rfl ?_
 refine tM rfl rfl ?_
 refine tri_bool 107 rfl (fun _ => ?_) (fun h => absurd h (by decide))
 refine tri_guard_run rfl rfl rfl (tM rfl rfl (tri_guard_run rfl rfl rfl ?_))
 refine tri_g (opg_call (xs := [_]) rfl (cells_right hr1 (by omega))) rfl ?_
 rintro _ _ I7 ⟨rfl, rfl, hI7⟩
 have hr1 := hr1.mono hI7
 refine tri_v (by first | exact opv_pick_t rfl rfl | exact opv_pick_f rfl rfl | exact opv_pick_bool rfl rfl rfl | exact opv_pick rfl rfl rfl) rfl ?_
 refine tM rfl rfl ?_
 refine tri_true rfl rfl (r1) ?_
 refine tri_guard_run rfl rfl rfl ?_
 refine tri_v (by first | exact opv_buildS rfl rfl | exact opv_buildA rfl rfl) rfl ?_
 refine tri_guard_run rfl rfl rfl ?_
 refine tri_v (by first | exact opv_buildS rfl rfl | exact opv_buildA rfl rfl) rfl ?_
 refine tri_guard_run rfl rfl rfl ?_
 refine tri_g (opg_buildSlice rfl rfl rfl rfl) rfl ?_
 rintro _ _ _ ⟨b114, rfl, rfl, rfl⟩
 refine tri_freezeBoxS ([⟨0, 0⟩, ⟨0, 0⟩] : List Cell) rfl fun J8 hJ8 hs8 => ?_
 refine tri_guard_run rfl rfl rfl ?_
 refine tri_g (opg_call (xs := [_]) rfl (cells_right hs8 (by decide))) rfl ?_
 rintro _ _ I8 ⟨rfl, rfl, hI8⟩
 have hr1 := hr1.mono fun _ h => hI8 (hJ8 h)
 refine tri_guard_run rfl rfl rfl ?_
 refine tri_v (by first | exact opv_notD rfl | exact opv_not rfl) rfl ?_
 refine tri_v (by first | exact opv_pick_t rfl rfl | exact opv_pick_f rfl rfl | exact opv_pick_bool rfl rfl rfl | exact opv_pick rfl rfl rfl) rfl ?_
 refine tM rfl rfl ?_
 refine tri_true rfl rfl (r2) ?_
 refine tri_guard_run rfl rfl rfl (tM rfl rfl (tri_guard_run rfl rfl rfl ?_))
 refine tri_v (by first | exact opv_buildS rfl rfl | exact opv_buildA rfl rfl) rfl ?_
 refine tri_guard_run rfl rfl rfl ?_
 refine tri_g (opg_call (xs := [_, _]) rfl (cells_has (c := (⟨0, 1⟩ : Cell)) hr1 (by omega))) rfl ?_
 rintro _ _ _ ⟨rfl, rfl, rfl⟩
 refine tri_v (by first | exact opv_pick_t rfl rfl | exact opv_pick_f rfl rfl | exact opv_pick_bool rfl rfl rfl | exact opv_pick rfl rfl rfl) rfl ?_
 refine tM rfl rfl ?_
 refine tri_true rfl rfl (h1) ?_
 refine tri_guard_run rfl rfl rfl (tM rfl rfl (tri_guard_run rfl rfl rfl ?_))
 refine tri_v (by first | exact opv_buildS rfl rfl | exact opv_buildA rfl rfl) rfl ?_
 refine tri_guard_run rfl rfl rfl ?_
 refine tri_g (opg_call (xs := [_, _]) rfl (cells_has (c := (⟨0, 0⟩ : Cell)) hr1 (by omega))) rfl ?_
 rintro _ _ _ ⟨rfl, rfl, rfl⟩
 refine tri_guard_run rfl rfl rfl ?_
 refine tri_v (by first | exact opv_notD rfl | exact opv_not rfl) rfl ?_
 refine tri_v (by first | exact opv_pick_t rfl rfl | exact opv_pick_f rfl rfl | exact opv_pick_bool rfl rfl rfl | exact opv_pick rfl rfl rfl) rfl ?_
 refine tA rfl rfl (tN (tT (tri_ret ?_)))
 refine tri_end A Suf.h rfl (.cons (rv_tmp rfl) .nil) ⟨?_, rfl, fun _ h => hI8 (hJ8 (hI7 (I06 h)))⟩
 exact congrArg Value.bool (decide_eq_true h2)
end Go.GL


set_option linter.unusedVariables false
namespace Go.GL
namespace R6
/-- A store behind what was made in it, or as it was. -/
def told (ns : List Node) (room : Int) (r : List Node × Int × Int) : List Node × Int × Int := if right ns room then (if r.2.2 ≠ 0 then (ns, 0, r.2.2) else r) else (ns, 0, 1)
def emptyT (ns : List Node) (room lv : Int) : List Node × Int × Int := if lv < 0 ∨ 42 < lv then (ns, 0, 1) else told ns room (R7.empty ns room lv.toNat)
/-! #### what is live -/
def keepKids (keep : List Bool) (x : Node) : List Bool := (((keep.set x.k0.toNat true).set x.k1.toNat true).set x.k2.toNat true).set x.k3.toNat true
/-- From the node m + 1 down. -/
def keepDown (ns : List Node) : Nat → List Bool → List Bool
 | 0, keep => keep
 | m + 1, keep => keepDown ns m (if keep.getD (m + 2) default = true then keepKids keep (ns.getD (m + 2) default) else keep)
def keepRoots (n : Nat) (roots : List Int) : List Bool := roots.foldl (fun keep r => keep.set r.toNat true) (((List.replicate n false).set 0 true).set 1 true)
def kept (ns : List Node) (roots : List Int) : List Bool := keepDown ns (ns.length - 2) (keepRoots ns.length roots)
def mapKids (to : List Int) (x : Node) : Node := ⟨x.lv, to.getD x.k0.toNat default, to.getD x.k1.toNat default, to.getD x.k2.toNat default, to.getD x.k3.toNat default, x.pop⟩
def liveStep (ns : List Node) (keep : List Bool) (s : List Int × List Node) (i : Nat) : List Int × List Node := if keep.getD i default = true then (s.1.set i (s.2.length : Nat), s.2 ++ [mapKids s.1 (ns.getD i default)]) else s
def liveAll (ns : List Node) (keep : List Bool) : List Int × List Node := (List.range ns.length).foldl (liveStep ns keep) (List.replicate ns.length 0, [])
/-- A store, places, an error. -/
def live (ns : List Node) (room : Int) (roots : List Int) : List Node × List Int × Int :=
 if right ns room ∧ ∀ i, i < roots.length → inS ns (roots.getD i default) then ((liveAll ns (kept ns roots)).2, roots.map fun r => (liveAll ns (kept ns roots)).1.getD r.toNat default, 0) else (ns, [], 1)
end R6
end Go.GL
namespace Go.GL
namespace R6
theorem right.kid {ns : List Node} {room : Int} (h : right ns room) {i : Nat} (hi : i < ns.length) :
  (0 ≤ (ns.getD i default).k0 ∧ (ns.getD i default).k0 < ns.length ∧ (2 ≤ i → (ns.getD i default).k0 < i)) ∧ (0 ≤ (ns.getD i default).k1 ∧ (ns.getD i default).k1 < ns.length ∧ (2 ≤ i → (ns.getD i default).k1 < i)) ∧
  (0 ≤ (ns.getD i default).k2 ∧ (ns.getD i default).k2 < ns.length ∧ (2 ≤ i → (ns.getD i default).k2 < i)) ∧ (0 ≤ (ns.getD i default).k3 ∧ (ns.getD i default).k3 < ns.length ∧ (2 ≤ i → (ns.getD i default).k3 < i)) := by
 have h2 := h.1.2.2.1
 by_cases hi2 : 2 ≤ i
 ·obtain ⟨⟨a0, b0, _⟩, ⟨a1, b1, _⟩, ⟨a2, b2, _⟩, ⟨a3, b3, _⟩, _⟩ := h.2 i hi hi2
  refine ⟨⟨a0, by omega, fun _ => b0⟩, ⟨a1, by omega, fun _ => b1⟩, ⟨a2, by omega, fun _ => b2⟩, ⟨a3, by omega, fun _ => b3⟩⟩
 ·rcases (by omega : i = 0 ∨ i = 1) with rfl | rfl
  ·rw [h.1.2.2.2.2.1]
   refine ⟨⟨?_, ?_, ?_⟩, ⟨?_, ?_, ?_⟩, ⟨?_, ?_, ?_⟩, ⟨?_, ?_, ?_⟩⟩ <;> simp [n0] <;> omega
  ·rw [h.1.2.2.2.2.2]
   refine ⟨⟨?_, ?_, ?_⟩, ⟨?_, ?_, ?_⟩, ⟨?_, ?_, ?_⟩, ⟨?_, ?_, ?_⟩⟩ <;> simp [n1] <;> omega
end R6
/-- What a function that tells a store, places and an error comes to. -/
def LiveR (r : List Node × List Int × Int) (room : Int) (A : List Asrt) (I : List Chunk) : Value → List Asrt → List Chunk → Prop :=
 fun v A' I' => ∃ a' c' a2 c2, v = .tuple [storeV a' r.1.length c' room, .slice a2 r.2.1.length c2, .int .i64 r.2.2].toArray ∧ StA I' a' c' r.1 ∧ SlAt I' a2 r.2.1 ∧ A = A' ∧ I ⊆ I'
end Go.GL


set_option linter.unusedVariables false
namespace Go.GL
/-- A store's head. -/
structure Sto where
 a : Option Addr
 len : Nat
 cap : Nat
 room : Int
 deriving Inhabited
instance : Enc Sto := ⟨fun s => [.slice s.a s.len s.cap, .int .i64 s.room], 2, fun _ => rfl, fun _ => rfl⟩
/-- A slice's head. -/
structure Sl where
 a : Option Addr
 len : Nat
 cap : Nat
 deriving Inhabited
instance : Enc Sl := ⟨fun s => [.slice s.a s.len s.cap], 1, fun _ => rfl, fun _ => rfl⟩
/-- Four numbers. -/
structure Four where
 r0 : Int
 r1 : Int
 r2 : Int
 r3 : Int
 deriving DecidableEq, Inhabited
instance : Enc Four := ⟨fun x => [.int .i64 x.r0, .int .i64 x.r1, .int .i64 x.r2, .int .i64 x.r3], 4, fun _ => rfl, fun _ => rfl⟩
instance : Dec Four := ⟨fun xs => ⟨xs.getD 0 0, xs.getD 1 0, xs.getD 2 0, xs.getD 3 0⟩, fun xs h => by
 match xs, h with
 | [a, b, c, d], _ => rfl⟩
namespace R6
end R6
end Go.GL


set_option linter.unusedVariables false
namespace Go.GL
/-- Slices that are read, side by side. -/
def SlsG {α : Type} [Enc α] (I : List Chunk) (LS : List Sl) (LL : List (List α)) : Prop := LS.length = LL.length ∧ ∀ i, i < LL.length → SlAt I (LS.getD i default).a (LL.getD i []) ∧ (LS.getD i default).len = (LL.getD i []).length
section
variable {α : Type} [Enc α] {I J : List Chunk} {LS : List Sl} {LL : List (List α)}
theorem SlsG.mono (h : SlsG I LS LL) (hI : I ⊆ J) : SlsG J LS LL := ⟨h.1, fun i hi => ⟨(h.2 i hi).1.mono hI, (h.2 i hi).2⟩⟩
theorem SlsG.nil : SlsG I [] ([] : List (List α)) := ⟨rfl, fun i hi => absurd hi (Nat.not_lt_zero _)⟩
theorem SlsG.cons {s : Sl} {l : List α} (h : SlsG I LS LL) (hs : SlAt I s.a l) (hl : s.len = l.length) : SlsG I (s :: LS) (l :: LL) := by
 refine ⟨by rw [List.length_cons, List.length_cons, h.1], fun i hi => ?_⟩
 cases i with
 | zero => exact ⟨hs, hl⟩
 | succ i => exact h.2 i (by rw [List.length_cons] at hi; omega)
end
end Go.GL


set_option linter.unusedVariables false
namespace Go.GL
open Go.Proofs
attribute [local irreducible] wpList Code.wp Exit.then Exit.inBlock Ends Tri TriH OpV OpG FnC epf wpAnyH
variable {A : List Asrt} {I : List Chunk}
theorem R1.of_len (l : List Cell) : (R1.of l).1.length ≤ 2000 := by
 unfold R1.of
 split
 ·split
  ·simp
  ·simp only; omega
 ·simp
theorem R1.wth_len (l : List Cell) (c : Cell) (alive : Bool) : (R1.wth l c alive).1.length ≤ 2000 := by
 unfold R1.wth
 split
 ·split
  ·split
   ·simp
   ·simp only; omega
  ·simp
 ·simp
theorem R1.shift_len (l : List Cell) (dx dy : Int) : (R1.shift l dx dy).1.length ≤ l.length := by
 unfold R1.shift
 split
 ·split
  ·simp
  ·simp
 ·simp
set_option maxHeartbeats 8000000 in
set_option maxRecDepth 100000 in
theorem law01_tells {raw any : List Cell} {c : Cell} {dx dy : Int} {a1 a2 : Option Addr} {cap1 cap2 : Nat} (hs : SlAt I a1 raw) (hc : RL.Cs raw) (ha : StA I a2 cap2 any) (h1 : I64 c.x) (h2 : I64 c.y) (h3 : I64 dx) (h4 : I64 dy) :
  FnC Try.prog 3 [.slice a1 raw.length cap1, .slice a2 any.length cap2, cellV c, .int .i64 dx, .int .i64 dy].toArray A I (fun v A' I' => v = .bool true ∧ A = A' ∧ I ⊆ I') := by
 have hset := RL.set_le raw
 have hp1 := pk_bd (c := c.x) (n := 16) (by omega)
 have hp2 := pk_bd (c := c.y) (n := 16) (by omega)
 have hp3 := pk_bd (c := dx) (n := 40) (by omega)
 have hp4 := pk_bd (c := dy) (n := 40) (by omega)
 skip
 skip
 refine fn_enter5 Try.func3 rfl Try.ntmps3 rfl fun w0 => ?_
 refine tS (tR ?_)
 first | refine tri_g (opg_box_agg rfl) rfl ?_ | refine tri_g (opg_box1 rfl rfl) rfl ?_
 rintro _ _ _ ⟨b7, rfl, rfl, rfl⟩
 refine tA rfl rfl (tN (tT (tS (tR ?_))))
 refine tri_g (opg_call (xs := []) rfl (law01_awake)) rfl ?_
 rintro _ _ I0 ⟨rfl, rfl, hI0⟩
 have ha2 := ha.mono hI0
 refine tA rfl rfl (tN (tT (tS (tR (tM rfl rfl (tA rfl rfl (tN ?_)))))))
 refine tT (tS (tS (tR (tM rfl rfl ?_))))
 refine tri_v (opv_len rfl) rfl ?_
 refine tri_v (opv_gtr rfl rfl) rfl ?_
 refine tN (tT ?_)
 refine tri_cut (fun F' A' J => ∃ lx : List Cell, (SlAt I0 a2 lx ∧ lx.length ≤ 300) ∧ F' = [(0, .slice a1 raw.length cap1), (3, .int .i64 dx), (4, .int .i64 dy), (7, pt b7 0), (11, .bool true), (12, .slice a2 lx.length cap2)] ∧ Box b7 [.int .i64 c.x, .int .i64 c.y] 25 :: A = A' ∧ I0 = J) ?_ ?_
 ·skip
  refine tri_cond_dec rfl (fun h => ?_) (fun h => ?_)
  ·skip
   refine tR (tM rfl rfl ?_)
   refine tri_v (opv_sliceHi rfl rfl (by omega) (by omega) ha2 rfl) rfl ?_
   skip
   refine tA rfl rfl (tN ?_)
   exact tri_cutEnd _ ⟨any.take 300, ⟨ha2.sl.take 300, by rw [List.length_take]; omega⟩, rfl, rfl, rfl⟩ ⟨rfl, rfl, rfl, rfl, rfl, rfl, trivial⟩
  ·refine tri_skip ?_
   exact tri_cutEnd _ ⟨any, ⟨ha2.sl, by omega⟩, rfl, rfl, rfl⟩ ⟨rfl, rfl, rfl, rfl, rfl, rfl, trivial⟩
 rintro _ _ _ ⟨lx, ⟨hsx, hlx⟩, rfl, rfl, rfl⟩
 skip
 refine tT (tS (tS (tR (tM rfl rfl ?_))))
 refine tri_g (opg_call (xs := [_]) rfl (law01_set (hs.mono hI0) hc)) rfl ?_
 rintro _ _ I1 ⟨b1, c1, rfl, hs1, rfl, hI1⟩
 refine tM rfl rfl ?_
 refine tri_g (opg_buildSlice rfl rfl rfl rfl) rfl ?_
 rintro _ _ _ ⟨b39, rfl, rfl, rfl⟩
 refine tri_v (opv_len rfl) rfl ?_
 refine tM rfl rfl (tN (tT (tri_block ?_)))
 refine tri_freezeBoxS ([⟨b1, (RL.set raw).length, c1⟩, ⟨a2, lx.length, cap2⟩] : List Sl) rfl fun I3 hI3 hL => ?_
 have hsls : SlsG I3 [⟨b1, (RL.set raw).length, c1⟩, ⟨a2, lx.length, cap2⟩] [RL.set raw, lx] := (SlsG.nil.cons (hsx.mono fun _ h => hI3 (hI1 h)) rfl).cons (hs1.mono hI3) rfl
 have hlen : ∀ i, i < 2 → (([RL.set raw, lx] : List (List Cell)).getD i []).length ≤ 300 := fun i hi => by
  match i, hi with
  | 0, _ => show (RL.set raw).length ≤ 300; omega
  | 1, _ => show lx.length ≤ 300; omega
 have hLS3 : ([⟨b1, (RL.set raw).length, c1⟩, ⟨a2, lx.length, cap2⟩] : List Sl).length = 2 := rfl
 have hLL3 : ([RL.set raw, lx] : List (List Cell)).length = 2 := rfl
 generalize ([⟨b1, (RL.set raw).length, c1⟩, ⟨a2, lx.length, cap2⟩] : List Sl) = LS at *
 generalize ([RL.set raw, lx] : List (List Cell)) = LL at *
 have hI03 : I ⊆ I3 := fun _ h => hI3 (hI1 (hI0 h))
 refine tri_sub (F' := [(3, .int .i64 dx), (4, .int .i64 dy), (7, pt b7 0), (11, .bool true), (39, .slice (some ⟨b39, 0, none⟩) 2 2), (40, .int .i64 2), (41, .int .i64 ((0 : Nat) : Int))]) ⟨rfl, rfl, rfl, rfl, rfl, rfl, rfl, trivial⟩ ?_
 refine loop_ind (G := Nat × List Chunk) (fun g => 2 - g.1) (fun g => g.1 ≤ 2 ∧ I3 ⊆ g.2) (fun g => [(3, .int .i64 dx), (4, .int .i64 dy), (7, pt b7 0), (11, .bool true), (39, .slice (some ⟨b39, 0, none⟩) 2 2), (40, .int .i64 2), (41, .int .i64 (g.1 : Nat))]) (fun _ => Box b7 [.int .i64 c.x, .int .i64 c.y] 25 :: A) (fun g => g.2) ?_ (0, I3) ⟨Nat.zero_le _, fun _ h => h⟩
 rintro ⟨i, J3⟩ ⟨hi, hJ3⟩ K hK
 simp only at hi hJ3 hK ⊢
 have hLj := hL.mono hJ3
 skip
 refine tS (tR ?_)
 refine tri_v (opv_lss rfl rfl) rfl ?_
 refine tN (tT (tS ?_))
 refine tri_cond_dec rfl (fun h => ?_) (fun h => ?_)
 ·have hil : i < 2 := by omega
  obtain ⟨hsi, hli⟩ := hsls.2 i (by omega)
  have hsi := hsi.mono hJ3
  have hl300 := hlen i hil
  generalize LL.getD i [] = l at *
  refine tri_skip (tT (tS (tri_block (tS (tR ?_)))))
  refine tri_v (by first | exact opv_indexAddrA rfl rfl (by first | decide | omega) (by first | decide | omega) | exact opv_indexAddrSN rfl rfl (by omega) (by assumption) rfl | exact opv_indexAddrS rfl rfl (by omega) (by omega) (by assumption) rfl | exact opv_indexAddrE rfl (by assumption) (by omega) rfl (by first | decide | omega) (by first | decide | omega) | exact opv_indexAddrRN rfl rfl (by omega) | exact opv_indexAddrR rfl rfl (by omega) (by omega) | exact opv_indexAddrRA rfl (by omega) rfl (by first | decide | omega) (by first | decide | omega) | exact opv_indexAddrSP rfl rfl (by omega) (by omega) | exact opv_indexAddrSN rfl rfl (by omega) (by assumption) (by omega) | exact opv_indexAddrS rfl rfl (by omega) (by omega) (by assumption) (by omega)) rfl ?_
  refine tri_v (by first | exact opv_load1 rfl rfl rfl | exact opv_loadA rfl rfl rfl | exact opv_loadE1 rfl (by assumption) rfl (by omega) rfl rfl | exact opv_loadEA rfl (by assumption) rfl (by omega) rfl rfl | exact opv_loadRX1 rfl rfl (by omega) rfl rfl | exact opv_loadRXA rfl rfl (by omega) rfl rfl rfl | exact opv_loadIX rfl rfl (by omega) | exact opv_loadR1 rfl rfl rfl | exact opv_loadRA rfl rfl rfl rfl) rfl ?_
  refine tA rfl rfl (tN (tT (tS (tR (tM rfl rfl ?_)))))
  rw [Int.toNat_natCast, hli]
  refine tri_g (opg_call (xs := [_]) rfl (cells_of hsi (by omega))) rfl ?_
  rintro _ _ J4 ⟨d1, q1, rfl, hd1, rfl, hJ4⟩
  have hsi := hsi.mono hJ4
  refine tM rfl rfl ?_
  refine tri_v (opv_extract rfl rfl) rfl ?_
  refine tri_v (opv_extract rfl rfl) rfl ?_
  refine tA rfl rfl (tA rfl rfl (tN (tT (tS (tR (tM rfl rfl ?_))))))
  refine tri_g (opg_call (xs := [_]) rfl (ref01_of hsi (by omega))) rfl ?_
  rintro _ _ J5 ⟨d2, q2, rfl, hd2, rfl, hJ5⟩
  have hsi := hsi.mono hJ5
  have hol := R1.of_len l
  refine tM rfl rfl ?_
  refine tri_v (opv_extract rfl rfl) rfl ?_
  refine tri_v (opv_extract rfl rfl) rfl ?_
  refine tA rfl rfl (tA rfl rfl (tN (tT (tS (tS (tR (tM rfl rfl ?_)))))))
  refine tM rfl rfl ?_
  refine tri_g (opg_call (xs := [_, _]) rfl (ref01_same (hd1.mono hJ5) hd2 (by omega))) rfl ?_
  rintro _ _ _ ⟨rfl, rfl, rfl⟩
  refine tri_v (by first | exact opv_notD rfl | exact opv_not rfl) rfl ?_
  refine tM rfl rfl ?_
  refine tri_false rfl rfl ((fun h => h rfl)) ?_
  refine tri_guard_run rfl rfl rfl (tM rfl rfl (tri_guard_run rfl rfl rfl (tM rfl rfl (tri_guard_run rfl rfl rfl ?_))))
  refine tri_v (by first | exact opv_neq rfl rfl | exact opv_neqI rfl rfl rfl rfl rfl rfl | exact opv_neqB rfl rfl) rfl ?_
  refine tri_v (by first | exact opv_pick_t rfl rfl | exact opv_pick_f rfl rfl | exact opv_pick_bool rfl rfl rfl | exact opv_pick rfl rfl rfl) rfl ?_
  refine tM rfl rfl ?_
  refine tri_false rfl rfl ((fun h => h rfl)) ?_
  refine tri_guard_run rfl rfl rfl (tM rfl rfl (tri_guard_run rfl rfl rfl ?_))
  refine tri_g (opg_call (xs := [_]) rfl (cells_right hsi (by omega))) rfl ?_
  rintro _ _ J6 ⟨rfl, rfl, hJ6⟩
  have hsi := hsi.mono hJ6
  refine tri_guard_run rfl rfl rfl (tM rfl rfl (tri_guard_run rfl rfl rfl ?_))
  refine tri_g (opg_call (xs := [_]) rfl (ref01_right hsi (by omega))) rfl ?_
  rintro _ _ _ ⟨rfl, rfl, rfl⟩
  refine tri_guard_run rfl rfl rfl ?_
  refine tri_v (by first | exact opv_neq rfl rfl | exact opv_neqI rfl rfl rfl rfl rfl rfl | exact opv_neqB rfl rfl) rfl ?_
  refine tri_v (by first | exact opv_pick_t rfl rfl | exact opv_pick_f rfl rfl | exact opv_pick_bool rfl rfl rfl | exact opv_pick rfl rfl rfl) rfl ?_
  refine tN (tT ?_)
  refine tri_cond_not rfl ((fun h => h rfl)) ?_
  refine tri_skip (tT (tS (tR (tM rfl rfl ?_))))
  refine tri_g (opg_call (xs := [_]) rfl (cells_box hsi (by omega))) rfl ?_
  rintro _ _ J7 ⟨rfl, rfl, hJ7⟩
  have hsi := hsi.mono hJ7
  refine tM rfl rfl ?_
  refine tri_v (opv_extract rfl rfl) rfl ?_
  refine tri_v (opv_extract rfl rfl) rfl ?_
  refine tri_g opg_alloc rfl ?_
  rintro _ _ _ ⟨b19, rfl, rfl, rfl⟩
  refine tri_g (opg_store rfl rfl rfl rfl rfl rfl) rfl ?_
  rintro _ _ _ ⟨rfl, rfl⟩
  refine tA rfl rfl (tN (tT (tS (tR (tM rfl rfl ?_)))))
  refine tri_g (opg_call (xs := [_]) rfl (ref01_box hsi (by omega))) rfl ?_
  rintro _ _ _ ⟨rfl, rfl, rfl⟩
  generalize R1.box l = bx at *
  refine tM rfl rfl ?_
  refine tri_v (opv_extract rfl rfl) rfl ?_
  refine tri_v (opv_extract rfl rfl) rfl ?_
  refine tri_g opg_alloc rfl ?_
  rintro _ _ _ ⟨b21, rfl, rfl, rfl⟩
  refine tri_g (opg_store rfl rfl rfl rfl rfl rfl) rfl ?_
  rintro _ _ _ ⟨rfl, rfl⟩
  refine tA rfl rfl (tN (tT (tS (tS (tR ?_)))))
  refine tri_v (by first | exact opv_load1 rfl rfl rfl | exact opv_loadA rfl rfl rfl | exact opv_loadE1 rfl (by assumption) rfl (by omega) rfl rfl | exact opv_loadEA rfl (by assumption) rfl (by omega) rfl rfl | exact opv_loadRX1 rfl rfl (by omega) rfl rfl | exact opv_loadRXA rfl rfl (by omega) rfl rfl rfl | exact opv_loadIX rfl rfl (by omega) | exact opv_loadR1 rfl rfl rfl | exact opv_loadRA rfl rfl rfl rfl) rfl ?_
  refine tri_v (by first | exact opv_load1 rfl rfl rfl | exact opv_loadA rfl rfl rfl | exact opv_loadE1 rfl (by assumption) rfl (by omega) rfl rfl | exact opv_loadEA rfl (by assumption) rfl (by omega) rfl rfl | exact opv_loadRX1 rfl rfl (by omega) rfl rfl | exact opv_loadRXA rfl rfl (by omega) rfl rfl rfl | exact opv_loadIX rfl rfl (by omega) | exact opv_loadR1 rfl rfl rfl | exact opv_loadRA rfl rfl rfl rfl) rfl ?_
  refine tri_v (by first | exact opv_neq rfl rfl | exact opv_neqI rfl rfl rfl rfl rfl rfl | exact opv_neqB rfl rfl) rfl ?_
  refine tM rfl rfl ?_
  refine tri_false rfl rfl ((fun h => h rfl)) ?_
  refine tri_guard_run rfl rfl rfl (tM rfl rfl (tri_guard_run rfl rfl rfl (tM rfl rfl (tri_guard_run rfl rfl rfl ?_))))
  refine tri_v (by first | exact opv_neq rfl rfl | exact opv_neqI rfl rfl rfl rfl rfl rfl | exact opv_neqB rfl rfl) rfl ?_
  refine tri_v (by first | exact opv_pick_t rfl rfl | exact opv_pick_f rfl rfl | exact opv_pick_bool rfl rfl rfl | exact opv_pick rfl rfl rfl) rfl ?_
  refine tN (tT ?_)
  refine tri_cond_not rfl ((fun h => h rfl)) ?_
  have h37 : J3 ⊆ J7 := fun _ h => hJ7 (hJ6 (hJ5 (hJ4 h)))
  refine tri_skip (tT (tS (tS ?_)))
  refine tri_drop (tri_drop ?_)
  refine tri_cut (fun F' A' J => ∃ b99, F' = [(3, .int .i64 dx), (4, .int .i64 dy), (7, pt b7 0), (11, .bool true), (14, .slice (LS.getD i default).a l.length (LS.getD i default).cap), (39, .slice (some ⟨b39, 0, none⟩) 2 2), (40, .int .i64 2), (41, .int .i64 (i : Nat)), (99, .slice (some ⟨b99, 0, none⟩) 2 2), (100, .int .i64 2), (101, .int .i64 ((0 : Nat) : Int))] ∧ A' = Box b99 [.int .i64 c.x, .int .i64 c.y, .int .i64 (pk c.x 16 - 8), .int .i64 (pk c.y 16 - 8)] 25 :: Box b7 [.int .i64 c.x, .int .i64 c.y] 25 :: A ∧ J7 = J) ?_ ?_
  ·refine tri_draw [0, 1, 2, 5, 6, 12, 3, 4, 7, 8, 9, 10, 11] rfl [] rfl mixed ?_
   refine th_take rfl rfl (by kernel_rfl)  (by first | exact opv_load1 rfl rfl rfl | exact opv_loadA rfl rfl rfl | exact opv_loadE1 rfl (by assumption) rfl (by omega) rfl rfl | exact opv_loadEA rfl (by assumption) rfl (by omega) rfl rfl | exact opv_loadRX1 rfl rfl (by omega) rfl rfl | exact opv_loadRXA rfl rfl (by omega) rfl rfl rfl | exact opv_loadIX rfl rfl (by omega) | exact opv_loadR1 rfl rfl rfl | exact opv_loadRA rfl rfl rfl rfl) ?_
   refine th_take rfl rfl (by kernel_rfl)  (by first | exact opv_fieldAddr rfl rfl | exact opv_fieldAddrE rfl (by assumption) (by omega) rfl | exact opv_fieldAddrR rfl (by omega) rfl | exact opv_fieldAddrP rfl rfl rfl) ?_
   refine th_take rfl rfl (by kernel_rfl)  (by first | exact opv_load1 rfl rfl rfl | exact opv_loadA rfl rfl rfl | exact opv_loadE1 rfl (by assumption) rfl (by omega) rfl rfl | exact opv_loadEA rfl (by assumption) rfl (by omega) rfl rfl | exact opv_loadRX1 rfl rfl (by omega) rfl rfl | exact opv_loadRXA rfl rfl (by omega) rfl rfl rfl | exact opv_loadIX rfl rfl (by omega) | exact opv_loadR1 rfl rfl rfl | exact opv_loadRA rfl rfl rfl rfl) ?_
   refine th_take rfl rfl (by kernel_rfl)  (by first | exact opv_fieldAddr rfl rfl | exact opv_fieldAddrE rfl (by assumption) (by omega) rfl | exact opv_fieldAddrR rfl (by omega) rfl | exact opv_fieldAddrP rfl rfl rfl) ?_
   refine th_take rfl rfl (by kernel_rfl)  (by first | exact opv_load1 rfl rfl rfl | exact opv_loadA rfl rfl rfl | exact opv_loadE1 rfl (by assumption) rfl (by omega) rfl rfl | exact opv_loadEA rfl (by assumption) rfl (by omega) rfl rfl | exact opv_loadRX1 rfl rfl (by omega) rfl rfl | exact opv_loadRXA rfl rfl (by omega) rfl rfl rfl | exact opv_loadIX rfl rfl (by omega) | exact opv_loadR1 rfl rfl rfl | exact opv_loadRA rfl rfl rfl rfl) ?_
   refine th_take rfl rfl (by kernel_rfl)  (opv_move rfl) ?_
   refine th_one (by kernel_rfl) (step_m rfl rfl (opg_call (xs := [_, _]) rfl (law01_pick h1.1 h1.2 (by decide))) ?_)
   rintro _ _ _ ⟨rfl, rfl, rfl⟩
   refine ⟨Suf.h, (by first | exact fun _ h => h | assumption | exact fun _ h => (by assumption : _ ⊆ _) ((by assumption : _ ⊆ _) h)), ?_⟩
   refine th_take rfl rfl (by kernel_rfl)  (by first | exact opv_sub rfl rfl (w64 (by omega) (by omega)) | exact opv_sub rfl rfl rfl) ?_
   refine th_one (by kernel_rfl) (step_m rfl rfl (opg_call (xs := [_, _]) rfl (law01_pick h2.1 h2.2 (by decide))) ?_)
   rintro _ _ _ ⟨rfl, rfl, rfl⟩
   refine ⟨Suf.h, (by first | exact fun _ h => h | assumption | exact fun _ h => (by assumption : _ ⊆ _) ((by assumption : _ ⊆ _) h)), ?_⟩
   refine th_take rfl rfl (by kernel_rfl)  (by first | exact opv_sub rfl rfl (w64 (by omega) (by omega)) | exact opv_sub rfl rfl rfl) ?_
   refine th_take rfl rfl (by kernel_rfl)  (by first | exact opv_buildS rfl rfl | exact opv_buildA rfl rfl) ?_
   refine th_one (by kernel_rfl) (step_m rfl rfl (opg_buildSlice rfl rfl rfl rfl) ?_)
   rintro _ _ _ ⟨b99, rfl, rfl, rfl⟩
   refine ⟨Suf.h, (by first | exact fun _ h => h | assumption | exact fun _ h => (by assumption : _ ⊆ _) ((by assumption : _ ⊆ _) h)), ?_⟩
   refine th_take rfl rfl (by kernel_rfl)  (opv_len rfl) ?_
   refine th_done (by kernel_rfl) ?_
   exact tri_cutEnd _ ⟨_, rfl, rfl, rfl⟩ ⟨rfl, rfl, rfl, rfl, rfl, rfl, rfl, rfl, rfl, rfl, rfl, trivial⟩
  rintro _ _ _ ⟨b99, rfl, rfl, rfl⟩
  refine tri_freezeBoxS ([c, ⟨pk c.x 16 - 8, pk c.y 16 - 8⟩] : List Cell) rfl fun J8 hJ8 hY => ?_
  have hYl : ([c, ⟨pk c.x 16 - 8, pk c.y 16 - 8⟩] : List Cell).length = 2 := rfl
  generalize ([c, ⟨pk c.x 16 - 8, pk c.y 16 - 8⟩] : List Cell) = Ys at *
  have hsi := hsi.mono hJ8
  have hLj := hLj.mono (fun _ h => hJ8 (h37 h))
  refine tT (tri_block ?_)
  refine tri_sub (F' := [(3, .int .i64 dx), (4, .int .i64 dy), (7, pt b7 0), (11, .bool true), (14, .slice (LS.getD i default).a l.length (LS.getD i default).cap), (39, .slice (some ⟨b39, 0, none⟩) 2 2), (40, .int .i64 2), (41, .int .i64 (i : Nat)), (99, .slice (some ⟨b99, 0, none⟩) 2 2), (100, .int .i64 2), (101, .int .i64 ((0 : Nat) : Int))]) ⟨rfl, rfl, rfl, rfl, rfl, rfl, rfl, rfl, rfl, rfl, rfl, trivial⟩ ?_
  refine loop_ind (G := Nat × List Chunk) (fun g => 2 - g.1) (fun g => g.1 ≤ 2 ∧ J8 ⊆ g.2) (fun g => [(3, .int .i64 dx), (4, .int .i64 dy), (7, pt b7 0), (11, .bool true), (14, .slice (LS.getD i default).a l.length (LS.getD i default).cap), (39, .slice (some ⟨b39, 0, none⟩) 2 2), (40, .int .i64 2), (41, .int .i64 (i : Nat)), (99, .slice (some ⟨b99, 0, none⟩) 2 2), (100, .int .i64 2), (101, .int .i64 (g.1 : Nat))]) (fun _ => Box b7 [.int .i64 c.x, .int .i64 c.y] 25 :: A) (fun g => g.2) ?_ (0, J8) ⟨Nat.zero_le _, fun _ h => h⟩
  rintro ⟨j, K1⟩ ⟨hj, hK1⟩ K2 hK2
  simp only at hj hK1 hK2 ⊢
  have hYj := hY.mono hK1
  have hsj := hsi.mono hK1
  skip
  refine tS (tR ?_)
  refine tri_v (opv_lss rfl rfl) rfl ?_
  refine tN (tT (tS ?_))
  refine tri_cond_dec rfl (fun h6 => ?_) (fun h6 => ?_)
  ·have hjl : j < 2 := by omega
   refine tri_skip (tT (tS (tri_block (tS (tR ?_)))))
   refine tri_v (by first | exact opv_indexAddrA rfl rfl (by first | decide | omega) (by first | decide | omega) | exact opv_indexAddrSN rfl rfl (by omega) (by assumption) rfl | exact opv_indexAddrS rfl rfl (by omega) (by omega) (by assumption) rfl | exact opv_indexAddrE rfl (by assumption) (by omega) rfl (by first | decide | omega) (by first | decide | omega) | exact opv_indexAddrRN rfl rfl (by omega) | exact opv_indexAddrR rfl rfl (by omega) (by omega) | exact opv_indexAddrRA rfl (by omega) rfl (by first | decide | omega) (by first | decide | omega) | exact opv_indexAddrSP rfl rfl (by omega) (by omega) | exact opv_indexAddrSN rfl rfl (by omega) (by assumption) (by omega) | exact opv_indexAddrS rfl rfl (by omega) (by omega) (by assumption) (by omega)) rfl ?_
   refine tri_v (by first | exact opv_load1 rfl rfl rfl | exact opv_loadA rfl rfl rfl | exact opv_loadE1 rfl (by assumption) rfl (by omega) rfl rfl | exact opv_loadEA rfl (by assumption) rfl (by omega) rfl rfl | exact opv_loadRX1 rfl rfl (by omega) rfl rfl | exact opv_loadRXA rfl rfl (by omega) rfl rfl rfl | exact opv_loadIX rfl rfl (by omega) | exact opv_loadR1 rfl rfl rfl | exact opv_loadRA rfl rfl rfl rfl) rfl ?_
   refine tri_g opg_alloc rfl ?_
   rintro _ _ _ ⟨b24, rfl, rfl, rfl⟩
   refine tri_g (opg_store rfl rfl rfl rfl rfl rfl) rfl ?_
   rintro _ _ _ ⟨rfl, rfl⟩
   refine tN (tT (tS (tS (tR ?_))))
   refine tri_g (opg_buildSlice rfl rfl rfl rfl) rfl ?_
   rintro _ _ _ ⟨b105, rfl, rfl, rfl⟩
   refine tri_v (opv_len rfl) rfl ?_
   refine tM rfl rfl (tN (tT (tri_block ?_)))
   refine tri_freezeBoxS ([true, false] : List Bool) rfl fun K3 hK3 hB => ?_
   have hBl : ([true, false] : List Bool).length = 2 := rfl
   generalize ([true, false] : List Bool) = Bs at *
   generalize Ys.getD (Int.toNat (j : Int)) default = y at *
   skip
   refine tri_sub (F' := [(3, .int .i64 dx), (4, .int .i64 dy), (7, pt b7 0), (11, .bool true), (14, .slice (LS.getD i default).a l.length (LS.getD i default).cap), (39, .slice (some ⟨b39, 0, none⟩) 2 2), (40, .int .i64 2), (41, .int .i64 (i : Nat)), (24, pt b24 0), (99, .slice (some ⟨b99, 0, none⟩) 2 2), (100, .int .i64 2), (101, .int .i64 (j : Nat)), (105, .slice (some ⟨b105, 0, none⟩) 2 2), (106, .int .i64 2), (107, .int .i64 ((0 : Nat) : Int))]) ⟨rfl, rfl, rfl, rfl, rfl, rfl, rfl, rfl, rfl, rfl, rfl, rfl, rfl, rfl, rfl, trivial⟩ ?_
   refine loop_ind (G := Nat × List Chunk) (fun g => 2 - g.1) (fun g => g.1 ≤ 2 ∧ K3 ⊆ g.2) (fun g => [(3, .int .i64 dx), (4, .int .i64 dy), (7, pt b7 0), (11, .bool true), (14, .slice (LS.getD i default).a l.length (LS.getD i default).cap), (39, .slice (some ⟨b39, 0, none⟩) 2 2), (40, .int .i64 2), (41, .int .i64 (i : Nat)), (24, pt b24 0), (99, .slice (some ⟨b99, 0, none⟩) 2 2), (100, .int .i64 2), (101, .int .i64 (j : Nat)), (105, .slice (some ⟨b105, 0, none⟩) 2 2), (106, .int .i64 2), (107, .int .i64 (g.1 : Nat))]) (fun _ => Box b24 [.int .i64 y.x, .int .i64 y.y] 25 :: Box b7 [.int .i64 c.x, .int .i64 c.y] 25 :: A) (fun g => g.2) ?_ (0, K3) ⟨Nat.zero_le _, fun _ h => h⟩
   rintro ⟨k, K4⟩ ⟨hk, hK4⟩ K5 hK5
   simp only at hk hK4 hK5 ⊢
   have hBk := hB.mono hK4
   have hsk := hsj.mono fun _ h => hK4 (hK3 h)
   skip
   refine tS (tR ?_)
   refine tri_v (opv_lss rfl rfl) rfl ?_
   refine tN (tT (tS ?_))
   refine tri_cond_dec rfl (fun h7 => ?_) (fun h7 => ?_)
   ·have hkl : k < 2 := by omega
    refine tri_skip (tT (tS (tri_block (tS (tR ?_)))))
    refine tri_v (by first | exact opv_indexAddrA rfl rfl (by first | decide | omega) (by first | decide | omega) | exact opv_indexAddrSN rfl rfl (by omega) (by assumption) rfl | exact opv_indexAddrS rfl rfl (by omega) (by omega) (by assumption) rfl | exact opv_indexAddrE rfl (by assumption) (by omega) rfl (by first | decide | omega) (by first | decide | omega) | exact opv_indexAddrRN rfl rfl (by omega) | exact opv_indexAddrR rfl rfl (by omega) (by omega) | exact opv_indexAddrRA rfl (by omega) rfl (by first | decide | omega) (by first | decide | omega) | exact opv_indexAddrSP rfl rfl (by omega) (by omega) | exact opv_indexAddrSN rfl rfl (by omega) (by assumption) (by omega) | exact opv_indexAddrS rfl rfl (by omega) (by omega) (by assumption) (by omega)) rfl ?_
    refine tri_v (by first | exact opv_load1 rfl rfl rfl | exact opv_loadA rfl rfl rfl | exact opv_loadE1 rfl (by assumption) rfl (by omega) rfl rfl | exact opv_loadEA rfl (by assumption) rfl (by omega) rfl rfl | exact opv_loadRX1 rfl rfl (by omega) rfl rfl | exact opv_loadRXA rfl rfl (by omega) rfl rfl rfl | exact opv_loadIX rfl rfl (by omega) | exact opv_loadR1 rfl rfl rfl | exact opv_loadRA rfl rfl rfl rfl) rfl ?_
    refine tA rfl rfl (tN (tT (tS (tR (tM rfl rfl ?_)))))
    refine tri_v (by first | exact opv_load1 rfl rfl rfl | exact opv_loadA rfl rfl rfl | exact opv_loadE1 rfl (by assumption) rfl (by omega) rfl rfl | exact opv_loadEA rfl (by assumption) rfl (by omega) rfl rfl | exact opv_loadRX1 rfl rfl (by omega) rfl rfl | exact opv_loadRXA rfl rfl (by omega) rfl rfl rfl | exact opv_loadIX rfl rfl (by omega) | exact opv_loadR1 rfl rfl rfl | exact opv_loadRA rfl rfl rfl rfl) rfl ?_
    refine tM rfl rfl ?_
    refine tri_g (opg_call (xs := [_, _, _]) rfl (cells_with (c := y) (alive := Bs.getD k default) hsk (by omega))) rfl ?_
    rintro _ _ L1 ⟨u1, v1, rfl, hu1, rfl, hL1⟩
    refine tM rfl rfl ?_
    refine tri_v (opv_extract rfl rfl) rfl ?_
    refine tri_v (opv_extract rfl rfl) rfl ?_
    refine tA rfl rfl (tA rfl rfl (tN (tT (tS (tR (tM rfl rfl ?_))))))
    refine tri_v (by first | exact opv_load1 rfl rfl rfl | exact opv_loadA rfl rfl rfl | exact opv_loadE1 rfl (by assumption) rfl (by omega) rfl rfl | exact opv_loadEA rfl (by assumption) rfl (by omega) rfl rfl | exact opv_loadRX1 rfl rfl (by omega) rfl rfl | exact opv_loadRXA rfl rfl (by omega) rfl rfl rfl | exact opv_loadIX rfl rfl (by omega) | exact opv_loadR1 rfl rfl rfl | exact opv_loadRA rfl rfl rfl rfl) rfl ?_
    refine tM rfl rfl ?_
    refine tri_g (opg_call (xs := [_, _, _]) rfl (ref01_with (c := y) (alive := Bs.getD k default) (hsk.mono hL1) (by omega))) rfl ?_
    rintro _ _ L2 ⟨u2, v2, rfl, hu2, rfl, hL2⟩
    have hwl := R1.wth_len l y (Bs.getD k default)
    refine tM rfl rfl ?_
    refine tri_v (opv_extract rfl rfl) rfl ?_
    refine tri_v (opv_extract rfl rfl) rfl ?_
    refine tA rfl rfl (tA rfl rfl (tN (tT (tS (tR (tM rfl rfl (tM rfl rfl ?_)))))))
    refine tri_g (opg_call (xs := [_, _]) rfl (ref01_same (hu1.mono hL2) hu2 (by omega))) rfl ?_
    rintro _ _ _ ⟨rfl, rfl, rfl⟩
    refine tri_v (by first | exact opv_notD rfl | exact opv_not rfl) rfl ?_
    refine tM rfl rfl ?_
    refine tri_false rfl rfl ((fun h => h rfl)) ?_
    refine tri_guard_run rfl rfl rfl (tM rfl rfl (tri_guard_run rfl rfl rfl (tM rfl rfl (tri_guard_run rfl rfl rfl ?_))))
    refine tri_v (by first | exact opv_neq rfl rfl | exact opv_neqI rfl rfl rfl rfl rfl rfl | exact opv_neqB rfl rfl) rfl ?_
    refine tri_v (by first | exact opv_pick_t rfl rfl | exact opv_pick_f rfl rfl | exact opv_pick_bool rfl rfl rfl | exact opv_pick rfl rfl rfl) rfl ?_
    refine tN (tT ?_)
    refine tri_cond_not rfl ((fun h => h rfl)) ?_
    refine tri_skip ?_
    refine tri_inBlock ?_
    refine tT (tR ?_)
    refine tri_v (by first | exact opv_add rfl rfl (w64 (by omega) (by omega))) rfl ?_
    refine tM rfl rfl (tN (tT ?_))
    refine tri_sub ?_ (hK5 (k + 1, L2) ⟨by simp only; omega, fun _ h => hL2 (hL1 (hK4 h))⟩ (by simp only; omega))
    exact ⟨rfl, rfl, rfl, rfl, rfl, rfl, rfl, rfl, rfl, rfl, rfl, rfl, rfl, rfl, rfl, trivial⟩
   ·clear hK5
    refine tri_exit ?_
    refine tri_then_exit ?_
    refine tri_then_exit ?_
    refine tri_inBlock_hit rfl ?_
    refine tT (tS ?_)
    refine tri_cut (fun F' A' J => F' = [(3, .int .i64 dx), (4, .int .i64 dy), (7, pt b7 0), (11, .bool true), (14, .slice (LS.getD i default).a l.length (LS.getD i default).cap), (39, .slice (some ⟨b39, 0, none⟩) 2 2), (40, .int .i64 2), (41, .int .i64 (i : Nat)), (99, .slice (some ⟨b99, 0, none⟩) 2 2), (100, .int .i64 2), (101, .int .i64 (j : Nat)), (141, .bool (decide (decide (y ∈ l) ≠ decide (y ∈ l))))] ∧ A' = Box b24 [.int .i64 y.x, .int .i64 y.y] 25 :: Box b7 [.int .i64 c.x, .int .i64 c.y] 25 :: A ∧ K4 = J) ?_ ?_
    ·refine tri_draw [0, 1, 3, 4, 2, 5, 6] rfl [] rfl mixed ?_
     refine th_take rfl rfl (by kernel_rfl)  (opv_move rfl) ?_
     refine th_take rfl rfl (by kernel_rfl)  (by first | exact opv_load1 rfl rfl rfl | exact opv_loadA rfl rfl rfl | exact opv_loadE1 rfl (by assumption) rfl (by omega) rfl rfl | exact opv_loadEA rfl (by assumption) rfl (by omega) rfl rfl | exact opv_loadRX1 rfl rfl (by omega) rfl rfl | exact opv_loadRXA rfl rfl (by omega) rfl rfl rfl | exact opv_loadIX rfl rfl (by omega) | exact opv_loadR1 rfl rfl rfl | exact opv_loadRA rfl rfl rfl rfl) ?_
     refine th_take rfl rfl (by kernel_rfl)  (opv_move rfl) ?_
     refine th_take rfl rfl (by kernel_rfl)  (by first | exact opv_load1 rfl rfl rfl | exact opv_loadA rfl rfl rfl | exact opv_loadE1 rfl (by assumption) rfl (by omega) rfl rfl | exact opv_loadEA rfl (by assumption) rfl (by omega) rfl rfl | exact opv_loadRX1 rfl rfl (by omega) rfl rfl | exact opv_loadRXA rfl rfl (by omega) rfl rfl rfl | exact opv_loadIX rfl rfl (by omega) | exact opv_loadR1 rfl rfl rfl | exact opv_loadRA rfl rfl rfl rfl) ?_
     refine th_one (by kernel_rfl) (step_m rfl rfl (opg_call (xs := [_, _]) rfl (cells_has (c := y) hsk (by omega))) ?_)
     rintro _ _ _ ⟨rfl, rfl, rfl⟩
     refine ⟨Suf.h, (by first | exact fun _ h => h | assumption | exact fun _ h => (by assumption : _ ⊆ _) ((by assumption : _ ⊆ _) h)), ?_⟩
     refine th_one (by kernel_rfl) (step_m rfl rfl (opg_call (xs := [_, _]) rfl (ref01_has (c := y) hsk (by omega))) ?_)
     rintro _ _ _ ⟨rfl, rfl, rfl⟩
     refine ⟨Suf.h, (by first | exact fun _ h => h | assumption | exact fun _ h => (by assumption : _ ⊆ _) ((by assumption : _ ⊆ _) h)), ?_⟩
     refine th_take rfl rfl (by kernel_rfl)  (by first | exact opv_neq rfl rfl | exact opv_neqI rfl rfl rfl rfl rfl rfl | exact opv_neqB rfl rfl) ?_
     refine th_done (by kernel_rfl) ?_
     exact tri_cutEnd _ ⟨rfl, rfl, rfl⟩ ⟨rfl, rfl, rfl, rfl, rfl, rfl, rfl, rfl, rfl, rfl, rfl, rfl, trivial⟩
    rintro _ _ _ ⟨rfl, rfl, rfl⟩
    skip
    refine tT ?_
    refine tri_cond_not rfl ((fun h => h rfl)) ?_
    refine tri_skip ?_
    refine tri_inBlock ?_
    refine tT (tR ?_)
    refine tri_v (by first | exact opv_add rfl rfl (w64 (by omega) (by omega))) rfl ?_
    refine tM rfl rfl (tN (tT ?_))
    refine tri_drop ?_
    refine tri_sub ?_ (hK2 (j + 1, K4) ⟨by simp only; omega, fun _ h => hK4 (hK3 (hK1 h))⟩ (by simp only; omega))
    exact ⟨rfl, rfl, rfl, rfl, rfl, rfl, rfl, rfl, rfl, rfl, rfl, trivial⟩
  ·clear hK2
   refine tri_exit ?_
   refine tri_then_exit ?_
   refine tri_then_exit ?_
   refine tri_inBlock_hit rfl ?_
   refine tT (tS (tR (tM rfl rfl (tM rfl rfl ?_))))
   refine tri_v (by first | exact opv_buildS rfl rfl | exact opv_buildA rfl rfl) rfl ?_
   refine tM rfl rfl ?_
   refine tri_g (opg_call (xs := [_, _]) rfl (law01_pick h3.1 h3.2 (by decide))) rfl ?_
   rintro _ _ _ ⟨rfl, rfl, rfl⟩
   refine tM rfl rfl ?_
   refine tri_g (opg_call (xs := [_, _]) rfl (law01_pick h4.1 h4.2 (by decide))) rfl ?_
   rintro _ _ _ ⟨rfl, rfl, rfl⟩
   refine tri_v (by first | exact opv_negE rfl (by omega) (by omega)) rfl ?_
   refine tri_v (by first | exact opv_buildS rfl rfl | exact opv_buildA rfl rfl) rfl ?_
   refine tri_g (opg_buildSlice rfl rfl rfl rfl) rfl ?_
   rintro _ _ _ ⟨b152, rfl, rfl, rfl⟩
   refine tri_v (opv_len rfl) rfl ?_
   refine tM rfl rfl (tN (tT (tri_block ?_)))
   refine tri_freezeBoxS ([⟨dx, dy⟩, ⟨pk dx 40, -pk dy 40⟩] : List Cell) rfl fun M1 hM1 hD => ?_
   have hDl : ([⟨dx, dy⟩, ⟨pk dx 40, -pk dy 40⟩] : List Cell).length = 2 := rfl
   have hD64 : ∀ j, j < 2 → I64 (([⟨dx, dy⟩, ⟨pk dx 40, -pk dy 40⟩] : List Cell).getD j default).x ∧ I64 (([⟨dx, dy⟩, ⟨pk dx 40, -pk dy 40⟩] : List Cell).getD j default).y := fun j hj => by
    match j, hj with
    | 0, _ => exact ⟨h3, h4⟩
    | 1, _ => exact ⟨⟨show -9223372036854775808 ≤ pk dx 40 by omega, show pk dx 40 ≤ 9223372036854775807 by omega⟩, ⟨show -9223372036854775808 ≤ -pk dy 40 by omega, show -pk dy 40 ≤ 9223372036854775807 by omega⟩⟩
   generalize ([⟨dx, dy⟩, ⟨pk dx 40, -pk dy 40⟩] : List Cell) = Ds at *
   have hsj := hsj.mono hM1
   refine tri_sub (F' := [(3, .int .i64 dx), (4, .int .i64 dy), (7, pt b7 0), (11, .bool true), (14, .slice (LS.getD i default).a l.length (LS.getD i default).cap), (39, .slice (some ⟨b39, 0, none⟩) 2 2), (40, .int .i64 2), (41, .int .i64 (i : Nat)), (152, .slice (some ⟨b152, 0, none⟩) 2 2), (153, .int .i64 2), (154, .int .i64 ((0 : Nat) : Int))]) ⟨rfl, rfl, rfl, rfl, rfl, rfl, rfl, rfl, rfl, rfl, rfl, trivial⟩ ?_
   refine loop_ind (G := Nat × List Chunk) (fun g => 2 - g.1) (fun g => g.1 ≤ 2 ∧ M1 ⊆ g.2) (fun g => [(3, .int .i64 dx), (4, .int .i64 dy), (7, pt b7 0), (11, .bool true), (14, .slice (LS.getD i default).a l.length (LS.getD i default).cap), (39, .slice (some ⟨b39, 0, none⟩) 2 2), (40, .int .i64 2), (41, .int .i64 (i : Nat)), (152, .slice (some ⟨b152, 0, none⟩) 2 2), (153, .int .i64 2), (154, .int .i64 (g.1 : Nat))]) (fun _ => Box b7 [.int .i64 c.x, .int .i64 c.y] 25 :: A) (fun g => g.2) ?_ (0, M1) ⟨Nat.zero_le _, fun _ h => h⟩
   rintro ⟨k, M2⟩ ⟨hk, hM2⟩ K5 hK5
   simp only at hk hM2 hK5 ⊢
   have hDk := hD.mono hM2
   have hsk := hsj.mono hM2
   skip
   refine tS (tR ?_)
   refine tri_v (opv_lss rfl rfl) rfl ?_
   refine tN (tT (tS ?_))
   refine tri_cond_dec rfl (fun h7 => ?_) (fun h7 => ?_)
   ·have hkl : k < 2 := by omega
    obtain ⟨g1, g2⟩ := hD64 k hkl
    refine tri_skip (tT (tS (tri_block (tS (tR ?_)))))
    refine tri_v (by first | exact opv_indexAddrA rfl rfl (by first | decide | omega) (by first | decide | omega) | exact opv_indexAddrSN rfl rfl (by omega) (by assumption) rfl | exact opv_indexAddrS rfl rfl (by omega) (by omega) (by assumption) rfl | exact opv_indexAddrE rfl (by assumption) (by omega) rfl (by first | decide | omega) (by first | decide | omega) | exact opv_indexAddrRN rfl rfl (by omega) | exact opv_indexAddrR rfl rfl (by omega) (by omega) | exact opv_indexAddrRA rfl (by omega) rfl (by first | decide | omega) (by first | decide | omega) | exact opv_indexAddrSP rfl rfl (by omega) (by omega) | exact opv_indexAddrSN rfl rfl (by omega) (by assumption) (by omega) | exact opv_indexAddrS rfl rfl (by omega) (by omega) (by assumption) (by omega)) rfl ?_
    refine tri_v (by first | exact opv_load1 rfl rfl rfl | exact opv_loadA rfl rfl rfl | exact opv_loadE1 rfl (by assumption) rfl (by omega) rfl rfl | exact opv_loadEA rfl (by assumption) rfl (by omega) rfl rfl | exact opv_loadRX1 rfl rfl (by omega) rfl rfl | exact opv_loadRXA rfl rfl (by omega) rfl rfl rfl | exact opv_loadIX rfl rfl (by omega) | exact opv_loadR1 rfl rfl rfl | exact opv_loadRA rfl rfl rfl rfl) rfl ?_
    refine tri_g opg_alloc rfl ?_
    rintro _ _ _ ⟨b28, rfl, rfl, rfl⟩
    refine tri_g (opg_store rfl rfl rfl rfl rfl rfl) rfl ?_
    rintro _ _ _ ⟨rfl, rfl⟩
    refine tN (tT (tS (tR (tM rfl rfl ?_))))
    refine tri_v (by first | exact opv_indexAddrA rfl rfl (by first | decide | omega) (by first | decide | omega) | exact opv_indexAddrSN rfl rfl (by omega) (by assumption) rfl | exact opv_indexAddrS rfl rfl (by omega) (by omega) (by assumption) rfl | exact opv_indexAddrE rfl (by assumption) (by omega) rfl (by first | decide | omega) (by first | decide | omega) | exact opv_indexAddrRN rfl rfl (by omega) | exact opv_indexAddrR rfl rfl (by omega) (by omega) | exact opv_indexAddrRA rfl (by omega) rfl (by first | decide | omega) (by first | decide | omega) | exact opv_indexAddrSP rfl rfl (by omega) (by omega) | exact opv_indexAddrSN rfl rfl (by omega) (by assumption) (by omega) | exact opv_indexAddrS rfl rfl (by omega) (by omega) (by assumption) (by omega)) rfl ?_
    refine tri_v (by first | exact opv_load1 rfl rfl rfl | exact opv_loadA rfl rfl rfl | exact opv_loadE1 rfl (by assumption) rfl (by omega) rfl rfl | exact opv_loadEA rfl (by assumption) rfl (by omega) rfl rfl | exact opv_loadRX1 rfl rfl (by omega) rfl rfl | exact opv_loadRXA rfl rfl (by omega) rfl rfl rfl | exact opv_loadIX rfl rfl (by omega) | exact opv_loadR1 rfl rfl rfl | exact opv_loadRA rfl rfl rfl rfl) rfl ?_
    refine tri_v (by first | exact opv_indexAddrA rfl rfl (by first | decide | omega) (by first | decide | omega) | exact opv_indexAddrSN rfl rfl (by omega) (by assumption) rfl | exact opv_indexAddrS rfl rfl (by omega) (by omega) (by assumption) rfl | exact opv_indexAddrE rfl (by assumption) (by omega) rfl (by first | decide | omega) (by first | decide | omega) | exact opv_indexAddrRN rfl rfl (by omega) | exact opv_indexAddrR rfl rfl (by omega) (by omega) | exact opv_indexAddrRA rfl (by omega) rfl (by first | decide | omega) (by first | decide | omega) | exact opv_indexAddrSP rfl rfl (by omega) (by omega) | exact opv_indexAddrSN rfl rfl (by omega) (by assumption) (by omega) | exact opv_indexAddrS rfl rfl (by omega) (by omega) (by assumption) (by omega)) rfl ?_
    refine tri_v (by first | exact opv_load1 rfl rfl rfl | exact opv_loadA rfl rfl rfl | exact opv_loadE1 rfl (by assumption) rfl (by omega) rfl rfl | exact opv_loadEA rfl (by assumption) rfl (by omega) rfl rfl | exact opv_loadRX1 rfl rfl (by omega) rfl rfl | exact opv_loadRXA rfl rfl (by omega) rfl rfl rfl | exact opv_loadIX rfl rfl (by omega) | exact opv_loadR1 rfl rfl rfl | exact opv_loadRA rfl rfl rfl rfl) rfl ?_
    rw [Int.toNat_natCast]
    generalize Ds.getD k default = y at *
    refine tri_g (opg_call (xs := [_, _, _]) rfl (cells_shift hsk (by omega) g1 g2)) rfl ?_
    rintro _ _ L1 ⟨u1, v1, rfl, hu1, rfl, hL1⟩
    refine tM rfl rfl ?_
    refine tri_v (opv_extract rfl rfl) rfl ?_
    refine tri_v (opv_extract rfl rfl) rfl ?_
    refine tA rfl rfl (tA rfl rfl (tN (tT (tS (tR (tM rfl rfl ?_))))))
    refine tri_v (by first | exact opv_indexAddrA rfl rfl (by first | decide | omega) (by first | decide | omega) | exact opv_indexAddrSN rfl rfl (by omega) (by assumption) rfl | exact opv_indexAddrS rfl rfl (by omega) (by omega) (by assumption) rfl | exact opv_indexAddrE rfl (by assumption) (by omega) rfl (by first | decide | omega) (by first | decide | omega) | exact opv_indexAddrRN rfl rfl (by omega) | exact opv_indexAddrR rfl rfl (by omega) (by omega) | exact opv_indexAddrRA rfl (by omega) rfl (by first | decide | omega) (by first | decide | omega) | exact opv_indexAddrSP rfl rfl (by omega) (by omega) | exact opv_indexAddrSN rfl rfl (by omega) (by assumption) (by omega) | exact opv_indexAddrS rfl rfl (by omega) (by omega) (by assumption) (by omega)) rfl ?_
    refine tri_v (by first | exact opv_load1 rfl rfl rfl | exact opv_loadA rfl rfl rfl | exact opv_loadE1 rfl (by assumption) rfl (by omega) rfl rfl | exact opv_loadEA rfl (by assumption) rfl (by omega) rfl rfl | exact opv_loadRX1 rfl rfl (by omega) rfl rfl | exact opv_loadRXA rfl rfl (by omega) rfl rfl rfl | exact opv_loadIX rfl rfl (by omega) | exact opv_loadR1 rfl rfl rfl | exact opv_loadRA rfl rfl rfl rfl) rfl ?_
    refine tri_v (by first | exact opv_indexAddrA rfl rfl (by first | decide | omega) (by first | decide | omega) | exact opv_indexAddrSN rfl rfl (by omega) (by assumption) rfl | exact opv_indexAddrS rfl rfl (by omega) (by omega) (by assumption) rfl | exact opv_indexAddrE rfl (by assumption) (by omega) rfl (by first | decide | omega) (by first | decide | omega) | exact opv_indexAddrRN rfl rfl (by omega) | exact opv_indexAddrR rfl rfl (by omega) (by omega) | exact opv_indexAddrRA rfl (by omega) rfl (by first | decide | omega) (by first | decide | omega) | exact opv_indexAddrSP rfl rfl (by omega) (by omega) | exact opv_indexAddrSN rfl rfl (by omega) (by assumption) (by omega) | exact opv_indexAddrS rfl rfl (by omega) (by omega) (by assumption) (by omega)) rfl ?_
    refine tri_v (by first | exact opv_load1 rfl rfl rfl | exact opv_loadA rfl rfl rfl | exact opv_loadE1 rfl (by assumption) rfl (by omega) rfl rfl | exact opv_loadEA rfl (by assumption) rfl (by omega) rfl rfl | exact opv_loadRX1 rfl rfl (by omega) rfl rfl | exact opv_loadRXA rfl rfl (by omega) rfl rfl rfl | exact opv_loadIX rfl rfl (by omega) | exact opv_loadR1 rfl rfl rfl | exact opv_loadRA rfl rfl rfl rfl) rfl ?_
    refine tri_g (opg_call (xs := [_, _, _]) rfl (ref01_shift (hsk.mono hL1) (by omega))) rfl ?_
    rintro _ _ L2 ⟨u2, v2, rfl, hu2, rfl, hL2⟩
    have hwl := R1.shift_len l y.x y.y
    refine tM rfl rfl ?_
    refine tri_v (opv_extract rfl rfl) rfl ?_
    refine tri_v (opv_extract rfl rfl) rfl ?_
    refine tA rfl rfl (tA rfl rfl (tN (tT (tS (tR (tM rfl rfl (tM rfl rfl ?_)))))))
    refine tri_g (opg_call (xs := [_, _]) rfl (ref01_same (hu1.mono hL2) hu2 (by omega))) rfl ?_
    rintro _ _ _ ⟨rfl, rfl, rfl⟩
    refine tri_v (by first | exact opv_notD rfl | exact opv_not rfl) rfl ?_
    refine tM rfl rfl ?_
    refine tri_false rfl rfl ((fun h => h rfl)) ?_
    refine tri_guard_run rfl rfl rfl (tM rfl rfl (tri_guard_run rfl rfl rfl (tM rfl rfl (tri_guard_run rfl rfl rfl ?_))))
    refine tri_v (by first | exact opv_neq rfl rfl | exact opv_neqI rfl rfl rfl rfl rfl rfl | exact opv_neqB rfl rfl) rfl ?_
    refine tri_v (by first | exact opv_pick_t rfl rfl | exact opv_pick_f rfl rfl | exact opv_pick_bool rfl rfl rfl | exact opv_pick rfl rfl rfl) rfl ?_
    refine tN (tT ?_)
    refine tri_cond_not rfl ((fun h => h rfl)) ?_
    refine tri_skip ?_
    refine tri_inBlock ?_
    refine tT (tR ?_)
    refine tri_v (by first | exact opv_add rfl rfl (w64 (by omega) (by omega))) rfl ?_
    refine tM rfl rfl (tN (tT ?_))
    refine tri_drop ?_
    refine tri_sub ?_ (hK5 (k + 1, L2) ⟨by simp only; omega, fun _ h => hL2 (hL1 (hM2 h))⟩ (by simp only; omega))
    exact ⟨rfl, rfl, rfl, rfl, rfl, rfl, rfl, rfl, rfl, rfl, rfl, trivial⟩
   ·clear hK5
    refine tri_exit ?_
    refine tri_then_exit ?_
    refine tri_then_exit ?_
    refine tri_inBlock_hit rfl ?_
    refine tri_inBlock ?_
    refine tT (tR ?_)
    refine tri_v (by first | exact opv_add rfl rfl (w64 (by omega) (by omega))) rfl ?_
    refine tM rfl rfl (tN (tT ?_))
    refine tri_sub ?_ (hK (i + 1, M2) ⟨by simp only; omega, fun _ h => hM2 (hM1 (hK1 (hJ8 (h37 (hJ3 h)))))⟩ (by simp only; omega))
    exact ⟨rfl, rfl, rfl, rfl, rfl, rfl, rfl, trivial⟩
 ·clear hK
  refine tri_exit ?_
  refine tri_then_exit ?_
  refine tri_then_exit ?_
  refine tri_inBlock_hit rfl ?_
  refine tT (tS (tR (tM rfl rfl (tA rfl rfl (tN (tT (tri_ret ?_)))))))
  refine tri_end A Suf.h rfl (.cons (rv_tmp rfl) .nil) ⟨rfl, rfl, fun _ h => hJ3 (hI03 h)⟩
end Go.GL


set_option linter.unusedVariables false
namespace Go.GL
open Go.Proofs
theorem num_int : NumTy Try.prog 3 1 := NumTy.int
theorem num_2 : NumTy Try.prog 42 2 := NumTy.arr num_int (by decide)
theorem num_cell : NumTy Try.prog 25 2 := NumTy.str (ns := [1, 1]) (by exact ⟨num_int, num_int, trivial⟩) (by decide)
theorem laid : laidOutB Try.prog = true := by kernel_rfl
theorem own : ownKnob Try.prog.godebug = none := by kernel_rfl
end Go.GL

