/- Part 2: contracts of the functions that the law reaches: each answers as its model does. No condition beyond those that each theorem states. -/
import Derived.Test.YtanmnmfhbnnedaaPart1
import Derived.Maps.RangeRun
import Derived.Shelf.SlSortCmp.NoneTotal
set_option linter.unusedVariables false
namespace Go.GL
open R6 R7
namespace R2
open R8 (b2i)
def at8 (c : Cell) (i j : Int) : Cell := ⟨c.x + i, c.y + j⟩
/-- How many of the eight about a cell are in a list. -/
def cntL (l : List Cell) (c : Cell) : Int := b2i (decide (at8 c (-1) (-1) ∈ l)) + b2i (decide (at8 c 0 (-1) ∈ l)) + b2i (decide (at8 c 1 (-1) ∈ l)) + b2i (decide (at8 c (-1) 0 ∈ l)) + b2i (decide (at8 c 1 0 ∈ l)) + b2i (decide (at8 c (-1) 1 ∈ l)) + b2i (decide (at8 c 0 1 ∈ l)) + b2i (decide (at8 c 1 1 ∈ l))
theorem b2i_cons {n a : Cell} {l : List Cell} (h : a ∉ l) : b2i (decide (n ∈ a :: l)) = b2i (decide (n = a)) + b2i (decide (n ∈ l)) := by
 by_cases e : n = a
 ·subst e
  simp [h, b2i]
 ·simp [e, b2i]
theorem around_cnt (c : Cell) : ∀ {l : List Cell}, l.Nodup → around l c = cntL l c
 | [], _ => by simp [around, cntL, b2i]
 | a :: l, hnd => by
  obtain ⟨h1, h2⟩ := List.nodup_cons.1 hnd
  have ih := around_cnt c h2
  unfold cntL at ih ⊢
  rw [b2i_cons h1, b2i_cons h1, b2i_cons h1, b2i_cons h1, b2i_cons h1, b2i_cons h1, b2i_cons h1, b2i_cons h1]
  obtain ⟨u, hu⟩ : ∃ u, a.x = c.x + u := ⟨a.x - c.x, by omega⟩
  obtain ⟨v, hv⟩ : ∃ v, a.y = c.y + v := ⟨a.y - c.y, by omega⟩
  have key : ∀ i j : Int, b2i (decide (at8 c i j = a)) = if u = i ∧ v = j then 1 else 0 := fun i j => by
   have e : (at8 c i j = a) ↔ (u = i ∧ v = j) := by
    cases a
    simp only [at8, Cell.mk.injEq] at *
    omega
   simp only [e, b2i, decide_eq_true_eq]
  rw [key, key, key, key, key, key, key, key]
  have hn : near c a ↔ (-1 ≤ u ∧ u ≤ 1) ∧ (-1 ≤ v ∧ v ≤ 1) ∧ ¬ (u = 0 ∧ v = 0) := by
   unfold near
   have e : a = c ↔ u = 0 ∧ v = 0 := by
    cases a; cases c
    simp only [Cell.mk.injEq] at *
    omega
   rw [Ne, e]
   omega
  have hs : around (a :: l) c = (if near c a then 1 else 0) + around l c := by
   unfold around
   by_cases h : near c a
   ·rw [List.filter_cons_of_pos (by simpa using h), List.length_cons, if_pos h]; omega
   ·rw [List.filter_cons_of_neg (by simpa using h), if_neg h]; omega
  rw [hs, ih]
  by_cases h : near c a
  ·rw [if_pos h]
   obtain ⟨hu1, hv1, hz⟩ := hn.1 h
   rcases (by omega : u = -1 ∨ u = 0 ∨ u = 1) with rfl | rfl | rfl <;> rcases (by omega : v = -1 ∨ v = 0 ∨ v = 1) with rfl | rfl | rfl <;> simp at hz ⊢ <;> omega
  ·rw [if_neg h]
   have hh := mt hn.2 h
   rw [if_neg (by omega), if_neg (by omega), if_neg (by omega), if_neg (by omega), if_neg (by omega), if_neg (by omega), if_neg (by omega), if_neg (by omega)]
   omega
theorem nb_of_near {c d : Cell} (h : near c d) : ∃ k, k < 9 ∧ nb d k = c := by
 obtain ⟨h1, h2, h3, h4, _⟩ := h
 have e : ∀ k : Nat, (k : Int) % 3 - 1 = c.x - d.x → (k : Int) / 3 - 1 = c.y - d.y → nb d k = c := fun k a b => by
  cases c; cases d
  simp only [nb, Cell.mk.injEq] at *
  omega
 refine ⟨((c.x - d.x + 1) + 3 * (c.y - d.y + 1)).toNat, by omega, e _ ?_ ?_⟩ <;> omega
theorem mem_cands {l : List Cell} {d : Cell} : d ∈ cands l ↔ livesAt l d = true ∧ ∃ b ∈ l, ∃ k, k < 9 ∧ nb b k = d := by
 unfold cands about
 rw [List.mem_flatMap]
 constructor
 ·rintro ⟨b, hb, h⟩
  obtain ⟨h1, h2⟩ := List.mem_filter.1 h
  obtain ⟨k, hk, e⟩ := List.mem_map.1 h1
  exact ⟨h2, b, hb, k, List.mem_range.1 hk, e⟩
 ·rintro ⟨h, b, hb, k, hk, e⟩
  exact ⟨b, hb, List.mem_filter.2 ⟨List.mem_map.2 ⟨k, List.mem_range.2 hk, e⟩, h⟩⟩
theorem lives_mem {l : List Cell} {d : Cell} (h : livesAt l d = true) : d ∈ cands l := by
 refine mem_cands.2 ⟨h, ?_⟩
 have hpos : 0 < around l d := by
  unfold livesAt lives at h
  simp only [Bool.or_eq_true, Bool.and_eq_true, decide_eq_true_eq] at h
  omega
 unfold around at hpos
 have : 0 < (l.filter fun e => decide (near d e)).length := by omega
 obtain ⟨e, he⟩ := List.exists_mem_of_length_pos this
 obtain ⟨h1, h2⟩ := List.mem_filter.1 he
 obtain ⟨k, hk, ek⟩ := nb_of_near (by simpa using h2 : near d e)
 exact ⟨e, h1, k, hk, ek⟩
/-- What 'next' tells. -/
theorem next_ok {l : List Cell} (h : R1.right l) (hb : ∀ c ∈ l, -1000000 ≤ c.x ∧ c.x ≤ 1000000 ∧ -1000000 ≤ c.y ∧ c.y ≤ 1000000) (hl : l.length ≤ 200) : next l = (R1.puts (cands l), 0) := by
 unfold next
 rw [if_pos h]
 refine R1.of_ok (fun d hd => ?_) ?_
 ·obtain ⟨_, b, hbm, k, hk, rfl⟩ := mem_cands.1 hd
  have := hb b hbm
  unfold R1.inB nb
  simp only
  omega
 ·have h1 := RL.puts_le (cands l)
  have h2 := cands_len l l
  have : cands l = l.flatMap (about l) := rfl
  rw [this] at h1
  rw [this]
  omega
end R2
namespace RL
open R8
def outside (c : Cell) : Prop := ((c.x < -2 ∨ 1 < c.x) ∨ c.y < -2) ∨ 1 < c.y
instance (c : Cell) : Decidable (outside c) := inferInstanceAs (Decidable (_ ∨ _))
def withOthers (l more : List Cell) : List Cell := (more.filter fun c => decide (outside c)).foldl R1.put l
end RL
end Go.GL


set_option linter.unusedVariables false
namespace Go.GL
/-! ### Layer 9, as the document has it -/
namespace R9
/-- What was leapt: a node, an exponent, what it came to. -/
abbrev Memo := List (Int × Int × Int)
structure LS where
 ns : List Node
 mm : Memo
/-- A state, a node, an error. -/
abbrev L9 := LS × Int × Int
def look9 : Memo → Int → Int → Option Int
 | [], _, _ => none
 | p :: mm, n, j => if p.1 = n ∧ p.2.1 = j then some p.2.2 else look9 mm n j
def putS (room : Int) (s : LS) (q0 q1 q2 q3 : Int) : L9 := (⟨(R6.put s.ns room q0 q1 q2 q3).1, s.mm⟩, (R6.put s.ns room q0 q1 q2 q3).2.1, (R6.put s.ns room q0 q1 q2 q3).2.2)
def midS (room : Int) (s : LS) (n : Int) : L9 := putS room s (R8.g (R8.s16 s.ns n) 5) (R8.g (R8.s16 s.ns n) 6) (R8.g (R8.s16 s.ns n) 9) (R8.g (R8.s16 s.ns n) 10)
def oneS (room : Int) (s : LS) (n : Int) : L9 := (⟨(R8.one s.ns room n).1, s.mm⟩, (R8.one s.ns room n).2.1, (R8.one s.ns room n).2.2)
def mapS (f : LS → Int → L9) : LS → List Int → LS × List Int × Int
 | s, [] => (s, [], 0)
 | s, q :: qs => if (f s q).2.2 ≠ 0 then ((f s q).1, [], (f s q).2.2) else ((mapS f (f s q).1 qs).1, (f s q).2.1 :: (mapS f (f s q).1 qs).2.1, (mapS f (f s q).1 qs).2.2)
def fourP (room : Int) (l : List Int) (s : LS) (k : Int) : L9 := putS room s (R8.g l k) (R8.g l (k + 1)) (R8.g l (k + 3)) (R8.g l (k + 4))
def fourE : List Int := [0, 1, 3, 4]
def halfF (lp : LS → Int → Int → L9) (room : Int) (full : Bool) (j : Int) : LS → Int → L9 := fun s q => if full = true then lp s q (j - 1) else midS room s q
/-- The nine squares of a node, each behind half of a leap, or where it stands. -/
def half (lp : LS → Int → Int → L9) (room : Int) (full : Bool) (s : LS) (n j : Int) : LS × List Int × Int :=
 if (R8.all s.ns room n).2.2 ≠ 0 then (s, [], (R8.all s.ns room n).2.2) else mapS (halfF lp room full j) ⟨(R8.all s.ns room n).1, s.mm⟩ (R8.all s.ns room n).2.1
def bindM (r : LS × List Int × Int) (f : LS → List Int → L9) : L9 := if r.2.2 ≠ 0 then (r.1, 0, r.2.2) else f r.1 r.2.1
def put4 (room : Int) (s : LS) (l : List Int) : L9 := putS room s (R8.g l 0) (R8.g l 1) (R8.g l 2) (R8.g l 3)
def lastF (lp : LS → Int → Int → L9) (j : Int) : LS → Int → L9 := fun s q => lp s q j
def far (lp : LS → Int → Int → L9) (room : Int) (full : Bool) (s : LS) (n j : Int) : L9 :=
 bindM (half lp room full s n j) fun t l => bindM (mapS (fourP room l) t fourE) fun t l => bindM (mapS (lastF lp (if full = true then j - 1 else j)) t l) (put4 room)
/-- What was leapt is kept. -/
def keep (n j : Int) (r : L9) : L9 := if r.2.2 ≠ 0 then (r.1, 0, r.2.2) else (⟨r.1.ns, r.1.mm ++ [(n, j, r.2.1)]⟩, r.2.1, 0)
/-- A leap of a node of the level k + 2. -/
def leap (room : Int) : Nat → LS → Int → Int → L9
 | 0, s, n, j => match look9 s.mm n j with
  | some to => (s, to, 0)
  | none => keep n j (oneS room s n)
 | k + 1, s, n, j => match look9 s.mm n j with
  | some to => (s, to, 0)
  | none => keep n j (far (leap room k) room (decide (j = k + 1)) s n j)
/-- Is one of the sixteen, but the four in the middle, not dead? -/
def edged (ns : List Node) (n : Int) : Bool := [0, 1, 2, 3, 4, 7, 8, 11, 12, 13, 14, 15].any fun i => decide ((R6.nd ns (R8.g (R8.s16 ns n) i)).pop ≠ 0)
/-- Of a node of the level k + 2. -/
def trim (room : Int) : Nat → LS → Int → L9
 | 0, s, n => (s, n, 0)
 | k + 1, s, n => if edged s.ns n = true then (s, n, 0) else if (midS room s n).2.2 ≠ 0 then ((midS room s n).1, 0, (midS room s n).2.2) else trim room k (midS room s n).1 (midS room s n).2.1
/-- A kid of the larger node. -/
def bigK (dead : Int) (k : Nat) (kid : Int) (i : Nat) : Int := if i + k = 3 then kid else dead
def grow (room : Int) (s : LS) (n : Int) : L9 :=
 let x := R6.nd s.ns n
 if 42 ≤ x.lv then (s, 0, 2) else
 let d := R7.empty s.ns room (x.lv - 1).toNat
 if d.2.2 ≠ 0 then (s, 0, d.2.2) else
 let r := mapS (fun s k => putS room s (bigK d.2.1 k.toNat (x.kids.getD k.toNat default) 0) (bigK d.2.1 k.toNat (x.kids.getD k.toNat default) 1) (bigK d.2.1 k.toNat (x.kids.getD k.toNat default) 2) (bigK d.2.1 k.toNat (x.kids.getD k.toNat default) 3)) ⟨d.1, s.mm⟩ [0, 1, 2, 3]
 if r.2.2 ≠ 0 then (r.1, 0, r.2.2) else
 putS room r.1 (R8.g r.2.1 0) (R8.g r.2.1 1) (R8.g r.2.1 2) (R8.g r.2.1 3)
def bindS (r : L9) (f : LS → Int → L9) : L9 := if r.2.2 ≠ 0 then (r.1, 0, r.2.2) else f r.1 r.2.1
def lvS (s : LS) (n : Int) : Nat := ((R6.nd s.ns n).lv - 2).toNat
def trimS (room : Int) (s : LS) (n : Int) : L9 := trim room (lvS s n) s n
/-- Grown while it is too small (at most so often). -/
def growTo (room : Int) (j : Int) : Nat → LS → Int → L9
 | 0, s, n => (s, n, 0)
 | i + 1, s, n => if (R6.nd s.ns n).lv < j + 3 then bindS (grow room s n) (growTo room j i) else (s, n, 0)
def power (room : Int) (s : LS) (n j : Int) : L9 :=
 bindS (bindS (bindS (bindS (trimS room s n) (grow room)) (grow room)) (growTo room j 64)) fun s m => leap room (lvS s m) s m j
def runL (room : Int) : List Int → LS → Int → L9
 | [], s, n => trimS room s n
 | j :: js, s, n => bindS (power room s n j) (runL room js)
def bits (c : Int) : List Int := ((List.range 62).filter fun i => decide (c / 2 ^ i % 2 = 1)).map fun i => ((i : Nat) : Int)
/-- A store behind what was made in it, or as it was. -/
def out (ns : List Node) (r : L9) : List Node × Int × Int := if r.2.2 ≠ 0 then (ns, 0, r.2.2) else (r.1.ns, r.2.1, 0)
def leapT (ns : List Node) (room n j : Int) : List Node × Int × Int := if R8.may ns room n 2 ∧ 0 ≤ j ∧ j ≤ (R6.nd ns n).lv - 2 then out ns (leap room (lvS ⟨ns, []⟩ n) ⟨ns, []⟩ n j) else (ns, 0, 1)
def trimT (ns : List Node) (room n : Int) : List Node × Int × Int := if R8.may ns room n 2 then out ns (trimS room ⟨ns, []⟩ n) else (ns, 0, 1)
def runT (ns : List Node) (room n c : Int) : List Node × Int × Int := if R8.may ns room n 2 ∧ 0 ≤ c ∧ c ≤ 4611686018427387903 then out ns (runL room (bits c) ⟨ns, []⟩ n) else (ns, 0, 1)
end R9
end Go.GL


set_option linter.unusedVariables false
namespace Go.GL
open R6 R7
/-! ### What leaps keep to -/
namespace R9
def MemOk (ns : List Node) (mm : Memo) : Prop := ∀ p ∈ mm, ∃ lv : Nat, IsN ns (lv + 2) p.1 ∧ IsN ns (lv + 1) p.2.2
theorem MemOk.pre {ns ms : List Node} (hp : ns <+: ms) {mm : Memo} (h : MemOk ns mm) : MemOk ms mm := fun p hm => by
 obtain ⟨lv, a, b⟩ := h p hm
 exact ⟨lv, a.pre hp, b.pre hp⟩
structure Lk (room : Int) (s : LS) : Prop where
 right : R6.right s.ns room
 mem : MemOk s.ns s.mm
theorem Lk.wf {room : Int} {s : LS} (h : Lk room s) : Wf s.ns := (right_iff.1 h.right).2
/-- What came of a state without an error. -/
structure Gd (room : Int) (s : LS) (r : L9) (lv : Nat) : Prop where
 lk : Lk room r.1
 pre : s.ns <+: r.1.ns
 is : IsN r.1.ns lv r.2.1
theorem s16_isN {ns : List Node} (h : Wf ns) {lv : Nat} {n : Int} (hn : IsN ns (lv + 2) n) : ∀ i : Int, 0 ≤ i → i < 16 → IsN ns lv (R8.g (R8.s16 ns n) i) := by
 obtain ⟨a, b, c, d⟩ := kids4 h hn
 obtain ⟨a0, a1, a2, a3⟩ := kids4 h a
 obtain ⟨b0, b1, b2, b3⟩ := kids4 h b
 obtain ⟨c0, c1, c2, c3⟩ := kids4 h c
 obtain ⟨d0, d1, d2, d3⟩ := kids4 h d
 intro i h0 h16
 obtain ⟨k, rfl⟩ : ∃ k : Nat, i = k := ⟨i.toNat, by omega⟩
 have hk : k < 16 := by omega
 unfold R8.g R8.s16
 rw [Int.toNat_natCast]
 match k, hk with
 | 0, _ => exact a0
 | 1, _ => exact a1
 | 2, _ => exact b0
 | 3, _ => exact b1
 | 4, _ => exact a2
 | 5, _ => exact a3
 | 6, _ => exact b2
 | 7, _ => exact b3
 | 8, _ => exact c0
 | 9, _ => exact c1
 | 10, _ => exact d0
 | 11, _ => exact d1
 | 12, _ => exact c2
 | 13, _ => exact c3
 | 14, _ => exact d2
 | 15, _ => exact d3
/-! #### what is new of what was leapt -/
/-- What came to be kept is of nodes of the levels to K + 2. -/
def New (K : Nat) (mm mm' : Memo) (ns' : List Node) : Prop := ∃ add, mm' = mm ++ add ∧ ∀ p ∈ add, ∃ lv, lv ≤ K ∧ IsN ns' (lv + 2) p.1
theorem New.refl (K : Nat) (mm : Memo) (ns' : List Node) : New K mm mm ns' := ⟨[], by simp, by simp⟩
theorem New.trans {K : Nat} {a b c : Memo} {ns ms : List Node} (h : New K a b ns) (hp : ns <+: ms) (k : New K b c ms) : New K a c ms := by
 obtain ⟨x, rfl, hx⟩ := h
 obtain ⟨y, rfl, hy⟩ := k
 refine ⟨x ++ y, by rw [List.append_assoc], fun p hm => ?_⟩
 rcases List.mem_append.1 hm with hm | hm
 ·obtain ⟨lv, h1, h2⟩ := hx p hm
  exact ⟨lv, h1, h2.pre hp⟩
 ·exact hy p hm
theorem look9_app : ∀ {mm add : Memo} {n j : Int}, (∀ p ∈ add, p.1 ≠ n) → look9 (mm ++ add) n j = look9 mm n j
 | [], [], n, j, _ => rfl
 | [], p :: add, n, j, h => by
  have h1 := h p List.mem_cons_self
  have ih := look9_app (mm := []) (n := n) (j := j) fun q hq => h q (List.mem_cons_of_mem _ hq)
  simp only [List.nil_append] at ih ⊢
  unfold look9
  rw [if_neg (fun e => h1 e.1), ih]
  rfl
 | p :: mm, add, n, j, h => by
  simp only [List.cons_append]
  unfold look9
  split
  ·rfl
  ·exact look9_app h
theorem New.look {K : Nat} {mm mm' : Memo} {ns' : List Node} (h : New K mm mm' ns') {lv : Nat} {n j : Int} (hn : IsN ns' (lv + 2) n) (hlv : K < lv) (hl : look9 mm n j = none) : look9 mm' n j = none := by
 obtain ⟨add, rfl, ha⟩ := h
 rw [look9_app, hl]
 rintro p hp rfl
 obtain ⟨lv', h1, h2⟩ := ha p hp
 have e1 := h2.2
 have e2 := hn.2
 omega
end R9
end Go.GL


set_option linter.unusedVariables false
namespace Go.GL
open R6 R7
namespace R9
/-! #### empty, grow -/
def growF (room d : Int) (ks : List Int) : LS → Int → L9 := fun s k => putS room s (bigK d k.toNat (ks.getD k.toNat default) 0) (bigK d k.toNat (ks.getD k.toNat default) 1) (bigK d k.toNat (ks.getD k.toNat default) 2) (bigK d k.toNat (ks.getD k.toNat default) 3)
def k4 : List Int := [0, 1, 2, 3]
/-! #### trim, power, run -/
/-- As Gd, of some level from 2 on. -/
structure Ge (room : Int) (s : LS) (r : L9) : Prop where
 lk : Lk room r.1
 pre : s.ns <+: r.1.ns
 is : ∃ k : Nat, IsN r.1.ns (k + 2) r.2.1
theorem Ge.trans {room : Int} {s t : LS} {r : L9} (h : Ge room t r) (hp : s.ns <+: t.ns) : Ge room s r := ⟨h.lk, hp.trans h.pre, h.is⟩
/-- The loop of power: grown i times. -/
def more (room : Int) (j : Int) : Nat → LS → Int → L9
 | 0, s, n => bindS (bindS (grow room s n) (grow room)) (growTo room j 64)
 | 1, s, n => bindS (grow room s n) (growTo room j 64)
 | i + 2, s, n => growTo room j (64 - i) s n
/-- As Ge, of some level from k + 2 on. -/
def Gk (room : Int) (s : LS) (r : L9) (k : Nat) : Prop := Lk room r.1 ∧ s.ns <+: r.1.ns ∧ ∃ k' : Nat, k ≤ k' ∧ IsN r.1.ns (k' + 2) r.2.1
theorem Gk.le {room : Int} {s : LS} {r : L9} {k k2 : Nat} (h : Gk room s r k) (hk : k2 ≤ k) : Gk room s r k2 := by
 obtain ⟨a, b, k', c, d⟩ := h
 exact ⟨a, b, k', by omega, d⟩
end R9
end Go.GL


set_option linter.unusedVariables false
namespace Go.GL
open R6 R7
/-! ### A leap stands for what stands in the middle behind so many generations -/
namespace R9
/-- One generation of all cells. -/
def gen (f : Int → Int → Bool) : Int → Int → Bool := fun x y => R8.nx f y x
def gens : Nat → (Int → Int → Bool) → Int → Int → Bool
 | 0, f => f
 | m + 1, f => gens m (gen f)
/-- A node stands for a part of the plane. -/
def Std (ns : List Node) (lv : Nat) (n : Int) (f : Int → Int → Bool) (ox oy : Int) : Prop := IsN ns lv n ∧ ∀ x y, inQ lv x y → al ns lv n x y = f (x + ox) (y + oy)
theorem Std.pre {ns ms : List Node} (h : Wf ns) (hp : ns <+: ms) {lv : Nat} {n : Int} {f : Int → Int → Bool} {ox oy : Int} (hs : Std ns lv n f ox oy) : Std ms lv n f ox oy :=
 ⟨hs.1.pre hp, fun x y hq => by rw [al_pre h hp lv n x y hs.1]; exact hs.2 x y hq⟩
theorem Std.back {ns ms : List Node} (h : Wf ns) (hp : ns <+: ms) {lv : Nat} {n : Int} {f : Int → Int → Bool} {ox oy : Int} (hn : IsN ns lv n) (hs : Std ms lv n f ox oy) : Std ns lv n f ox oy :=
 ⟨hn, fun x y hq => by rw [← al_pre h hp lv n x y hn]; exact hs.2 x y hq⟩
theorem Std.at {ns : List Node} {lv : Nat} {n : Int} {f : Int → Int → Bool} {ox oy ox' oy' : Int} (h : Std ns lv n f ox oy) (hx : ox = ox') (hy : oy = oy') : Std ns lv n f ox' oy' := by
 subst hx
 subst hy
 exact h
end R9
end Go.GL


set_option linter.unusedVariables false
namespace Go.GL
open R6 R7
namespace R9
/-- What is kept is true. -/
def MS (s : LS) : Prop := ∀ p ∈ s.mm, ∃ k : Nat, (0 ≤ p.2.1 ∧ p.2.1 ≤ k) ∧ IsN s.ns (k + 2) p.1 ∧ IsN s.ns (k + 1) p.2.2 ∧ ∀ f ox oy, Std s.ns (k + 2) p.1 f ox oy → Std s.ns (k + 1) p.2.2 (gens (2 ^ p.2.1.toNat) f) (ox + 2 ^ k) (oy + 2 ^ k)
theorem MS.pre {s : LS} {ms : List Node} (hw : Wf s.ns) (h : MS s) (hp : s.ns <+: ms) : MS ⟨ms, s.mm⟩ := fun p hm => by
 obtain ⟨k, h1, h2, h3, h4⟩ := h p hm
 exact ⟨k, h1, h2.pre hp, h3.pre hp, fun f ox oy hs => (h4 f ox oy (hs.back hw hp h2)).pre hw hp⟩
/-- What a leap that is right does. -/
def LpOk (room : Int) (k : Nat) (lp : LS → Int → Int → L9) : Prop := ∀ s q j, Lk room s → MS s → IsN s.ns (k + 2) q → 0 ≤ j ∧ j ≤ (k : Int) → (lp s q j).2.2 = 0 →
 Lk room (lp s q j).1 ∧ s.ns <+: (lp s q j).1.ns ∧ MS (lp s q j).1 ∧ ∀ f ox oy, Std s.ns (k + 2) q f ox oy → Std (lp s q j).1.ns (k + 1) (lp s q j).2.1 (gens (2 ^ j.toNat) f) (ox + 2 ^ k) (oy + 2 ^ k)
end R9
end Go.GL


set_option linter.unusedVariables false
namespace Go.GL
open R6 R7
/-! ### What errors a leap may tell -/
namespace R9
def Er (e : Int) : Prop := e = 0 ∨ e = 40
end R9
end Go.GL


set_option linter.unusedVariables false
namespace Go.GL
open R6 R7
namespace R9
/-! #### how many things are kept -/
theorem nodup_len : ∀ (N : Nat) (l : List Nat), l.Nodup → (∀ x ∈ l, x < N) → l.length ≤ N
 | 0, l, _, hb => by
  cases l with
  | nil => exact Nat.le_refl _
  | cons x l => exact absurd (hb x List.mem_cons_self) (by omega)
 | N + 1, l, hn, hb => by
  have h1 := nodup_len N (l.erase N) (hn.erase N) fun x hx => by
   have := (hn.mem_erase_iff).1 hx
   have h2 := hb x this.2
   have h3 := this.1
   omega
  by_cases hm : N ∈ l
  ·have := List.length_erase_of_mem hm
   omega
  ·rw [List.erase_of_not_mem hm] at h1
   omega
/-- No two things that are kept are of the same node and exponent. -/
def Kn (mm : Memo) : Prop := (mm.map fun p => (p.1, p.2.1)).Nodup ∧ ∀ p ∈ mm, 0 ≤ p.2.1 ∧ p.2.1 ≤ 1000000
theorem nodup_map {α β γ : Type} (f : α → β) (g : β → γ) (P : β → Prop) (hg : ∀ a b, P a → P b → g a = g b → a = b) : ∀ l : List α, (∀ x ∈ l, P (f x)) → (l.map f).Nodup → (l.map fun x => g (f x)).Nodup
 | [], _, _ => List.nodup_nil
 | x :: l, hp, hn => by
  simp only [List.map_cons, List.nodup_cons] at hn ⊢
  refine ⟨fun hm => hn.1 ?_, nodup_map f g P hg l (fun y hy => hp y (List.mem_cons_of_mem _ hy)) hn.2⟩
  obtain ⟨y, hy, e⟩ := List.mem_map.1 hm
  rw [← hg _ _ (hp y (List.mem_cons_of_mem _ hy)) (hp x List.mem_cons_self) e]
  exact List.mem_map_of_mem hy
theorem Kn.len {ns : List Node} {mm : Memo} (hm : MemOk ns mm) (hk : Kn mm) (h : ns.length ≤ 100000) : mm.length ≤ 1000000000000 := by
 have h1 := nodup_map (fun p : Int × Int × Int => (p.1, p.2.1)) (fun q : Int × Int => q.1.toNat * 1000001 + q.2.toNat) (fun q => 0 ≤ q.1 ∧ 0 ≤ q.2 ∧ q.2 ≤ 1000000) (fun a b ha hb e => by
  obtain ⟨a1, a2⟩ := a
  obtain ⟨b1, b2⟩ := b
  simp only at ha hb e
  have e1 : a1 = b1 := by omega
  have e2 : a2 = b2 := by omega
  rw [e1, e2]) mm (fun p hp => by
   obtain ⟨lv, a, b⟩ := hm p hp
   exact ⟨a.1.1, hk.2 p hp⟩) hk.1
 have h2 := nodup_len 1000000000000 _ h1 fun x hx => by
  obtain ⟨p, hp, rfl⟩ := List.mem_map.1 hx
  obtain ⟨lv, a, b⟩ := hm p hp
  have h3 := a.1.2
  have h4 := hk.2 p hp
  simp only
  omega
 rw [List.length_map] at h2
 exact h2
theorem look9_none : ∀ {mm : Memo} {n j : Int}, look9 mm n j = none → ∀ p ∈ mm, (p.1, p.2.1) ≠ (n, j)
 | p :: mm, n, j, h, q, hq, e => by
  unfold look9 at h
  split at h
  ·cases h
  ·rename_i h1
   rcases List.mem_cons.1 hq with rfl | hq
   ·exact h1 (by simpa using e)
   ·exact look9_none h q hq e
theorem Kn.snoc {mm : Memo} (h : Kn mm) {n j to : Int} (hl : look9 mm n j = none) (hj : 0 ≤ j ∧ j ≤ 1000000) : Kn (mm ++ [(n, j, to)]) := by
 constructor
 ·rw [List.map_append, List.nodup_append]
  refine ⟨h.1, by simp, fun a ha b hb e => ?_⟩
  obtain ⟨p, hp, rfl⟩ := List.mem_map.1 ha
  simp only [List.map_cons, List.map_nil, List.mem_singleton] at hb
  exact look9_none hl p hp (e.trans hb)
 ·intro p hp
  rcases List.mem_append.1 hp with hp | hp
  ·exact h.2 p hp
  ·rw [List.mem_singleton.1 hp]; exact hj
theorem Kn.nil : Kn [] := ⟨List.nodup_nil, fun p hp => by cases hp⟩
end R9
end Go.GL


set_option linter.unusedVariables false
namespace Go.GL
/-! ### What the laws of chapter 9 make of raw numbers -/
namespace RL
def fcell (v : Int) (r : Cell) : Cell := ⟨pk r.x (2 * R7.side v) - R7.side v, pk r.y (2 * R7.side v) - R7.side v⟩
def fset (v : Int) (raw : List Cell) : List Cell := R1.puts ((raw.take 30).map (fcell v))
def putN (rm : Int) (ns : List Node) (r : Five) : List Node := (R6.intern ns rm (pk r.r0 2) (pk r.r1 2) (pk r.r2 2) (pk r.r3 2)).1
def fstore (rm : Int) (nodes : List Five) : List Node := (nodes.take 10).foldl (putN rm) [R6.n0, R6.n1]
def fv (level : Int) : Int := 3 + pk level 3
def field (c : Int) (nodes : List Five) (raw : List Cell) (level : Int) : List Node × Int × Int := R7.make (fstore (room c) nodes) (room c + 600) (fset (fv level) raw) (fv level)
end RL
namespace R9
end R9
end Go.GL


set_option linter.unusedVariables false
namespace Go.GL
open R6 R7
namespace R9
/-- What a leap tells. -/
structure LeapR (ns : List Node) (room : Int) (k : Nat) (n j : Int) (p : List Node × Int × Int) : Prop where
 er : Er p.2.2
 right : R6.right p.1 room
 pre : ns <+: p.1
 is : p.2.2 = 0 → IsN p.1 (k + 1) p.2.1
 std : p.2.2 = 0 → ∀ f ox oy, Std ns (k + 2) n f ox oy → Std p.1 (k + 1) p.2.1 (gens (2 ^ j.toNat) f) (ox + 2 ^ k) (oy + 2 ^ k)
/-- A set, as a part of the plane. -/
def pl (l : List Cell) : Int → Int → Bool := fun x y => decide ((⟨x, y⟩ : Cell) ∈ l)
end R9
namespace RL
def cropF (l : List Cell) (half : Int) : List Cell := l.filter fun c => decide (((-half ≤ c.x ∧ c.x < half) ∧ -half ≤ c.y) ∧ c.y < half)
def hset (raw : List Cell) : List Cell := R1.puts ((raw.take 40).map cell16)
end RL
end Go.GL


set_option linter.unusedVariables false
namespace Go.GL
open R6 R7
/-! ### A run stands for what is there behind so many generations -/
namespace R9
/-- All that is alive is so near. -/
def Supp (f : Int → Int → Bool) (a : Int) : Prop := ∀ x y, f x y = true → -a ≤ x ∧ x < a ∧ -a ≤ y ∧ y < a
theorem Supp.le {f : Int → Int → Bool} {a b : Int} (h : Supp f a) (hab : a ≤ b) : Supp f b := fun x y hf => by
 have := h x y hf
 omega
/-- A node of the level k + 2 in the middle, and nothing outside. -/
def Ctr (ns : List Node) (k : Nat) (n : Int) (f : Int → Int → Bool) : Prop := Std ns (k + 2) n f (-2 ^ (k + 1)) (-2 ^ (k + 1)) ∧ Supp f (2 ^ (k + 1))
theorem Ctr.pre {ns ms : List Node} (h : Wf ns) (hp : ns <+: ms) {k : Nat} {n : Int} {f : Int → Int → Bool} (hs : Ctr ns k n f) : Ctr ms k n f := ⟨hs.1.pre h hp, hs.2⟩
/-! #### grown -/
def nil2 : Int → Int → Bool := fun _ _ => false
end R9
end Go.GL


set_option linter.unusedVariables false
namespace Go.GL
open R6 R7
namespace R9
/-- An answer without an error. -/
def OkS (room : Int) (s : LS) (r : L9) : Prop := Lk room r.1 ∧ s.ns <+: r.1.ns ∧ MS r.1
theorem OkS.trans {room : Int} {s t : LS} {r : L9} (h : OkS room t r) (hp : s.ns <+: t.ns) : OkS room s r := ⟨h.1, hp.trans h.2.1, h.2.2⟩
/-- How many generations. -/
def total : List Nat → Nat
 | [] => 0
 | j :: js => 2 ^ j + total js
/-! #### the bits -/
def bitsN (c : Int) (m : Nat) : List Nat := (List.range m).filter fun i => decide (c / 2 ^ i % 2 = 1)
end R9
end Go.GL


set_option linter.unusedVariables false
namespace Go.GL
open R6 R7
namespace R9
/-- Trimmed. -/
def Trd (ns : List Node) (k : Nat) (n : Int) : Prop := k = 0 ∨ edged ns n = true
theorem edged_pre {ns ms : List Node} (h : Wf ns) (hp : ns <+: ms) {k : Nat} {n : Int} (hn : IsN ns (k + 2) n) : edged ms n = edged ns n := by
 unfold edged
 rw [R8.s16_pre h hp hn]
 have hi := s16_isN h hn
 have key : ∀ i : Int, 0 ≤ i → i < 16 → nd ms (R8.g (R8.s16 ns n) i) = nd ns (R8.g (R8.s16 ns n) i) := fun i a b => nd_pre hp (hi i a b).1
 simp only [List.any_cons, List.any_nil]
 rw [key 0 (by omega) (by omega), key 1 (by omega) (by omega), key 2 (by omega) (by omega), key 3 (by omega) (by omega), key 4 (by omega) (by omega), key 7 (by omega) (by omega), key 8 (by omega) (by omega), key 11 (by omega) (by omega), key 12 (by omega) (by omega), key 13 (by omega) (by omega), key 14 (by omega) (by omega), key 15 (by omega) (by omega)]
theorem Trd.pre {ns ms : List Node} (h : Wf ns) (hp : ns <+: ms) {k : Nat} {n : Int} (hn : IsN ns (k + 2) n) (ht : Trd ns k n) : Trd ms k n := ht.imp id fun e => by rw [edged_pre h hp hn]; exact e
theorem alive {ns : List Node} (h : Wf ns) : ∀ (lv : Nat) (n : Int), IsN ns lv n → (nd ns n).pop ≠ 0 → ∃ x y, inQ lv x y ∧ al ns lv n x y = true
 | 0, n, hn, hp => by
  rcases isN0 h hn with rfl | rfl
  ·exact absurd (by rw [h.nd0]; rfl) hp
  ·exact ⟨0, 0, ⟨by omega, by decide, by omega, by decide⟩, rfl⟩
 | lv + 1, n, hn, hp => by
  obtain ⟨a, b, c, d⟩ := kids4 h hn
  have hpos := p2pos lv
  have hk : ∀ (q : Int) (a b : Int), (a = 0 ∨ a = 1) → (b = 0 ∨ b = 1) → R7.kid ns n (2 * b + a) = q → (∃ x y, inQ lv x y ∧ al ns lv q x y = true) → ∃ x y, inQ (lv + 1) x y ∧ al ns (lv + 1) n x y = true := by
   rintro q a b ha hb hq ⟨x, y, h1, h2⟩
   refine ⟨x + a * 2 ^ lv, y + b * 2 ^ lv, ?_, ?_⟩
   ·unfold inQ at h1 ⊢
    rw [p2s]
    rcases ha with rfl | rfl <;> rcases hb with rfl | rfl <;> omega
   ·rw [al_kid ns h1 ha hb, hq]
    exact h2
  have hd := fun hc => hp ((dead_kids h hn).2 hc)
  by_cases e0 : (nd ns (nd ns n).k0).pop = 0
  ·by_cases e1 : (nd ns (nd ns n).k1).pop = 0
   ·by_cases e2 : (nd ns (nd ns n).k2).pop = 0
    ·exact hk _ 1 1 (.inr rfl) (.inr rfl) rfl (alive h lv _ d fun e3 => hd ⟨e0, e1, e2, e3⟩)
    ·exact hk _ 0 1 (.inl rfl) (.inr rfl) rfl (alive h lv _ c e2)
   ·exact hk _ 1 0 (.inr rfl) (.inl rfl) rfl (alive h lv _ b e1)
  ·exact hk _ 0 0 (.inl rfl) (.inl rfl) rfl (alive h lv _ a e0)
/-- What a run tells. -/
structure RunR (ns : List Node) (room : Int) (K : Nat) (n c : Int) (f : Int → Int → Bool) (p : List Node × Int × Int) : Prop where
 er : Er p.2.2
 right : R6.right p.1 room
 pre : ns <+: p.1
 ok : p.2.2 = 0 → ∃ k', k' ≤ K ∧ Ctr p.1 k' p.2.1 (gens c.toNat f) ∧ Trd p.1 k' p.2.1
 trim : p.2.2 = 0 → (trimS room ⟨ns, []⟩ n).2.2 = 0 ∧ (trimS room ⟨ns, []⟩ n).1.ns <+: p.1
/-! #### turned by half -/
def refl (f : Int → Int → Bool) : Int → Int → Bool := fun x y => f (-x) (-y)
end R9
end Go.GL


set_option linter.unusedVariables false
namespace Go.GL
/-! ### Generations of sets that lie in a box -/
namespace R2
open R9 (gen gens pl)
theorem pl_mem {l : List Cell} {x y : Int} : pl l x y = true ↔ (⟨x, y⟩ : Cell) ∈ l := decide_eq_true_iff
theorem live_gen {l : List Cell} (hs : l.Nodup) (d : Cell) : livesAt l d = gen (pl l) d.x d.y := by
 unfold livesAt gen R8.nx
 rw [around_cnt d hs]
 unfold cntL R8.cnt pl at8
 rw [show d.x + -1 = d.x - 1 by omega, show d.y + -1 = d.y - 1 by omega, Int.add_zero, Int.add_zero]
/-- Within a box. -/
def Bx (l : List Cell) (a b c d : Int) : Prop := ∀ e ∈ l, a ≤ e.x ∧ e.x ≤ b ∧ c ≤ e.y ∧ e.y ≤ d
theorem Bx.le {l : List Cell} {a b c d a' b' c' d' : Int} (h : Bx l a b c d) (h1 : a' ≤ a) (h2 : b ≤ b') (h3 : c' ≤ c) (h4 : d ≤ d') : Bx l a' b' c' d' := fun e he => by
 have := h e he
 omega
theorem inc_len : ∀ (l : List Int) (lo hi : Int), l.Pairwise (· < ·) → (∀ z ∈ l, lo ≤ z ∧ z ≤ hi) → lo ≤ hi + 1 → (l.length : Int) ≤ hi - lo + 1
 | [], lo, hi, _, _, h => by simp only [List.length_nil]; omega
 | a :: l, lo, hi, hp, hb, h => by
  obtain ⟨h1, h2⟩ := List.pairwise_cons.1 hp
  have ha := hb a List.mem_cons_self
  have := inc_len l (a + 1) hi h2 (fun z hz => by have := h1 z hz; have := hb z (List.mem_cons_of_mem _ hz); omega) (by omega)
  simp only [List.length_cons]
  omega
theorem bx_len {l : List Cell} (hs : R1.Srt l) {a b c d : Int} (h : Bx l a b c d) (hab : a ≤ b) (hcd : c ≤ d) : (l.length : Int) ≤ (b - a + 1) * (d - c + 1) := by
 obtain ⟨W, hW⟩ : ∃ W, b - a + 1 = W := ⟨_, rfl⟩
 obtain ⟨H, hH⟩ : ∃ H, d - c + 1 = H := ⟨_, rfl⟩
 rw [hW, hH]
 let key : Cell → Int := fun e => (e.y - c) * W + (e.x - a)
 have hp : (l.map key).Pairwise (· < ·) := by
  rw [List.pairwise_map]
  refine List.Pairwise.imp_of_mem ?_ hs
  intro e f he hf hl
  have h1 := h e he
  have h2 := h f hf
  rcases hl with hy | ⟨hy, hx⟩
  ·have : (e.y - c + 1) * W ≤ (f.y - c) * W := Int.mul_le_mul_of_nonneg_right (by omega) (by omega)
   rw [Int.add_mul] at this
   show (e.y - c) * W + (e.x - a) < (f.y - c) * W + (f.x - a)
   omega
  ·show (e.y - c) * W + (e.x - a) < (f.y - c) * W + (f.x - a)
   rw [hy]
   omega
 have hpos : 0 ≤ W * H := Int.mul_nonneg (by omega) (by omega)
 have := inc_len (l.map key) 0 (W * H - 1) hp (fun z hz => by
  obtain ⟨e, he, rfl⟩ := List.mem_map.1 hz
  have h1 := h e he
  have h2 : (e.y - c) * W ≤ (H - 1) * W := Int.mul_le_mul_of_nonneg_right (by omega) (by omega)
  have h3 : 0 ≤ (e.y - c) * W := Int.mul_nonneg (by omega) (by omega)
  have h4 : (H - 1) * W = W * H - W := by rw [Int.sub_mul, Int.one_mul, Int.mul_comm]
  rw [h4] at h2
  show 0 ≤ (e.y - c) * W + (e.x - a) ∧ (e.y - c) * W + (e.x - a) ≤ W * H - 1
  omega) (by omega)
 rw [List.length_map] at this
 omega
theorem bx_cands {l : List Cell} {a b c d : Int} (h : Bx l a b c d) : Bx (cands l) (a - 1) (b + 1) (c - 1) (d + 1) := fun e he => by
 obtain ⟨_, f, hf, k, hk, rfl⟩ := mem_cands.1 he
 have := h f hf
 unfold nb
 simp only
 omega
theorem next_gen {l : List Cell} (h : R1.right l) {a b c d : Int} (hx : Bx l a b c d) (hab : a ≤ b) (hcd : c ≤ d) (ha : -1099511627775 ≤ a) (hb : b ≤ 1099511627775) (hc : -1099511627775 ≤ c) (hd : d ≤ 1099511627775) (hA : (b - a + 3) * (d - c + 3) ≤ 2000) :
  ∃ m, next l = (m, 0) ∧ R1.right m ∧ Bx m (a - 1) (b + 1) (c - 1) (d + 1) ∧ pl m = gen (pl l) := by
 have hbx := bx_cands hx
 have hpx : Bx (R1.puts (cands l)) (a - 1) (b + 1) (c - 1) (d + 1) := fun e he => hbx e (R1.mem_puts.1 he)
 have hlen := bx_len (R1.puts_srt (cands l)) hpx (by omega) (by omega)
 rw [show b + 1 - (a - 1) + 1 = b - a + 3 by omega, show d + 1 - (c - 1) + 1 = d - c + 3 by omega] at hlen
 have hin : ∀ e ∈ cands l, R1.inB e := fun e he => by
  have := hbx e he
  unfold R1.inB
  omega
 refine ⟨R1.puts (cands l), ?_, R1.right_of (R1.puts_srt _) (fun e he => hin e (R1.mem_puts.1 he)) (by omega), hpx, ?_⟩
 ·unfold next
  rw [if_pos h, R1.of_ok hin (by omega)]
 ·funext x y
  rw [← live_gen (R1.srt_nodup (R1.right_srt h)) ⟨x, y⟩]
  apply Bool.eq_iff_iff.2
  rw [pl_mem, R1.mem_puts]
  exact ⟨fun hm => (mem_cands.1 hm).1, lives_mem⟩
/-- So many generations. -/
def iter : Nat → List Cell → List Cell × Int
 | 0, l => (l, 0)
 | n + 1, l => if (next l).2 ≠ 0 then ([], (next l).2) else iter n (next l).1
def run (l : List Cell) (n : Int) : List Cell × Int := if R1.right l ∧ 0 ≤ n ∧ n ≤ 1000 then iter n.toNat l else ([], 1)
end R2
end Go.GL


set_option linter.unusedVariables false
set_option linter.unusedSimpArgs false
namespace Go.GL
/-! ### 'm[k] += d': an entry is made or found, and written through its stamp -/
/-- As MapA; hh is the stamp of the entry that ks has. -/
def MapE (P : Program) (kt : TypeId) (b : Nat) (es : KVs) (ks : List Int) (hh : Int) : Asrt := fun c => ∃ ents clock, c = [(b, .map ents clock)] ∧ ents.toList.map (fun e => (e.key, e.val)) = es.map (fun p => (mkv P kt p.1, p.2)) ∧ (∀ p ∈ es, ∃ k, intAt P 9 kt = some k ∧ p.1.length = k) ∧ Stm ents clock ∧ ∃ i e v, ents[i]? = some e ∧ (e.born : Int) = hh ∧ mpos es ks 0 = some (i, v)
theorem MapE.a {P : Program} {kt : TypeId} {b : Nat} {es : KVs} {ks : List Int} {hh : Int} {c : List Chunk} (h : MapE P kt b es ks hh c) : MapA P kt b es c := by
 obtain ⟨ents, clock, h1, h2, h3, h4, _⟩ := h
 exact ⟨ents, clock, h1, h2, h3, h4⟩
theorem mset_again : ∀ (es : KVs) (ks : List Int) (v v2 : Value), mset (mset es ks v) ks v2 = mset es ks v2
 | [], ks, v, v2 => by simp [mset]
 | p :: es, ks, v, v2 => by
  simp only [mset]
  by_cases h : p.1 = ks
  ·simp only [h, if_true, mset]
  ·simp only [h, if_false, mset, mset_again es ks v v2]
theorem mfind_msetE : ∀ (es : KVs) (ks : List Int) (v : Value), mfind (mset es ks v) ks = some v
 | [], ks, v => by simp [mset, mfind]
 | p :: es, ks, v => by
  simp only [mset]
  by_cases h : p.1 = ks
  ·simp only [h, if_true, mfind]
  ·simp only [h, if_false, mfind, mfind_msetE es ks v]
section
variable {w0 : World} {n : Nat} {F : Frm} {A : List Asrt} {I : List Chunk} {P : Program}
variable {dst : Option Tmp} {ty : TypeId} {pos : String} {af : Array Edge} {gd : Option (Nat × Bool)}
variable {t e kt : TypeId} {d d' : TypeDesc} {s by_ s' by' : Nat} {z z' : List Value} {x y ix : Operand} {b : Nat} {es : KVs} {u : KVs → List Asrt} {k : Nat}
theorem opv_lookup1 {ks : List Int} {vk v : Value} [SelM P A b kt es u] [TyI P t (.map kt e) s by_ z] [TyI P e d' s' by' z'] (hz1 : ∀ w, (zeroValue e).run P w = .ok v w) (hx : ev F x = some (.map (some b))) (hy : ev F y = some vk) (hk : vk = mkv P kt ks) (hi : intAt P 9 kt = some k) (hl : ks.length = k) :
  OpV P w0 n ⟨dst, .lookup t x y false, ty, pos, af, gd⟩ F A I ((mfind es ks).getD v) := by
 intro tt w hf hst
 obtain ⟨ents, clock, hb, hm, hks, hstm⟩ := SelM.at (b := b) (P := P) hst
 have hks' : ∀ p ∈ es, p.1.length = k := fun p hp => by obtain ⟨k', h1, h2⟩ := hks p hp; rw [hi] at h1; injection h1 with h1; omega
 have hck := run_checkKey_int (P := P) 9 kt k hi ents.isEmpty 9991 ks hl w
 have hfk := run_findKey_int (P := P) hi hl ents.toList es hm hks' w
 have hpf := mpos_find es ks 0
 subst hk
 have hck' : (Instr.checkKey ents.isEmpty 10000 kt (mkv P kt ks)).run P w = .ok () w := hck
 simp only [execOp, hf.eval hx, hf.eval hy, Instr.lookup, Sem.run_bind, run_und (P := P) (t := t), Result.andThen_ok, getObj, Sem.run, hb, hck', hfk, Sem.run_pure]
 cases hp : mpos es ks 0 with
 | none =>
  have : mfind es ks = none := by rw [← hpf, hp]; rfl
  simp [this, hz1]
 | some q =>
  have : mfind es ks = some q.2 := by rw [← hpf, hp]; rfl
  simp [this]
theorem opv_lookup1R {ks : List Int} {vk v r : Value} [SelM P A b kt es u] [TyI P t (.map kt e) s by_ z] [TyI P e d' s' by' z'] (hz1 : ∀ w, (zeroValue e).run P w = .ok v w) (hx : ev F x = some (.map (some b))) (hy : ev F y = some vk) (hk : vk = mkv P kt ks) (hi : intAt P 9 kt = some k) (hl : ks.length = k) (hr : (mfind es ks).getD v = r) :
  OpV P w0 n ⟨dst, .lookup t x y false, ty, pos, af, gd⟩ F A I r := hr ▸ opv_lookup1 (P := P) hz1 hx hy hk hi hl
theorem opv_lookup1E {ks : List Int} {vk v r : Value} {hh : Int} [TyI P t (.map kt e) s by_ z] [TyI P e d' s' by' z'] (hz1 : ∀ w, (zeroValue e).run P w = .ok v w) (hx : ev F x = some (.map (some b))) (hy : ev F y = some vk) (hk : vk = mkv P kt ks) (hi : intAt P 9 kt = some k) (hl : ks.length = k) (hr : (mfind es ks).getD v = r) :
  OpV P w0 n ⟨dst, .lookup t x y false, ty, pos, af, gd⟩ F (MapE P kt b es ks hh :: A) I r := by
 subst hr
 exact fun tt w hf hst => opv_lookup1 (P := P) (A := MapA P kt b es :: A) (w0 := w0) (n := n) (I := I) (dst := dst) (ty := ty) (pos := pos) (af := af) (gd := gd) (t := t) hz1 hx hy hk hi hl tt w hf (hst.weaken fun c hc => MapE.a hc)
theorem opg_mapEntry {ks : List Int} {vk zv : Value} [TyI P t (.map kt e) s by_ z] (hz1 : ∀ w, (zeroValue e).run P w = .ok zv w) (hx : ev F x = some (.map (some b))) (hy : ev F y = some vk) (hk : vk = mkv P kt ks) (hi : intAt P 9 kt = some k) (hl : ks.length = k) :
  OpG P w0 n ⟨dst, .mapEntry t x y, ty, pos, af, gd⟩ F (MapA P kt b es :: A) I (fun v A' I' => ∃ hh : Int, v = .tuple [(mfind es ks).getD zv, .int .i64 hh].toArray ∧ A' = MapE P kt b (mset es ks ((mfind es ks).getD zv)) ks hh :: A ∧ I = I') := by
 refine opg_run fun tt w hf hst => ?_
 obtain ⟨cs, h1, h2⟩ := hst
 obtain ⟨c, cs', rfl, ⟨ents, clock, rfl, hm, hks, hstm⟩, hr⟩ := h1.cons_inv
 have hb : w.heap[b]? = some (.map ents clock) := h2.has (b, _) (by simp)
 have hlt : b < w.heap.size := (Array.getElem?_eq_some_iff.1 hb).1
 have hks' : ∀ p ∈ es, p.1.length = k := fun p hp => by obtain ⟨k', h1, h2⟩ := hks p hp; rw [hi] at h1; injection h1 with h1; omega
 have hck : (Instr.checkKey false 10000 kt (mkv P kt ks)).run P w = .ok () w := run_checkKey_int (P := P) 9 kt k hi false 9991 ks hl w
 have hfk := run_findKey_int (P := P) hi hl ents.toList es hm hks' w
 have hpf := mpos_find es ks 0
 have hlen : ents.size = es.length := by have := congrArg List.length hm; simpa using this
 subst hk
 have fin : ∀ (ents' : Array MapEntry) (clock' : Nat) (es' : KVs) (i : Nat) (e : MapEntry) (v : Value), ents'.toList.map (fun e => (e.key, e.val)) = es'.map (fun p => (mkv P kt p.1, p.2)) → (∀ p ∈ es', p.1.length = k) → Stm ents' clock' → ents'[i]? = some e → mpos es' ks 0 = some (i, v) → St w0 { w with heap := w.heap.setIfInBounds b (.map ents' clock') } (MapE P kt b es' ks (e.born : Int) :: A) I := fun ents' clock' es' i e v h3 h4 h5 h6 h7 => by
  have hw := Wd.setObj (by simpa using h2) (.map ents' clock') (w.heap.setIfInBounds b (.map ents' clock')) (by simp) (by simp [hlt]) (fun k hk => by rw [Array.getElem?_setIfInBounds, if_neg (fun h => hk h.symm)])
  exact ⟨[(b, .map ents' clock')] ++ cs', .cons ⟨ents', clock', rfl, h3, fun p hp => ⟨k, hi, h4 p hp⟩, h5, i, e, v, h6, rfl, h7⟩ hr, by simpa using hw⟩
 have hkeys : ∀ v p, p ∈ mset es ks v → p.1.length = k := fun v => mset_keys hl es hks'
 cases hp : mpos es ks 0 with
 | none =>
  have hms := mpos_none es ks 0 hp zv
  have hfn : mfind es ks = none := by rw [← hpf, hp]; rfl
  have hpos : ∀ (es : KVs) (j : Nat), mpos es ks j = none → mpos (es ++ [(ks, zv)]) ks j = some (j + es.length, zv) := by
   intro es
   induction es with
   | nil => intro j _; simp [mpos]
   | cons p es ih =>
    intro j hj
    simp only [mpos] at hj
    split at hj
    ·cases hj
    ·next hne =>
     rw [List.cons_append]
     simp only [mpos, if_neg hne]
     rw [ih (j + 1) hj, List.length_cons]
     congr 2
     omega
  rw [hfn]
  refine ⟨_, _, _, I, ?_, ⟨_, rfl, rfl, rfl⟩, fin (ents.push { key := mkv P kt ks, val := zv, born := clock }) (clock + 1) _ es.length _ zv (by rw [Option.getD_none, hms]; simp [hm]) (by rw [Option.getD_none]; exact hkeys zv) (hstm.push _ _) (by rw [← hlen, Array.getElem?_push_size]) (by rw [Option.getD_none, hms, hpos es 0 hp, Nat.zero_add])⟩
  simp only [execOp, hf.eval hx, hf.eval hy, Instr.mapEntry, Sem.run_bind, run_und (P := P) (t := t), Result.andThen_ok, getObj, setObj, Sem.run, hb, hck, hfk, hp, Sem.run_pure, hz1, goInt, Option.getD_none]
 | some q =>
  obtain ⟨j, v0⟩ := q
  have hfn : mfind es ks = some v0 := by rw [← hpf, hp]; rfl
  obtain ⟨_, p, h1', h2', h3'⟩ := mpos_some es ks 0 j v0 hp
  simp only [Nat.sub_zero] at h1' h3'
  have hj : j < es.length := (List.getElem?_eq_some_iff.1 h1').1
  have hje : ents[j]? = some ents[j] := Array.getElem?_eq_getElem (by omega)
  have hent : ents[j].key = mkv P kt ks ∧ ents[j].val = p.2 := by
   have := congrArg (fun l => l[j]?) hm
   simp only [List.getElem?_map, h1', Option.map_some, Array.getElem?_toList, hje, Option.some.injEq, Prod.mk.injEq] at this
   rw [h2'] at this
   exact this
  have hpv : p.2 = v0 := by
   have hval : ∀ (es : KVs) (i j : Nat) (v : Value), mpos es ks i = some (j, v) → (es[j - i]?).map (·.2) = some v ∧ i ≤ j := by
    intro es
    induction es with
    | nil => intro i j v h; simp [mpos] at h
    | cons r es ih =>
     intro i j v h
     simp only [mpos] at h
     split at h
     ·simp only [Option.some.injEq, Prod.mk.injEq] at h
      obtain ⟨rfl, rfl⟩ := h
      simp
     ·obtain ⟨h8, h9⟩ := ih (i + 1) j v h
      refine ⟨?_, by omega⟩
      rw [show j - i = (j - (i + 1)) + 1 by omega]
      simpa using h8
   have := (hval es 0 j v0 hp).1
   rw [Nat.sub_zero, h1'] at this
   simpa using this
  have hes : mset es ks v0 = es := by
   rw [h3' v0]
   apply List.ext_getElem?
   intro i
   rw [List.getElem?_set]
   by_cases hij : j = i
   ·subst hij
    rw [if_pos rfl, if_pos hj, h1']
    congr 1
    exact Prod.ext h2'.symm hpv.symm
   ·rw [if_neg hij]
  rw [hfn]
  have hmod : (ents.modify j fun e => { e with key := mkv P kt ks, val := e.val }).toList.map (fun e => (e.key, e.val)) = es.map (fun p => (mkv P kt p.1, p.2)) := by
   rw [← hm]
   apply List.ext_getElem?
   intro i
   simp only [List.getElem?_map, Array.getElem?_toList, Array.getElem?_modify]
   by_cases hij : j = i
   ·subst hij
    rw [if_pos rfl, hje]
    simp only [Option.map_some, hent.1]
   ·rw [if_neg hij]
  have hst' : Stm (ents.modify j fun e => { e with key := mkv P kt ks, val := e.val }) clock := by
   have : (ents.modify j fun e => { e with key := mkv P kt ks, val := e.val }) = (ents.modify j fun e => { e with key := mkv P kt ks, val := ents[j].val }) := by
    apply Array.ext_getElem?
    intro i
    simp only [Array.getElem?_modify]
    by_cases hij : j = i
    ·subst hij
     rw [if_pos rfl, if_pos rfl, hje]
     rfl
    ·rw [if_neg hij, if_neg hij]
   rw [this]
   exact hstm.modify _ _ _
  refine ⟨_, _, _, I, ?_, ⟨_, rfl, rfl, rfl⟩, fin (ents.modify j fun e => { e with key := mkv P kt ks, val := e.val }) clock _ j { ents[j] with key := mkv P kt ks, val := ents[j].val } v0 (by rw [Option.getD_some, hes]; exact hmod) (by rw [Option.getD_some]; exact hkeys v0) hst' (by rw [Array.getElem?_modify, if_pos rfl, hje]; rfl) (by rw [Option.getD_some, hes]; exact hp)⟩
  simp only [execOp, hf.eval hx, hf.eval hy, Instr.mapEntry, Sem.run_bind, run_und (P := P) (t := t), Result.andThen_ok, getObj, setObj, Sem.run, hb, hck, hfk, hp, Sem.run_pure, hje, Option.map_some, Option.getD_some, hent.1, Instr.keyThatStays, sameBits_mkv, if_true, goInt]
theorem opg_entryStore {ks : List Int} {v : Value} {hh : Int} {ym : Operand} (hx : ev F x = some (.map (some b))) (hy : ev F y = some (.int .i64 hh)) (hv : ev F ym = some v) :
  OpG P w0 n ⟨dst, .entryStore t x y ym, ty, pos, af, gd⟩ F (MapE P kt b es ks hh :: A) I (fun _ A' I' => A' = MapA P kt b (mset es ks v) :: A ∧ I = I') := by
 refine opg_unit fun tt w hf hst => ?_
 obtain ⟨cs, h1, h2⟩ := hst
 obtain ⟨c, cs', rfl, ⟨ents, clock, rfl, hm, hks, hstm, i, e, v0, hie, hborn, hpos⟩, hr⟩ := h1.cons_inv
 have hb : w.heap[b]? = some (.map ents clock) := h2.has (b, _) (by simp)
 have hlt : b < w.heap.size := (Array.getElem?_eq_some_iff.1 hb).1
 have hil : i < ents.size := (Array.getElem?_eq_some_iff.1 hie).1
 have hie' : ents[i] = e := (Array.getElem?_eq_some_iff.1 hie).2
 obtain ⟨_, p, hp1, hp2, hp3⟩ := mpos_some es ks 0 i v0 hpos
 simp only [Nat.sub_zero] at hp1 hp3
 have hil2 : i < es.length := (List.getElem?_eq_some_iff.1 hp1).1
 have hfi : ents.findIdx? (fun e => (e.born : Int) == hh) = some i := by
  rw [Array.findIdx?_eq_some_iff_getElem]
  refine ⟨hil, by rw [hie', hborn]; simp, fun j hj => ?_⟩
  have hnd := hstm.1
  intro hc
  have hc : (ents[j].born : Int) = hh := by simpa using hc
  have e2 : ents[j].born = ents[i].born := by rw [hie']; omega
  have : j = i := by
   have h5 := (List.getElem_inj (i := j) (j := i) (h₀ := by simp; omega) (h₁ := by simp; omega) hnd).1 (by simpa using e2)
   exact h5
  omega
 refine ⟨{ w with heap := w.heap.setIfInBounds b (.map (ents.modify i fun e => { e with val := v }) clock) }, _, I, ?_, ⟨rfl, rfl⟩, ?_⟩
 ·simp only [execOp, hf.eval hx, hf.eval hy, hf.eval hv, Instr.entryStore, Sem.run_bind, Result.andThen_ok, getObj, setObj, Sem.run, hb, asInt, asIntOf, Sem.run_pure, hfi]
 ·have hw := Wd.setObj (by simpa using h2) (.map (ents.modify i fun e => { e with val := v }) clock) (w.heap.setIfInBounds b (.map (ents.modify i fun e => { e with val := v }) clock)) (by simp) (by simp [hlt]) (fun k hk => by rw [Array.getElem?_setIfInBounds, if_neg (fun h => hk h.symm)])
  have hkey : e.key = mkv P kt ks := by
   have := congrArg (fun l => l[i]?) hm
   simp only [List.getElem?_map, hp1, Option.map_some, Array.getElem?_toList, hie, Option.some.injEq, Prod.mk.injEq] at this
   rw [hp2] at this
   exact this.1
  have hmod : (ents.modify i fun e => { e with val := v }) = (ents.modify i fun e => { e with key := mkv P kt ks, val := v }) := by
   apply Array.ext_getElem?
   intro j
   simp only [Array.getElem?_modify]
   by_cases hij : i = j
   ·subst hij
    rw [if_pos rfl, if_pos rfl, hie]
    simp only [Option.map_some, hkey]
   ·rw [if_neg hij, if_neg hij]
  refine ⟨[(b, .map (ents.modify i fun e => { e with val := v }) clock)] ++ cs', .cons ⟨_, clock, rfl, ?_, ?_, ?_⟩ hr, by simpa using hw⟩
  ·rw [hp3 v]
   apply List.ext_getElem?
   intro j
   have hmj := congrArg (fun l => l[j]?) hm
   simp only [List.getElem?_map, Array.getElem?_toList] at hmj
   simp only [List.getElem?_map, Array.getElem?_toList, Array.getElem?_modify, List.getElem?_set]
   by_cases hij : i = j
   ·subst hij
    rw [if_pos rfl, if_pos rfl, if_pos hil2, hie]
    simp only [Option.map_some, hkey]
   ·rw [if_neg hij, if_neg hij]
    exact hmj
  ·intro p hp
   obtain ⟨k', hk1, hk2⟩ := hks _ (List.mem_of_getElem? hp1)
   rw [hp2] at hk2
   refine ⟨k', hk1, mset_keys hk2 es (fun q hq => ?_) p hp⟩
   obtain ⟨k2, h6, h7⟩ := hks q hq
   rw [hk1] at h6
   injection h6 with h6
   omega
  ·rw [hmod]
   exact hstm.modify _ _ _
end
end Go.GL


set_option linter.unusedVariables false
namespace Go.GL
/-! ### How many neighbours cells have, as a map; a cell itself counts ten -/
abbrev NM := List (Cell × Int)
namespace R2
def keyOf (c : Cell) : List Int := [c.x, c.y]
def kvs (nm : NM) : KVs := nm.map fun p => (keyOf p.1, .int .i64 p.2)
def get : NM → Cell → Int
 | [], _ => 0
 | p :: nm, c => if p.1 = c then p.2 else get nm c
def bump : NM → Cell → Int → NM
 | [], c, d => [(c, d)]
 | p :: nm, c, d => if p.1 = c then (c, p.2 + d) :: nm else p :: bump nm c d
theorem keyOf_inj {a b : Cell} : keyOf a = keyOf b ↔ a = b := by
 cases a; cases b; simp [keyOf]
theorem get_find : ∀ (nm : NM) (c : Cell), (mfind (kvs nm) (keyOf c)).getD (.int .i64 0) = .int .i64 (get nm c)
 | [], c => rfl
 | p :: nm, c => by
  have ih := get_find nm c
  unfold kvs at ih
  simp only [kvs, List.map_cons, mfind, get, keyOf_inj]
  by_cases h : p.1 = c
  ·rw [if_pos h, if_pos h]; rfl
  ·rw [if_neg h, if_neg h]; exact ih
theorem mset_bump : ∀ (nm : NM) (c : Cell) (d : Int), mset (kvs nm) (keyOf c) (.int .i64 (get nm c + d)) = kvs (bump nm c d)
 | [], c, d => by simp [kvs, mset, get, bump]
 | p :: nm, c, d => by
  have ih := mset_bump nm c d
  unfold kvs at ih
  simp only [kvs, List.map_cons, mset, get, bump, keyOf_inj]
  by_cases h : p.1 = c
  ·rw [if_pos h, if_pos h, if_pos h]; rfl
  ·rw [if_neg h, if_neg h, if_neg h, List.map_cons, ← ih]
theorem get_bump : ∀ (nm : NM) (c e : Cell) (d : Int), get (bump nm c d) e = get nm e + if c = e then d else 0
 | [], c, e, d => by simp [get, bump]
 | p :: nm, c, e, d => by
  have ih := get_bump nm c e d
  simp only [bump]
  by_cases h : p.1 = c
  ·rw [if_pos h]
   subst h
   simp only [get]
   by_cases h2 : p.1 = e
   ·simp [h2]
   ·simp [h2]
  ·rw [if_neg h]
   simp only [get]
   by_cases h2 : p.1 = e
   ·subst h2
    rw [if_pos rfl, if_pos rfl, if_neg (fun e => h e.symm)]
    omega
   ·rw [if_neg h2, if_neg h2, ih]
theorem keys_bump : ∀ (nm : NM) (c : Cell) (d : Int) (e : Cell), e ∈ (bump nm c d).map (·.1) ↔ e = c ∨ e ∈ nm.map (·.1)
 | [], c, d, e => by simp [bump]
 | p :: nm, c, d, e => by
  have ih := keys_bump nm c d e
  simp only [bump]
  by_cases h : p.1 = c
  ·rw [if_pos h, List.map_cons, List.map_cons, List.mem_cons, List.mem_cons, h]
   exact ⟨fun k => k.elim .inl fun k => .inr (.inr k), fun k => k.elim .inl fun k => k.elim .inl .inr⟩
  ·rw [if_neg h, List.map_cons, List.map_cons, List.mem_cons, List.mem_cons, ih]
   exact ⟨fun k => k.elim (fun k => .inr (.inl k)) fun k => k.elim .inl fun k => .inr (.inr k), fun k => k.elim (fun k => .inr (.inl k)) fun k => k.elim .inl fun k => .inr (.inr k)⟩
theorem nodup_bump : ∀ (nm : NM) (c : Cell) (d : Int), (nm.map (·.1)).Nodup → ((bump nm c d).map (·.1)).Nodup
 | [], c, d, _ => by simp [bump]
 | p :: nm, c, d, h => by
  rw [List.map_cons, List.nodup_cons] at h
  simp only [bump]
  by_cases h2 : p.1 = c
  ·rw [if_pos h2, List.map_cons, List.nodup_cons, ← h2]
   exact h
  ·rw [if_neg h2, List.map_cons, List.nodup_cons, keys_bump]
   exact ⟨fun k => k.elim h2 h.1, nodup_bump nm c d h.2⟩
theorem get_mem : ∀ {nm : NM}, (nm.map (·.1)).Nodup → ∀ p, p ∈ nm → get nm p.1 = p.2
 | [], _, p, hp => by cases hp
 | q :: nm, h, p, hp => by
  rw [List.map_cons, List.nodup_cons] at h
  simp only [get]
  rcases List.mem_cons.1 hp with rfl | hp
  ·rw [if_pos rfl]
  ·rw [if_neg (fun e : q.1 = p.1 => h.1 (by rw [e]; exact List.mem_map.2 ⟨p, hp, rfl⟩))]
   exact get_mem h.2 p hp
/-- The first k of the nine about a cell count one each. -/
def nines (c : Cell) : Nat → NM → NM
 | 0, nm => nm
 | k + 1, nm => bump (nines c k nm) (nb c k) 1
def one (c : Cell) (nm : NM) : NM := bump (nines c 9 nm) c 9
def counts (l : List Cell) : NM := l.foldl (fun nm c => one c nm) []
theorem nb_inj {c : Cell} {i j : Nat} (hi : i < 9) (hj : j < 9) (h : nb c i = nb c j) : i = j := by
 unfold nb at h
 simp only [Cell.mk.injEq] at h
 omega
theorem get_nines (c e : Cell) (nm : NM) : ∀ k, k ≤ 9 → get (nines c k nm) e = get nm e + if ∃ j, j < k ∧ nb c j = e then 1 else 0
 | 0, _ => by simp [nines]
 | k + 1, h => by
  rw [nines, get_bump, get_nines c e nm k (by omega)]
  by_cases h1 : nb c k = e
  ·rw [if_pos h1, if_neg (fun ⟨j, h2, h3⟩ => by have := nb_inj (c := c) (i := j) (j := k) (by omega) (by omega) (h3.trans h1.symm); omega), if_pos ⟨k, by omega, h1⟩]
   omega
  ·rw [if_neg h1]
   have : (∃ j, j < k + 1 ∧ nb c j = e) ↔ ∃ j, j < k ∧ nb c j = e := ⟨fun ⟨j, h2, h3⟩ => ⟨j, by
    have : j ≠ k := fun e => h1 (e ▸ h3)
    omega, h3⟩, fun ⟨j, h2, h3⟩ => ⟨j, by omega, h3⟩⟩
   simp only [this]
   omega
theorem nb_near {c e : Cell} : (∃ j, j < 9 ∧ nb c j = e) ↔ near e c ∨ c = e := by
 constructor
 ·rintro ⟨j, hj, rfl⟩
  by_cases h : j = 4
  ·subst h
   right
   cases c
   simp [nb]
  ·left
   unfold near nb
   refine ⟨by simp only; omega, by simp only; omega, by simp only; omega, by simp only; omega, fun e => h ?_⟩
   cases c
   simp only [Cell.mk.injEq] at e
   omega
 ·rintro (h | rfl)
  ·obtain ⟨h1, h2, h3, h4, _⟩ := h
   refine ⟨(3 * (e.y - c.y + 1) + (e.x - c.x + 1)).toNat, by omega, ?_⟩
   cases e
   simp only [nb, Cell.mk.injEq]
   simp only at h1 h2 h3 h4
   omega
  ·refine ⟨4, by omega, ?_⟩
   cases c
   simp [nb]
theorem near_irrefl (c : Cell) : ¬ near c c := fun h => h.2.2.2.2 rfl
theorem get_one (c e : Cell) (nm : NM) : get (one c nm) e = get nm e + (if near e c then 1 else 0) + if c = e then 10 else 0 := by
 rw [one, get_bump, get_nines c e nm 9 (by omega)]
 by_cases h1 : c = e
 ·subst h1
  rw [if_pos rfl, if_pos rfl, if_neg (near_irrefl c), if_pos (nb_near.2 (.inr rfl))]
  omega
 ·rw [if_neg h1, if_neg h1]
  by_cases h2 : near e c
  ·rw [if_pos (nb_near.2 (.inl h2)), if_pos h2]
  ·rw [if_neg (fun k => (nb_near.1 k).elim h2 h1), if_neg h2]
theorem keys_nines (c e : Cell) (nm : NM) : ∀ k, e ∈ (nines c k nm).map (·.1) ↔ (∃ j, j < k ∧ nb c j = e) ∨ e ∈ nm.map (·.1)
 | 0 => by simp [nines]
 | k + 1 => by
  rw [nines, keys_bump, keys_nines c e nm k]
  constructor
  ·rintro (rfl | ⟨j, h1, h2⟩ | h)
   ·exact .inl ⟨k, by omega, rfl⟩
   ·exact .inl ⟨j, by omega, h2⟩
   ·exact .inr h
  ·rintro (⟨j, h1, h2⟩ | h)
   ·by_cases e1 : j = k
    ·subst e1; exact .inl h2.symm
    ·exact .inr (.inl ⟨j, by omega, h2⟩)
   ·exact .inr (.inr h)
theorem keys_one (c e : Cell) (nm : NM) : e ∈ (one c nm).map (·.1) ↔ (∃ j, j < 9 ∧ nb c j = e) ∨ e ∈ nm.map (·.1) := by
 rw [one, keys_bump, keys_nines]
 constructor
 ·rintro (rfl | h)
  ·exact .inl (nb_near.2 (.inr rfl))
  ·exact h
 ·exact .inr
theorem nodup_nines (c : Cell) (nm : NM) (h : (nm.map (·.1)).Nodup) : ∀ k, ((nines c k nm).map (·.1)).Nodup
 | 0 => h
 | k + 1 => nodup_bump _ _ _ (nodup_nines c nm h k)
theorem counts_all : ∀ (l : List Cell) (nm : NM), (nm.map (·.1)).Nodup → ((l.foldl (fun nm c => one c nm) nm).map (·.1)).Nodup ∧ (∀ e, e ∈ (l.foldl (fun nm c => one c nm) nm).map (·.1) ↔ (∃ d ∈ l, ∃ j, j < 9 ∧ nb d j = e) ∨ e ∈ nm.map (·.1)) ∧ ∀ e, get (l.foldl (fun nm c => one c nm) nm) e = get nm e + around l e + 10 * (l.count e : Nat)
 | [], nm, h => ⟨h, fun e => by simp, fun e => by simp [around]⟩
 | c :: l, nm, h => by
  obtain ⟨h1, h2, h3⟩ := counts_all l (one c nm) (nodup_bump _ _ _ (nodup_nines c nm h 9))
  rw [List.foldl_cons]
  refine ⟨h1, fun e => ?_, fun e => ?_⟩
  ·rw [h2, keys_one]
   constructor
   ·rintro (⟨d, hd, j, h4, h5⟩ | ⟨j, h4, h5⟩ | h4)
    ·exact .inl ⟨d, List.mem_cons_of_mem _ hd, j, h4, h5⟩
    ·exact .inl ⟨c, List.mem_cons_self, j, h4, h5⟩
    ·exact .inr h4
   ·rintro (⟨d, hd, j, h4, h5⟩ | h4)
    ·rcases List.mem_cons.1 hd with rfl | hd
     ·exact .inr (.inl ⟨j, h4, h5⟩)
     ·exact .inl ⟨d, hd, j, h4, h5⟩
    ·exact .inr (.inr h4)
  ·rw [h3, get_one, List.count_cons]
   unfold around
   rw [List.filter_cons]
   by_cases h4 : near e c
   ·by_cases h5 : c = e
    ·subst h5; exact absurd h4 (near_irrefl c)
    ·simp [h4, h5]; omega
   ·by_cases h5 : c = e
    ·subst h5; simp [near_irrefl]; omega
    ·simp [h4, h5]
theorem counts_get (l : List Cell) (e : Cell) : get (counts l) e = around l e + 10 * (l.count e : Nat) := by
 rw [counts, (counts_all l [] (by simp)).2.2 e]
 simp [get]
theorem counts_keys (l : List Cell) (e : Cell) : e ∈ (counts l).map (·.1) ↔ ∃ d ∈ l, ∃ j, j < 9 ∧ nb d j = e := by
 rw [counts, (counts_all l [] (by simp)).2.1 e]
 simp
theorem counts_nodup (l : List Cell) : ((counts l).map (·.1)).Nodup := (counts_all l [] (by simp)).1
theorem around_8 {l : List Cell} (h : l.Nodup) (e : Cell) : 0 ≤ around l e ∧ around l e ≤ 8 := by
 rw [around_cnt e h]
 unfold cntL
 have key : ∀ b : Bool, 0 ≤ R8.b2i b ∧ R8.b2i b ≤ 1 := fun b => by cases b <;> simp [R8.b2i]
 have h1 := key (decide (at8 e (-1) (-1) ∈ l))
 have h2 := key (decide (at8 e 0 (-1) ∈ l))
 have h3 := key (decide (at8 e 1 (-1) ∈ l))
 have h4 := key (decide (at8 e (-1) 0 ∈ l))
 have h5 := key (decide (at8 e 1 0 ∈ l))
 have h6 := key (decide (at8 e (-1) 1 ∈ l))
 have h7 := key (decide (at8 e 0 1 ∈ l))
 have h8 := key (decide (at8 e 1 1 ∈ l))
 omega
/-- What lives on of a map of counts. -/
def outOf (p : List Int × Value) : Option Cell :=
 match p with
 | ([x, y], .int .i64 n) => if lives (decide (10 ≤ n)) (n % 10) then some ⟨x, y⟩ else none
 | _ => none
theorem outOf_kv (c : Cell) (n : Int) : outOf (keyOf c, .int .i64 n) = if lives (decide (10 ≤ n)) (n % 10) then some c else none := by
 cases c
 rfl
theorem count_one : ∀ {l : List Cell} {e : Cell}, l.Nodup → e ∈ l → l.count e = 1
 | a :: l, e, h, h1 => by
  rw [List.nodup_cons] at h
  rw [List.count_cons]
  rcases List.mem_cons.1 h1 with rfl | h1
  ·rw [List.count_eq_zero.2 h.1]; simp
  ·rw [count_one h.2 h1, if_neg]
   intro k
   have k : a = e := by simpa using k
   exact h.1 (k ▸ h1)
theorem count_nodup {l : List Cell} (h : l.Nodup) (e : Cell) : l.count e = if e ∈ l then 1 else 0 := by
 split
 ·next h1 => exact count_one h h1
 ·next h1 => exact List.count_eq_zero.2 h1
theorem counts_live {l : List Cell} (h : l.Nodup) (e : Cell) : lives (decide (10 ≤ get (counts l) e)) (get (counts l) e % 10) = livesAt l e := by
 have h1 := around_8 h e
 rw [counts_get, count_nodup h]
 unfold livesAt
 by_cases h2 : e ∈ l
 ·rw [if_pos h2, decide_eq_true (by omega), decide_eq_true h2]
  congr 1
  omega
 ·rw [if_neg h2, decide_eq_false (by omega), decide_eq_false h2]
  congr 1
  omega
/-- In whatever order the map is gone through, there comes out what the document says. -/
theorem next_out {l : List Cell} (hr : R1.right l) {es : KVs} (h : es.Perm (kvs (counts l))) : R1.of (es.filterMap outOf) = R1.of (cands l) := by
 have hnd : l.Nodup := R1.srt_nodup (R1.right_srt hr)
 refine R1.of_ext fun d => ?_
 rw [(h.filterMap outOf).mem_iff, List.mem_filterMap]
 unfold cands about
 rw [List.mem_flatMap]
 constructor
 ·rintro ⟨p, hp, hd⟩
  obtain ⟨q, hq, rfl⟩ := List.mem_map.1 hp
  rw [outOf_kv] at hd
  have hg := get_mem (counts_nodup l) q hq
  rw [← hg, counts_live hnd] at hd
  split at hd
  ·next hl =>
   injection hd with hd
   subst hd
   obtain ⟨c, hc, j, hj, e⟩ := (counts_keys l q.1).1 (List.mem_map.2 ⟨q, hq, rfl⟩)
   exact ⟨c, hc, List.mem_filter.2 ⟨List.mem_map.2 ⟨j, List.mem_range.2 hj, e⟩, hl⟩⟩
  ·cases hd
 ·rintro ⟨c, hc, hd⟩
  obtain ⟨h1, h2⟩ := List.mem_filter.1 hd
  obtain ⟨j, hj, e⟩ := List.mem_map.1 h1
  obtain ⟨q, hq, e2⟩ := List.mem_map.1 ((counts_keys l d).2 ⟨c, hc, j, List.mem_range.1 hj, e⟩)
  refine ⟨_, List.mem_map.2 ⟨q, hq, rfl⟩, ?_⟩
  rw [outOf_kv, ← get_mem (counts_nodup l) q hq, counts_live hnd, e2, if_pos h2]
theorem counts_ge (l : List Cell) (e : Cell) : 0 ≤ get (counts l) e := by
 rw [counts_get]
 unfold around
 omega
theorem get_le : ∀ (l : List Cell) (nm : NM) (m : Int) (e : Cell), (∀ e, 0 ≤ get nm e ∧ get nm e ≤ m) → 0 ≤ get (l.foldl (fun nm c => one c nm) nm) e ∧ get (l.foldl (fun nm c => one c nm) nm) e ≤ m + 11 * l.length
 | [], nm, m, e, h => by have := h e; simp only [List.foldl_nil, List.length_nil]; omega
 | c :: l, nm, m, e, h => by
  have := get_le l (one c nm) (m + 11) e (fun e => by
   have := h e
   rw [get_one]
   split <;> split <;> omega)
  rw [List.foldl_cons, List.length_cons]
  omega
theorem nines_le {c : Cell} {nm : NM} {m : Int} (h : ∀ e, 0 ≤ get nm e ∧ get nm e ≤ m) (k : Nat) (hk : k ≤ 9) (e : Cell) : 0 ≤ get (nines c k nm) e ∧ get (nines c k nm) e ≤ m + 1 := by
 have := h e
 rw [get_nines c e nm k hk]
 split <;> omega
theorem counts_take (l : List Cell) {i : Nat} (hi : i < l.length) : counts (l.take (i + 1)) = one (l.getD i default) (counts (l.take i)) := by
 unfold counts
 rw [List.take_succ_eq_append_getElem hi, List.foldl_append]
 simp [hi]
theorem len_bump (nm : NM) (c : Cell) (d : Int) : (bump nm c d).length ≤ nm.length + 1 := by
 induction nm with
 | nil => simp [bump]
 | cons p nm ih =>
  simp only [bump]
  split
  ·simp
  ·simp only [List.length_cons]; omega
theorem len_nines (c : Cell) (nm : NM) : ∀ k, (nines c k nm).length ≤ nm.length + k
 | 0 => by simp [nines]
 | k + 1 => by
  have h1 := len_bump (nines c k nm) (nb c k) 1
  have h2 := len_nines c nm k
  rw [nines]
  omega
theorem len_counts : ∀ (l : List Cell) (nm : NM), (l.foldl (fun nm c => one c nm) nm).length ≤ nm.length + 10 * l.length
 | [], nm => by simp
 | c :: l, nm => by
  have h1 := len_counts l (one c nm)
  have h2 := len_bump (nines c 9 nm) c 9
  have h3 := len_nines c nm 9
  rw [List.foldl_cons, List.length_cons]
  unfold one at h1 ⊢
  omega
end R2
end Go.GL


set_option linter.unusedVariables false
namespace Go.GL
/-! ### A range over a map, in whatever order -/
/-- The map in block b, and the iterator in block r: 'rem' is still to come. -/
def MapIt (P : Program) (kt : TypeId) (b r : Nat) (es rem : KVs) : Asrt := fun c => ∃ ents clock seen c0, c = [(b, .map ents clock), (r, .mapIter (some b) clock seen c0)] ∧ ents.toList.map (fun e => (e.key, e.val)) = es.map (fun p => (mkv P kt p.1, p.2)) ∧ (∀ p ∈ es, ∃ k, intAt P 9 kt = some k ∧ p.1.length = k) ∧ Stm ents clock ∧ clock ≤ c0 ∧ (leftOf ents seen).toList.map (fun e => (e.key, e.val)) = rem.map (fun p => (mkv P kt p.1, p.2))
section
variable {w0 : World} {n : Nat} {F : Frm} {A : List Asrt} {I : List Chunk} {P : Program}
variable {dst : Option Tmp} {ty : TypeId} {pos : String} {af : Array Edge} {gd : Option (Nat × Bool)}
variable {t e kt : TypeId} {d : TypeDesc} {s by_ : Nat} {z : List Value} {x : Operand} {b r : Nat} {es rem : KVs}
theorem opg_range [TyI P t (.map kt e) s by_ z] (hx : ev F x = some (.map (some b))) : OpG P w0 n ⟨dst, .range t x, ty, pos, af, gd⟩ F (MapA P kt b es :: A) I (fun v A' I' => ∃ r, v = pt r 0 ∧ A' = MapIt P kt b r es es :: A ∧ I = I') := by
 refine opg_run fun tt w hf hst => ?_
 obtain ⟨cs, h1, h2⟩ := hst
 obtain ⟨c, cs', rfl, ⟨ents, clock, rfl, h3, h4, h5⟩, hr⟩ := h1.cons_inv
 have hb : w.heap[b]? = some (.map ents clock) := h2.has (b, _) (by simp)
 refine ⟨_, w.alloc (.mapIter (some b) clock #[] clock), _, I, ?_, ⟨w.heap.size, rfl, rfl, rfl⟩, ?_⟩
 ·simp only [execOp, hf.eval hx, Instr.range, Sem.run_bind, run_und (P := P) (t := t), Result.andThen_ok, getObj, Sem.run, hb, Sem.run_pure]
  rfl
 ·have hw := h2.alloc (.mapIter (some b) clock #[] clock)
  refine ⟨[(b, .map ents clock), (w.heap.size, .mapIter (some b) clock #[] clock)] ++ cs', .cons ⟨ents, clock, #[], clock, rfl, h3, h4, h5, Nat.le_refl _, ?_⟩ hr, hw.perm ?_⟩
  ·rw [← h3]
   have : leftOf ents #[] = ents := by simp [leftOf]
   rw [this]
  ·simp only [List.cons_append, List.nil_append]
   exact List.Perm.swap _ _ _
theorem left_split {α β : Type} {g : MapEntry → β} {f : α → β} {e : MapEntry} : ∀ (L : List MapEntry) (rem : List α), L.map g = rem.map f → (L.map (·.born)).Nodup → e ∈ L → ∃ p rest, rem.Perm (p :: rest) ∧ g e = f p ∧ (L.filter fun x => !(x.born == e.born)).map g = rest.map f
 | [], _, _, _, h => by cases h
 | x :: L, [], h, _, _ => by simp at h
 | x :: L, q :: rem, h, hn, he => by
  simp only [List.map_cons, List.cons.injEq] at h
  simp only [List.map_cons, List.nodup_cons] at hn
  rcases List.mem_cons.1 he with rfl | he
  ·refine ⟨q, rem, .refl _, h.1, ?_⟩
   rw [List.filter_cons_of_neg (by simp), List.filter_eq_self.2 (fun y hy => ?_)]
   ·exact h.2
   ·have : y.born ≠ e.born := fun k => hn.1 (k ▸ List.mem_map.2 ⟨y, hy, rfl⟩)
    simpa using this
  ·obtain ⟨p, rest, h1, h2, h3⟩ := left_split L rem h.2 hn.2 he
   have hne : x.born ≠ e.born := fun k => hn.1 (k ▸ List.mem_map.2 ⟨e, he, rfl⟩)
   refine ⟨p, q :: rest, (List.Perm.cons q h1).trans (List.Perm.swap _ _ _), h2, ?_⟩
   rw [List.filter_cons_of_pos (by simpa using hne)]
   simp only [List.map_cons, h.1, h3]
theorem nodup_left {ents : Array MapEntry} (h : (ents.toList.map (·.born)).Nodup) (seen : Array Nat) : ((leftOf ents seen).toList.map (·.born)).Nodup := by
 unfold leftOf
 rw [Array.toList_filter]
 exact (List.filter_sublist.map _).nodup h
theorem left_push (ents : Array MapEntry) (seen : Array Nat) (k : Nat) : (leftOf ents (seen.push k)).toList = (leftOf ents seen).toList.filter fun x => !(x.born == k) := by
 unfold leftOf
 rw [Array.toList_filter, Array.toList_filter, List.filter_filter]
 apply List.filter_congr
 intro x _
 rw [Array.contains_push, Bool.not_or, Bool.and_comm]
/-- As MapIt; 'cur' is what the last step gave. -/
def MapJ (P : Program) (kt : TypeId) (b r : Nat) (es rem : KVs) (cur : Option (List Int × Value)) : Asrt := fun c => ∃ ents clock seen c0, c = [(b, .map ents clock), (r, .mapIter (some b) clock seen c0)] ∧ ents.toList.map (fun e => (e.key, e.val)) = es.map (fun p => (mkv P kt p.1, p.2)) ∧ (∀ p ∈ es, ∃ k, intAt P 9 kt = some k ∧ p.1.length = k) ∧ Stm ents clock ∧ clock ≤ c0 ∧ (leftOf ents seen).toList.map (fun e => (e.key, e.val)) = rem.map (fun p => (mkv P kt p.1, p.2)) ∧ ∀ p, cur = some p → c0 = clock ∧ ∃ (seen0 : Array Nat) (e : MapEntry), seen = seen0.push e.born ∧ e ∈ ents.toList ∧ e.key = mkv P kt p.1 ∧ e.val = p.2
theorem MapJ.a {cur : Option (List Int × Value)} {c : List Chunk} (h : MapJ P kt b r es rem cur c) : MapIt P kt b r es rem c := by
 obtain ⟨ents, clock, seen, c0, h1, h2, h3, h4, h5, h6, _⟩ := h
 exact ⟨ents, clock, seen, c0, h1, h2, h3, h4, h5, h6⟩
theorem opg_nextU (hx : ev F x = some (pt r 0)) : OpG P w0 n ⟨dst, .next x false, ty, pos, af, gd⟩ F (MapIt P kt b r es rem :: A) I (fun v A' I' => ∃ (more : Bool) (tl : List Value) (rest : KVs) (cur : Option (List Int × Value)), v = .tuple (.bool more :: tl).toArray ∧ A' = MapJ P kt b r es rest cur :: A ∧ I = I' ∧ ((more = false ∧ rem = []) ∨ (more = true ∧ ∃ p, cur = some p ∧ rem.Perm (p :: rest)))) := by
 refine opg_run fun tt w hf hst => ?_
 obtain ⟨cs, h1, h2⟩ := hst
 obtain ⟨c, cs', rfl, ⟨ents, clock, seen, c0, rfl, h3, h4, h5, h6, h7⟩, hr⟩ := h1.cons_inv
 have hb : w.heap[b]? = some (.map ents clock) := h2.has (b, _) (by simp)
 have hi : w.heap[r]? = some (.mapIter (some b) clock seen c0) := h2.has (r, _) (by simp)
 have hlt : r < w.heap.size := (Array.getElem?_eq_some_iff.1 hi).1
 rcases run_next_at (P := P) w ty r b clock c0 seen ents clock hi hb (fun x hx => h5.2 x hx) h6 with ⟨h8, h9⟩ | ⟨e, he, w1, hw1, h9⟩
 ·refine ⟨_, w, _, I, ?_, ⟨false, [], rem, none, rfl, rfl, rfl, .inl ⟨rfl, ?_⟩⟩, ⟨_, .cons ⟨ents, clock, seen, c0, rfl, h3, h4, h5, h6, h7, fun _ h => by cases h⟩ hr, h2⟩⟩
  ·simp only [execOp, hf.eval hx, Sem.run_bind]
   rw [h9]
   rfl
  ·have := congrArg List.length h7
   simp only [List.length_map] at this
   exact List.eq_nil_of_length_eq_zero (by rw [← this]; simpa using h8)
 ·obtain ⟨p, rest, hp, hg, hrest⟩ := left_split _ _ h7 (nodup_left h5.1 seen) he
  simp only [Prod.mk.injEq] at hg
  refine ⟨_, Go.ChangeMaps.setBlock w1 r (.mapIter (some b) clock (seen.push e.born) clock), _, I, ?_, ⟨true, [mkv P kt p.1, p.2], rest, some p, rfl, rfl, rfl, .inr ⟨rfl, p, rfl, hp⟩⟩, ?_⟩
  ·simp only [execOp, hf.eval hx, Sem.run_bind]
   rw [h9, hg.1, hg.2]
   rfl
  ·have hw : Wd w0 w1 ([(r, Obj.mapIter (some b) clock seen c0)] ++ ([(b, Obj.map ents clock)] ++ (cs' ++ I))) := by
    have h10 : Wd w0 w ([(r, Obj.mapIter (some b) clock seen c0)] ++ ([(b, Obj.map ents clock)] ++ (cs' ++ I))) := h2.perm (by simp only [List.cons_append, List.nil_append]; exact List.Perm.swap _ _ _)
    rcases hw1 with rfl | rfl
    ·exact h10
    ·exact h10.drawn _ (Nat.le_succ _)
   have hr1 : w1.heap = w.heap := by rcases hw1 with rfl | rfl <;> rfl
   have hw' := Wd.setObj (by simpa using hw) (.mapIter (some b) clock (seen.push e.born) clock) (Go.ChangeMaps.setBlock w1 r (.mapIter (some b) clock (seen.push e.born) clock)).heap (by simp [Go.ChangeMaps.setBlock]) (by simp [Go.ChangeMaps.setBlock, hr1, hlt]) (fun k hk => by
    simp only [Go.ChangeMaps.setBlock]
    rw [Array.getElem?_setIfInBounds, if_neg (fun h => hk h.symm)])
   have hein : e ∈ ents.toList := by
    unfold leftOf at he
    rw [Array.toList_filter] at he
    exact (List.mem_filter.1 he).1
   refine ⟨[(b, .map ents clock), (r, .mapIter (some b) clock (seen.push e.born) clock)] ++ cs', .cons ⟨ents, clock, seen.push e.born, clock, rfl, h3, h4, h5, Nat.le_refl _, ?_, fun q hq => ?_⟩ hr, hw'.perm ?_⟩
   ·rw [left_push]
    exact hrest
   ·injection hq with hq
    subst hq
    exact ⟨rfl, seen, e, rfl, hein, hg.1, hg.2⟩
   ·simp only [List.cons_append, List.nil_append]
    exact List.Perm.swap _ _ _
theorem opv_entry {p : List Int × Value} (hx : ev F x = some (pt r 0)) : OpV P w0 n ⟨dst, .entry x, ty, pos, af, gd⟩ F (MapJ P kt b r es rem (some p) :: A) I (.tuple [mkv P kt p.1, p.2].toArray) := by
 intro tt w hf hst
 obtain ⟨cs, h1, h2⟩ := hst
 obtain ⟨c, cs', rfl, ⟨ents, clock, seen, c0, rfl, h3, h4, h5, h6, h7, h8⟩, hr⟩ := h1.cons_inv
 obtain ⟨rfl, seen0, e, rfl, he, hk, hv⟩ := h8 p rfl
 have hb : w.heap[b]? = some (.map ents c0) := h2.has (b, _) (by simp)
 have hi : w.heap[r]? = some (.mapIter (some b) c0 (seen0.push e.born) c0) := h2.has (r, _) (by simp)
 have := run_entry_at (P := P) w r b c0 seen0 ents c0 e hi hb he h5.1
 simp only [execOp, hf.eval hx, Sem.run_bind]
 rw [this, hk, hv]
 rfl
end
end Go.GL


set_option linter.unusedVariables false
namespace Go.GL
section
variable {w0 : World} {n : Nat} {F : Frm} {A : List Asrt} {I : List Chunk} {P : Program} {dst : Option Tmp} {ty t : TypeId} {pos : String} {af : Array Edge} {gd : Option (Nat × Bool)} {x y : Operand} {d : TypeDesc} {s by_ : Nat} {z : List Value}
end
end Go.GL


set_option linter.unusedVariables false
namespace Go.GL
open Enc (enc)
/-! ### An element of a row is written -/
theorem encs_splice {α : Type} [Enc α] [Inhabited α] {vs : List Value} {x' : α} {fo : Nat} : ∀ {xs : List α} {i : Nat}, i < xs.length → spl (enc (xs.getD i default)) fo vs = some (enc x') →
  (encs xs).take (i * Enc.sz α + fo) ++ vs ++ (encs xs).drop (i * Enc.sz α + fo + vs.length) = encs (xs.set i x')
 | [], i, hi, h => absurd hi (by simp)
 | x :: xs, 0, hi, h => by
  obtain ⟨h1, h2⟩ := spl_spec h
  simp only [List.getD_cons_zero] at h1 h2
  rw [Nat.zero_mul, Nat.zero_add, encs_cons, List.set_cons_zero, encs_cons, h2, List.take_append_of_le_length (by omega), List.drop_append_of_le_length (by omega)]
  simp
 | x :: xs, i + 1, hi, h => by
  have ih := encs_splice (xs := xs) (i := i) (by simpa using hi) (by simpa using h)
  have hl : (enc x).length = Enc.sz α := Enc.hlen x
  have e : (i + 1) * Enc.sz α + fo = (enc x).length + (i * Enc.sz α + fo) := by rw [hl, Nat.succ_mul]; omega
  rw [encs_cons, List.set_cons_succ, encs_cons, e, List.take_length_add_append, Nat.add_assoc, List.drop_length_add_append, ← ih]
  simp
section
variable {w0 : World} {n : Nat} {F : Frm} {A : List Asrt} {I : List Chunk} {P : Program}
variable {dst : Option Tmp} {ty : TypeId} {pos : String} {af : Array Edge} {gd : Option (Nat × Bool)} {x y : Operand} {t E : TypeId} {d : TypeDesc} {s by_ : Nat} {z : List Value} {a : Option Addr} {len cap : Nat}
/-- Into an element, or a part of it. -/
theorem opg_storeRX {α : Type} [Enc α] [Inhabited α] {xs : List α} (x' : α) {i fo sz : Nat} {v : Value} {vs : List Value} {u : Asrt → List Asrt} [SelR A a cap len E sz (encs xs) u] [TyI P t d s by_ z] (hx : ev F x = some (epf a sz i fo)) (hy : ev F y = some v) (hz : Enc.sz α = sz) (hi : i < xs.length) (hl : len = xs.length)
  (hv : v.cells = vs.toArray) (hls : vs.length = s) (h0 : Nat.blt 0 s = true) (h : spl (enc (xs.getD i default)) fo vs = some (enc x')) :
  OpG P w0 n ⟨dst, .store t x y, ty, pos, af, gd⟩ F A I (fun _ A' I' => A' = u (Row a cap len E sz (encs (xs.set i x'))) ∧ I = I') := by
 have hspec := spl_spec h
 have hel : (enc (xs.getD i default)).length = Enc.sz α := Enc.hlen _
 have h1 : vs.all (·.oneCell') = true := by
  have := Enc.one x'
  rw [hspec.2] at this
  simp only [List.all_append, Bool.and_eq_true] at this
  exact this.1.2
 refine (opg_storeR (a := a) hx hy hv hls h1 h0 (by omega) (by omega)).mono fun v' A' I' ⟨e1, e2⟩ => ⟨?_, e2⟩
 rw [e1]
 congr 2
 rw [← hz, ← hls, encs_splice hi h]
/-- Where a slice begins that leaves out the first l. -/
def loA (a : Option Addr) (cap l s : Nat) : Option Addr := if cap = l then a else a.map fun q => q.add (l * s)
theorem StA.lo {α : Type} [Enc α] {xs : List α} (hs : StA I a cap xs) {l s : Nat} (h1 : l ≤ xs.length) (hz : Enc.sz α = s) : StA I (loA a cap l s) (cap - l) (xs.drop l) := by
 have hle := hs.le
 have hlen : (xs.drop l).length = xs.length - l := by rw [List.length_drop]
 refine ⟨?_, by rw [hlen]; omega⟩
 unfold loA
 split
 ·left
  exact List.drop_of_length_le (by omega)
 ·rcases hs.sl with rfl | ⟨b, off, rfl, cs, T, fz, hm, hc⟩
  ·exact .inl (by simp)
  ·refine .inr ⟨b, off + l * s, by simp [add_pt], cs, T, fz, hm, fun j v hj => ?_⟩
   rw [encs_drop xs (by omega), hz] at hj
   rw [Nat.add_assoc]
   exact hc _ _ hj
/-- A slice that is nil has no elements. -/
theorem tri_rowSome {α : Type} [Enc α] {xs : List α} {K : Act → World → Prop} (hz : Nat.beq (Enc.sz α) 0 = false) (h : (a = none → xs = []) → Tri w0 n F (Row a cap len E (Enc.sz α) (encs xs) :: A) I K) : Tri w0 n F (Row a cap len E (Enc.sz α) (encs xs) :: A) I K := by
 intro t w hf hs
 have h2 := hs
 obtain ⟨cs, h1, _⟩ := hs
 obtain ⟨c, cs', rfl, ⟨hl, ha⟩, hr⟩ := h1.cons_inv
 refine h (fun e => ?_) t w hf h2
 rcases ha with ⟨_, _, h3, _⟩ | ⟨b, cur, h3, _⟩
 ·rw [encs_length, h3, Nat.zero_mul] at hl
  rcases Nat.mul_eq_zero.1 hl with h4 | h4
  ·exact List.length_eq_zero_iff.1 h4
  ·rw [h4] at hz; cases hz
 ·rw [e] at h3; cases h3
end
end Go.GL


set_option linter.unusedVariables false
namespace Go.GL
section
variable {w0 : World} {n : Nat} {F : Frm} {A : List Asrt} {I : List Chunk} {P : Program}
variable {dst : Option Tmp} {ty : TypeId} {pos : String} {af : Array Edge} {gd : Option (Nat × Bool)} {x y : Operand} {t e E : TypeId} {d d' : TypeDesc} {s by_ s' by' : Nat} {z z' : List Value} {a a2 : Option Addr} {len cap m cap2 : Nat}
theorem opv_sliceLoN {lo : Operand} {k : IntKind} {l : Int} {e : TypeId} [TyI P t (.slice e) s by_ z] [TyI P e d' s' by' z'] (hx : ev F x = some (.slice a len cap)) (hh : ev F lo = some (.int k l)) (h0 : 0 ≤ l) (h1 : l ≤ len) :
  OpV P w0 n ⟨dst, .slice t x (some lo) none none, ty, pos, af, gd⟩ F A I (.slice (loA a cap l.toNat s') (len - l.toNat) (cap - l.toNat)) := by
 intro tt w hf hst
 simp [execOp, hf.eval hx, hf.eval hh, Instr.sliceAt, Instr.slice, run_und (P := P) (t := t), Instr.sliceBounds, Instr.sliceBound, asIntOf, h0, h1, run_size (P := P) (t := e), loA]
theorem opv_sliceHiN {hi : Operand} {k : IntKind} {h : Int} {e : TypeId} {b off : Nat} [TyI P t (.slice e) s by_ z] [TyI P e d' s' by' z'] (hx : ev F x = some (.slice (some ⟨b, off, none⟩) len cap)) (hh : ev F hi = some (.int k h)) (h0 : 0 ≤ h) (h1 : h ≤ cap) :
  OpV P w0 n ⟨dst, .slice t x none (some hi) none, ty, pos, af, gd⟩ F A I (.slice (some ⟨b, off, none⟩) h.toNat cap) := by
 intro tt w hf hst
 have ha : (if cap = 0 then some (⟨b, off, none⟩ : Addr) else some ((⟨b, off, none⟩ : Addr).add (0 * s'))) = some ⟨b, off, none⟩ := by
  split
  ·rfl
  ·simp [add_pt]
 simp [execOp, hf.eval hx, hf.eval hh, Instr.sliceAt, Instr.slice, run_und (P := P) (t := t), Instr.sliceBounds, Instr.sliceBound, asIntOf, h0, h1, run_size (P := P) (t := e)]
 simpa using ha
theorem tri_rowPt {sz : Nat} {cells : List Value} {K : Act → World → Prop} (ha : a ≠ none) (h : ∀ b, a = some ⟨b, 0, none⟩ → Tri w0 n F (Row a cap len E sz cells :: A) I K) : Tri w0 n F (Row a cap len E sz cells :: A) I K := by
 intro t w hf hs
 have h2 := hs
 obtain ⟨cs, h1, _⟩ := hs
 obtain ⟨c, cs', rfl, ⟨hl, ⟨e, _⟩ | ⟨b, cur, e, _⟩⟩, hr⟩ := h1.cons_inv
 ·exact absurd e ha
 ·exact h b e t w hf h2
/-! #### many things held as one -/
def Stars (L : List Asrt) : Asrt := fun c => Seps L c
theorem opv_indexAddrSP {ix : Operand} {e : TypeId} {k : IntKind} {i : Int} {b off : Nat} [TyI P t (.slice e) s by_ z] [TyI P e d' s' by' z'] (hx : ev F x = some (.slice (some ⟨b, off, none⟩) len cap)) (hi : ev F ix = some (.int k i)) (h0 : 0 ≤ i) (h1 : i < len) :
  OpV P w0 n ⟨dst, .indexAddr t x ix, ty, pos, af, gd⟩ F A I (epf (some ⟨b, off, none⟩) s' i.toNat 0) := by
 intro tt w hf hst
 simp [execOp, hf.eval hx, hf.eval hi, Instr.indexAt, asIntOf, run_und (P := P) (t := t), h0, h1, run_size (P := P) (t := e), add_pt, epf]
end
section
variable {w0 : World} {n : Nat} {F : Frm} {A : List Asrt} {I : List Chunk} {P : Program} {dst : Option Tmp} {ty t : TypeId} {pos : String} {af : Array Edge} {gd : Option (Nat × Bool)} {x y : Operand} {xt yt : TypeId} {a b : Nat}
end
section
variable {w0 : World} {n : Nat} {F : Frm} {A : List Asrt} {I : List Chunk} {P : Program} {Q : Exit → Act → World → Prop} {ops : Array Oper}
def AllSteps (P : Program) (w0 : World) (n : Nat) (ops : Array Oper) (Q : Exit → Act → World → Prop) (B : List Asrt) (J : List Chunk) (listed : Array Bool) (F : Frm) (A : List Asrt) (I : List Chunk) : List (Nat × List Nat) → Prop
 | [] => True
 | x :: xs => Step P w0 n ops Q B J x.1 x.2 listed F A I ∧ AllSteps P w0 n ops Q B J listed F A I xs
theorem AllSteps.get {B : List Asrt} {J : List Chunk} {listed : Array Bool} : ∀ {l : List (Nat × List Nat)}, AllSteps P w0 n ops Q B J listed F A I l → ∀ x ∈ l, Step P w0 n ops Q B J x.1 x.2 listed F A I
 | [], _, x, hx => by simp at hx
 | y :: l, h, x, hx => by
  rcases List.mem_cons.1 hx with rfl | hx
  ·exact h.1
  ·exact AllSteps.get h.2 x hx
end
end Go.GL


set_option linter.unusedVariables false
namespace Go.GL
open Go.Proofs
attribute [local irreducible] wpList Code.wp Exit.then Exit.inBlock Ends Tri TriH OpV OpG FnC epf wpAnyH
variable {A : List Asrt} {I : List Chunk}
set_option maxRecDepth 100000 in
theorem cells_in {c : Cell} : FnC Try.prog 36 [cellV c].toArray A I (fun v A' I' => v = .bool (decide (R1.inB c)) ∧ A = A' ∧ I = I') := by
 refine fn_enter1 Try.func36 rfl Try.ntmps36 rfl fun w0 => ?_
 refine tS (tR ?_)
 first | refine tri_g (opg_box_agg rfl) rfl ?_ | refine tri_g (opg_box1 rfl rfl) rfl ?_
 rintro _ _ _ ⟨b, rfl, rfl, rfl⟩
 refine tA rfl rfl (tN (tT (tS (tR ?_))))
 refine tri_v (by first | exact opv_fieldAddr rfl rfl | exact opv_fieldAddrE rfl (by assumption) (by omega) rfl | exact opv_fieldAddrR rfl (by omega) rfl | exact opv_fieldAddrP rfl rfl rfl) rfl ?_
 refine tri_v (by first | exact opv_load1 rfl rfl rfl | exact opv_loadA rfl rfl rfl | exact opv_loadE1 rfl (by assumption) rfl (by omega) rfl rfl | exact opv_loadEA rfl (by assumption) rfl (by omega) rfl rfl | exact opv_loadRX1 rfl rfl (by omega) rfl rfl | exact opv_loadRXA rfl rfl (by omega) rfl rfl rfl | exact opv_loadIX rfl rfl (by omega) | exact opv_loadR1 rfl rfl rfl | exact opv_loadRA rfl rfl rfl rfl) rfl ?_
 refine tri_v (by first | exact opv_fieldAddr rfl rfl | exact opv_fieldAddrE rfl (by assumption) (by omega) rfl | exact opv_fieldAddrR rfl (by omega) rfl | exact opv_fieldAddrP rfl rfl rfl) rfl ?_
 refine tri_v (by first | exact opv_load1 rfl rfl rfl | exact opv_loadA rfl rfl rfl | exact opv_loadE1 rfl (by assumption) rfl (by omega) rfl rfl | exact opv_loadEA rfl (by assumption) rfl (by omega) rfl rfl | exact opv_loadRX1 rfl rfl (by omega) rfl rfl | exact opv_loadRXA rfl rfl (by omega) rfl rfl rfl | exact opv_loadIX rfl rfl (by omega) | exact opv_loadR1 rfl rfl rfl | exact opv_loadRA rfl rfl rfl rfl) rfl ?_
 refine tri_v (opv_max2 rfl rfl) rfl ?_
 refine tri_v (opv_leq rfl rfl) rfl ?_
 refine tM rfl rfl ?_
 refine tri_split rfl rfl (fun h1 => ?_) (fun h1 => ?_)
 ·refine tri_guard_run rfl rfl rfl ?_
  refine tri_v (by first | exact opv_fieldAddr rfl rfl | exact opv_fieldAddrE rfl (by assumption) (by omega) rfl | exact opv_fieldAddrR rfl (by omega) rfl | exact opv_fieldAddrP rfl rfl rfl) rfl ?_
  refine tri_guard_run rfl rfl rfl ?_
  refine tri_v (by first | exact opv_load1 rfl rfl rfl | exact opv_loadA rfl rfl rfl | exact opv_loadE1 rfl (by assumption) rfl (by omega) rfl rfl | exact opv_loadEA rfl (by assumption) rfl (by omega) rfl rfl | exact opv_loadRX1 rfl rfl (by omega) rfl rfl | exact opv_loadRXA rfl rfl (by omega) rfl rfl rfl | exact opv_loadIX rfl rfl (by omega) | exact opv_loadR1 rfl rfl rfl | exact opv_loadRA rfl rfl rfl rfl) rfl ?_
  refine tri_guard_run rfl rfl rfl ?_
  refine tri_v (by first | exact opv_fieldAddr rfl rfl | exact opv_fieldAddrE rfl (by assumption) (by omega) rfl | exact opv_fieldAddrR rfl (by omega) rfl | exact opv_fieldAddrP rfl rfl rfl) rfl ?_
  refine tri_guard_run rfl rfl rfl ?_
  refine tri_v (by first | exact opv_load1 rfl rfl rfl | exact opv_loadA rfl rfl rfl | exact opv_loadE1 rfl (by assumption) rfl (by omega) rfl rfl | exact opv_loadEA rfl (by assumption) rfl (by omega) rfl rfl | exact opv_loadRX1 rfl rfl (by omega) rfl rfl | exact opv_loadRXA rfl rfl (by omega) rfl rfl rfl | exact opv_loadIX rfl rfl (by omega) | exact opv_loadR1 rfl rfl rfl | exact opv_loadRA rfl rfl rfl rfl) rfl ?_
  refine tri_guard_run rfl rfl rfl ?_
  refine tri_v (opv_min2 rfl rfl) rfl ?_
  refine tri_guard_run rfl rfl rfl ?_
  refine tri_v (opv_geq rfl rfl) rfl ?_
  refine tri_v (by first | exact opv_pick_t rfl rfl | exact opv_pick_f rfl rfl | exact opv_pick_bool rfl rfl rfl | exact opv_pick rfl rfl rfl) rfl ?_
  refine tA rfl rfl (tN (tT (tri_ret ?_)))
  refine tri_end A Suf.h rfl (.cons (rv_tmp rfl) .nil) ⟨congrArg Value.bool (decide_eq_decide.2 ?_), rfl, rfl⟩
  unfold R1.inB
  omega
 ·refine tri_guard_skip rfl rfl rfl rfl (tri_guard_skip rfl rfl rfl rfl (tri_guard_skip rfl rfl rfl rfl (tri_guard_skip rfl rfl rfl rfl (tri_guard_skip rfl rfl rfl rfl (tri_guard_skip rfl rfl rfl rfl ?_)))))
  refine tri_v (by first | exact opv_pick_t rfl rfl | exact opv_pick_f rfl rfl | exact opv_pick_bool rfl rfl rfl | exact opv_pick rfl rfl rfl) rfl ?_
  refine tA rfl rfl (tN (tT (tri_ret ?_)))
  refine tri_end A Suf.h rfl (.cons (rv_tmp rfl) .nil) ⟨congrArg Value.bool (decide_eq_false fun h => ?_).symm, rfl, rfl⟩
  unfold R1.inB at h
  omega
theorem cmp_isNaN {x : Int} : FnC Try.prog 50 [.int .i64 x].toArray A I (fun v A' I' => v = .bool (decide (x ≠ x)) ∧ A = A' ∧ I = I') := by
 refine fn_enter1 Try.func50 rfl Try.ntmps50 rfl fun w0 => ?_
 refine tS (tR (tA rfl rfl (tN (tT (tS (tR (tM rfl rfl ?_)))))))
 refine tM rfl rfl ?_
 refine tri_v (by first | exact opv_neq rfl rfl | exact opv_neqI rfl rfl rfl rfl rfl rfl | exact opv_neqB rfl rfl) rfl ?_
 refine tA rfl rfl (tN (tT (tri_ret ?_)))
 refine tri_end A Suf.h rfl (.cons (rv_tmp rfl) .nil) ⟨rfl, rfl, rfl⟩
theorem cmp_compare {x y : Int} : FnC Try.prog 45 [.int .i64 x, .int .i64 y].toArray A I (fun v A' I' => v = .int .i64 (R1.cmpI x y) ∧ A = A' ∧ I = I') := by
 refine fn_enter2 Try.func45 rfl Try.ntmps45 rfl fun w0 => ?_
 refine tS (tR (tA rfl rfl (tN (tT (tS (tR (tM rfl rfl ?_)))))))
 refine tri_g (opg_call (xs := [_]) rfl (cmp_isNaN)) rfl ?_
 rintro _ _ _ ⟨rfl, rfl, rfl⟩
 refine tA rfl rfl (tN (tT (tS (tR (tM rfl rfl ?_)))))
 refine tri_g (opg_call (xs := [_]) rfl (cmp_isNaN)) rfl ?_
 rintro _ _ _ ⟨rfl, rfl, rfl⟩
 refine tA rfl rfl (tN (tT (tS (tS (tR (tM rfl rfl (tN ?_)))))))
 refine tT ?_
 refine tri_cond_not rfl ((fun h => h rfl)) ?_
 refine tri_skip (tT (tS (tS (tR (tM rfl rfl (tN (tT ?_)))))))
 refine tri_cond_not rfl ((fun h => h rfl)) ?_
 refine tri_skip (tT (tS (tS (tR (tM rfl rfl (tM rfl rfl ?_))))))
 refine tri_v (opv_lss rfl rfl) rfl ?_
 refine tN (tT ?_)
 refine tri_cond_dec rfl (fun h1 => ?_) (fun h1 => ?_)
 ·refine tS (tR (tA rfl rfl (tN (tT (tri_ret (tri_then_ret ?_))))))
  refine tri_end A Suf.h rfl (.cons (rv_tmp rfl) .nil) ⟨?_, rfl, rfl⟩
  unfold R1.cmpI
  rw [if_pos h1]
  rfl
 ·refine tri_skip (tT (tS (tS (tR (tM rfl rfl (tM rfl rfl ?_))))))
  refine tri_v (opv_gtr rfl rfl) rfl ?_
  refine tN (tT ?_)
  refine tri_cond_dec rfl (fun h2 => ?_) (fun h2 => ?_)
  ·refine tS (tR (tA rfl rfl (tN (tT (tri_ret (tri_then_ret ?_))))))
   refine tri_end A Suf.h rfl (.cons (rv_tmp rfl) .nil) ⟨?_, rfl, rfl⟩
   unfold R1.cmpI
   rw [if_neg h1, if_pos (by omega)]
   rfl
  ·refine tri_skip (tT (tS (tR (tA rfl rfl (tN (tT (tri_ret ?_)))))))
   refine tri_end A Suf.h rfl (.cons (rv_tmp rfl) .nil) ⟨?_, rfl, rfl⟩
   unfold R1.cmpI
   rw [if_neg h1, if_neg (by omega)]
   rfl
set_option maxRecDepth 100000 in
theorem cmp_or2 {u v : Int} {b : Nat} {T : TypeId} : FnC Try.prog 44 [.slice (some ⟨b, 0, none⟩) 2 2].toArray (Box b [.int .i64 u, .int .i64 v] T :: A) I (fun r A' I' => r = .int .i64 (if u ≠ 0 then u else v) ∧ A = A' ∧ I ⊆ I') := by
 skip
 refine fn_enter1 Try.func44 rfl Try.ntmps44 rfl fun w0 => ?_
 refine tri_freezeBoxS [u, v] rfl fun J hJ hs => ?_
 skip
 refine tS (tR (tA rfl rfl (tN (tT (tS (tR (tA rfl rfl ?_)))))))
 refine tN (tT (tS (tS (tR (tM rfl rfl ?_)))))
 refine tri_v (opv_len rfl) rfl ?_
 refine tM rfl rfl (tN (tT (tri_block ?_)))
 refine tri_rounds 3 ?_
 refine tri_round ?_
 refine tS (tR ?_)
 refine tri_v (opv_lss rfl rfl) rfl ?_
 refine tN (tT (tS ?_))
 refine tri_cond_is rfl ((by decide)) ?_
 refine tri_skip (tT (tS (tri_block (tS (tR ?_)))))
 refine tri_v (by first | exact opv_indexAddrA rfl rfl (by first | decide | omega) (by first | decide | omega) | exact opv_indexAddrSN rfl rfl (by omega) (by assumption) rfl | exact opv_indexAddrS rfl rfl (by omega) (by omega) (by assumption) rfl | exact opv_indexAddrE rfl (by assumption) (by omega) rfl (by first | decide | omega) (by first | decide | omega) | exact opv_indexAddrRN rfl rfl (by omega) | exact opv_indexAddrR rfl rfl (by omega) (by omega) | exact opv_indexAddrRA rfl (by omega) rfl (by first | decide | omega) (by first | decide | omega) | exact opv_indexAddrSP rfl rfl (by omega) (by omega) | exact opv_indexAddrSN rfl rfl (by omega) (by assumption) (by omega) | exact opv_indexAddrS rfl rfl (by omega) (by omega) (by assumption) (by omega)) rfl ?_
 refine tri_v (opv_loadE1 rfl hs rfl (show (0 : Nat) < 2 by decide) rfl rfl) rfl ?_
 refine tA rfl rfl (tN (tT (tS (tR (tM rfl rfl (tM rfl rfl ?_))))))
 refine tri_v (by first | exact opv_neq rfl rfl | exact opv_neqI rfl rfl rfl rfl rfl rfl | exact opv_neqB rfl rfl) rfl ?_
 refine tN (tT ?_)
 refine tri_cond_dec rfl (fun h1 => ?_) (fun h1 => ?_)
 ·have h1 : u ≠ 0 := h1
  refine tS (tR (tM rfl rfl (tA rfl rfl (tN (tT (tri_ret ?_))))))
  refine tri_inBlock_ret ?_
  refine tri_then_ret (tri_then_ret ?_)
  refine tri_inBlock_ret ?_
  refine tri_then_ret ?_
  refine tri_end A Suf.h rfl (.cons (rv_tmp rfl) .nil) ⟨?_, rfl, hJ⟩
  rw [if_pos h1]
  rfl
 ·have h1 : ¬ u ≠ 0 := h1
  refine tri_skip ?_
  refine tri_inBlock ?_
  refine tT (tR ?_)
  refine tri_v (by first | exact opv_add rfl rfl (w64 (by omega) (by omega))) rfl ?_
  refine tM rfl rfl (tN (tT ?_))
  refine tri_round ?_
  refine tS (tR ?_)
  refine tri_v (opv_lss rfl rfl) rfl ?_
  refine tN (tT (tS ?_))
  refine tri_cond_is rfl ((by decide)) ?_
  refine tri_skip (tT (tS (tri_block (tS (tR ?_)))))
  refine tri_v (by first | exact opv_indexAddrA rfl rfl (by first | decide | omega) (by first | decide | omega) | exact opv_indexAddrSN rfl rfl (by omega) (by assumption) rfl | exact opv_indexAddrS rfl rfl (by omega) (by omega) (by assumption) rfl | exact opv_indexAddrE rfl (by assumption) (by omega) rfl (by first | decide | omega) (by first | decide | omega) | exact opv_indexAddrRN rfl rfl (by omega) | exact opv_indexAddrR rfl rfl (by omega) (by omega) | exact opv_indexAddrRA rfl (by omega) rfl (by first | decide | omega) (by first | decide | omega) | exact opv_indexAddrSP rfl rfl (by omega) (by omega) | exact opv_indexAddrSN rfl rfl (by omega) (by assumption) (by omega) | exact opv_indexAddrS rfl rfl (by omega) (by omega) (by assumption) (by omega)) rfl ?_
  refine tri_v (opv_loadE1 rfl hs rfl (show (1 : Nat) < 2 by decide) rfl rfl) rfl ?_
  refine tA rfl rfl (tN (tT (tS (tR (tM rfl rfl (tM rfl rfl ?_))))))
  refine tri_v (by first | exact opv_neq rfl rfl | exact opv_neqI rfl rfl rfl rfl rfl rfl | exact opv_neqB rfl rfl) rfl ?_
  refine tN (tT ?_)
  refine tri_cond_dec rfl (fun h2 => ?_) (fun h2 => ?_)
  ·refine tS (tR (tM rfl rfl (tA rfl rfl (tN (tT (tri_ret ?_))))))
   refine tri_inBlock_ret ?_
   refine tri_then_ret (tri_then_ret ?_)
   refine tri_inBlock_ret ?_
   refine tri_then_ret ?_
   refine tri_end A Suf.h rfl (.cons (rv_tmp rfl) .nil) ⟨?_, rfl, hJ⟩
   rw [if_neg h1]
   rfl
  ·refine tri_skip ?_
   refine tri_inBlock ?_
   refine tT (tR ?_)
   refine tri_v (by first | exact opv_add rfl rfl (w64 (by omega) (by omega))) rfl ?_
   refine tM rfl rfl (tN (tT ?_))
   refine tri_round ?_
   refine tS (tR ?_)
   refine tri_v (opv_lss rfl rfl) rfl ?_
   refine tN (tT (tS ?_))
   refine tri_cond_not rfl ((by decide)) ?_
   refine tri_exit ?_
   refine tri_then_exit ?_
   refine tri_then_exit ?_
   refine tri_inBlock_hit rfl ?_
   refine tT (tS (tR (tM rfl rfl (tA rfl rfl (tN (tT (tri_ret ?_)))))))
   refine tri_end A Suf.h rfl (.cons (rv_tmp rfl) .nil) ⟨?_, rfl, hJ⟩
   have h2 : ¬ v ≠ 0 := h2
   rw [if_neg h1, Decidable.not_not.1 h2]
   rfl
set_option maxRecDepth 100000 in
theorem place_order {p q : Cell} : FnC Try.prog 37 [cellV p, cellV q].toArray A I (fun v A' I' => v = .int .i64 (R1.cmpC p q) ∧ A = A' ∧ I ⊆ I') := by
 skip
 skip
 refine fn_enter2 Try.func37 rfl Try.ntmps37 rfl fun w0 => ?_
 skip
 refine tS (tR ?_)
 first | refine tri_g (opg_box_agg rfl) rfl ?_ | refine tri_g (opg_box1 rfl rfl) rfl ?_
 rintro _ _ _ ⟨b2, rfl, rfl, rfl⟩
 first | refine tri_g (opg_box_agg rfl) rfl ?_ | refine tri_g (opg_box1 rfl rfl) rfl ?_
 rintro _ _ _ ⟨b3, rfl, rfl, rfl⟩
 refine tA rfl rfl (tN (tT (tS ?_)))
 refine tri_draw [0, 1, 2, 3, 5, 6, 7, 8, 4, 9, 10, 11, 12] rfl [] rfl mixed ?_
 refine th_take rfl rfl (by kernel_rfl)  (by first | exact opv_fieldAddr rfl rfl | exact opv_fieldAddrE rfl (by assumption) (by omega) rfl | exact opv_fieldAddrR rfl (by omega) rfl | exact opv_fieldAddrP rfl rfl rfl) ?_
 refine th_take rfl rfl (by kernel_rfl)  (by first | exact opv_load1 rfl rfl rfl | exact opv_loadA rfl rfl rfl | exact opv_loadE1 rfl (by assumption) rfl (by omega) rfl rfl | exact opv_loadEA rfl (by assumption) rfl (by omega) rfl rfl | exact opv_loadRX1 rfl rfl (by omega) rfl rfl | exact opv_loadRXA rfl rfl (by omega) rfl rfl rfl | exact opv_loadIX rfl rfl (by omega) | exact opv_loadR1 rfl rfl rfl | exact opv_loadRA rfl rfl rfl rfl) ?_
 refine th_take rfl rfl (by kernel_rfl)  (by first | exact opv_fieldAddr rfl rfl | exact opv_fieldAddrE rfl (by assumption) (by omega) rfl | exact opv_fieldAddrR rfl (by omega) rfl | exact opv_fieldAddrP rfl rfl rfl) ?_
 refine th_take rfl rfl (by kernel_rfl)  (by first | exact opv_load1 rfl rfl rfl | exact opv_loadA rfl rfl rfl | exact opv_loadE1 rfl (by assumption) rfl (by omega) rfl rfl | exact opv_loadEA rfl (by assumption) rfl (by omega) rfl rfl | exact opv_loadRX1 rfl rfl (by omega) rfl rfl | exact opv_loadRXA rfl rfl (by omega) rfl rfl rfl | exact opv_loadIX rfl rfl (by omega) | exact opv_loadR1 rfl rfl rfl | exact opv_loadRA rfl rfl rfl rfl) ?_
 refine th_take rfl rfl (by kernel_rfl)  (by first | exact opv_fieldAddr rfl rfl | exact opv_fieldAddrE rfl (by assumption) (by omega) rfl | exact opv_fieldAddrR rfl (by omega) rfl | exact opv_fieldAddrP rfl rfl rfl) ?_
 refine th_take rfl rfl (by kernel_rfl)  (by first | exact opv_load1 rfl rfl rfl | exact opv_loadA rfl rfl rfl | exact opv_loadE1 rfl (by assumption) rfl (by omega) rfl rfl | exact opv_loadEA rfl (by assumption) rfl (by omega) rfl rfl | exact opv_loadRX1 rfl rfl (by omega) rfl rfl | exact opv_loadRXA rfl rfl (by omega) rfl rfl rfl | exact opv_loadIX rfl rfl (by omega) | exact opv_loadR1 rfl rfl rfl | exact opv_loadRA rfl rfl rfl rfl) ?_
 refine th_take rfl rfl (by kernel_rfl)  (by first | exact opv_fieldAddr rfl rfl | exact opv_fieldAddrE rfl (by assumption) (by omega) rfl | exact opv_fieldAddrR rfl (by omega) rfl | exact opv_fieldAddrP rfl rfl rfl) ?_
 refine th_take rfl rfl (by kernel_rfl)  (by first | exact opv_load1 rfl rfl rfl | exact opv_loadA rfl rfl rfl | exact opv_loadE1 rfl (by assumption) rfl (by omega) rfl rfl | exact opv_loadEA rfl (by assumption) rfl (by omega) rfl rfl | exact opv_loadRX1 rfl rfl (by omega) rfl rfl | exact opv_loadRXA rfl rfl (by omega) rfl rfl rfl | exact opv_loadIX rfl rfl (by omega) | exact opv_loadR1 rfl rfl rfl | exact opv_loadRA rfl rfl rfl rfl) ?_
 refine th_one (by kernel_rfl) (step_m rfl rfl (opg_call (xs := [_, _]) rfl (cmp_compare)) ?_)
 rintro _ _ _ ⟨rfl, rfl, rfl⟩
 refine ⟨Suf.h, (by first | exact fun _ h => h | assumption | exact fun _ h => (by assumption : _ ⊆ _) ((by assumption : _ ⊆ _) h)), ?_⟩
 skip
 refine th_one (by kernel_rfl) (step_m rfl rfl (opg_call (xs := [_, _]) rfl (cmp_compare)) ?_)
 rintro _ _ _ ⟨rfl, rfl, rfl⟩
 refine ⟨Suf.h, (by first | exact fun _ h => h | assumption | exact fun _ h => (by assumption : _ ⊆ _) ((by assumption : _ ⊆ _) h)), ?_⟩
 refine th_one (by kernel_rfl) (step_m rfl rfl (opg_buildSlice rfl rfl rfl rfl) ?_)
 rintro _ _ _ ⟨b15, rfl, rfl, rfl⟩
 refine ⟨Suf.h, (by first | exact fun _ h => h | assumption | exact fun _ h => (by assumption : _ ⊆ _) ((by assumption : _ ⊆ _) h)), ?_⟩
 refine th_one (by kernel_rfl) (step_m rfl rfl (opg_call (xs := [_]) rfl (cmp_or2)) ?_)
 rintro _ _ I2 ⟨rfl, rfl, hI2⟩
 refine ⟨Suf.h, hI2, ?_⟩
 refine th_take rfl rfl (by kernel_rfl)  (opv_assign rfl) ?_
 refine th_done (by kernel_rfl) ?_
 refine tT (tri_ret ?_)
 refine tri_end A Suf.h rfl (.cons (rv_tmp rfl) .nil) ⟨rfl, rfl, hI2⟩
end Go.GL


set_option linter.unusedVariables false
namespace Go.GL
/-! ### A block that is only read; the part of a row behind some elements -/
section
variable {w0 : World} {n : Nat} {F : Frm} {A : List Asrt} {I : List Chunk} {P : Program} {dst : Option Tmp} {ty t : TypeId} {pos : String} {af : Array Edge} {gd : Option (Nat × Bool)} {x y ix : Operand} {d d' : TypeDesc} {s s' by_ by' : Nat} {z z' : List Value}
theorem opv_loadC {b off : Nat} {cs : Array Value} {T : TypeId} {fz : Nat × Nat} {v : Value} [TyI P t d s by_ z] (hx : ev F x = some (pt b off)) (hI : (b, Obj.cells cs T fz) ∈ I) (hd : isA d = false) (hc : cs[off]? = some v) : OpV P w0 n ⟨dst, .load t x, ty, pos, af, gd⟩ F A I v := by
 intro tt w hf hs
 have h := hs.inI hI
 simp [execOp, hf.eval hx, Instr.loadAt, Instr.sureAddr, run_loadVar1 (P := P) (t := t) hd h hc]
theorem loA_lt {b cap l s : Nat} (h : cap ≠ l) : loA (some ⟨b, 0, none⟩) cap l s = some ⟨b, l * s, none⟩ := by
 unfold loA
 rw [if_neg h, Option.map_some, add_pt, Nat.zero_add]
theorem opv_indexAddrSub {e : TypeId} {k : IntKind} {i : Int} {b l m cap cap' j : Nat} [TyI P t (.slice e) s by_ z] [TyI P e d' s' by' z'] (hx : ev F x = some (.slice (loA (some ⟨b, 0, none⟩) cap l s') m cap')) (hi : ev F ix = some (.int k i)) (h0 : 0 ≤ i) (h1 : i < m) (hne : cap ≠ l) (hj : l + i.toNat = j) :
  OpV P w0 n ⟨dst, .indexAddr t x ix, ty, pos, af, gd⟩ F A I (epf (some ⟨b, 0, none⟩) s' j 0) := by
 intro tt w hf hst
 rw [loA_lt hne] at hx
 subst hj
 simp [execOp, hf.eval hx, hf.eval hi, Instr.indexAt, asIntOf, run_und (P := P) (t := t), h0, h1, run_size (P := P) (t := e), add_pt, epf, Nat.add_mul]
/-- 'clear' behind the first k: they are left. -/
theorem opg_clearTail {α : Type} [Enc α] {e E : TypeId} {b k m cap cap' len sz : Nat} {xs : List α} {u : Asrt → List Asrt} [SelR A (some ⟨b, 0, none⟩) cap len E sz (encs xs) u] [TyI P t (.slice e) s by_ z] [TyI P e d' sz by' z'] (hx : ev F x = some (.slice (loA (some ⟨b, 0, none⟩) cap k sz) m cap')) (hk : k < len) (hl : len = xs.length) (hm : k + m = len) (hz : Enc.sz α = sz) (h1 : z'.all (·.oneCell') = true) :
  OpG P w0 n ⟨dst, .call ⟨.builtin .clear, #[x], #[t]⟩, ty, pos, af, gd⟩ F A I (fun v A' I' => A' = u (Row (some ⟨b, 0, none⟩) cap k E sz (encs (xs.take k))) ∧ I = I') := by
 refine opg_run fun tt w hf hst => ?_
 obtain ⟨hlen, ⟨h, _⟩ | ⟨b', cur, hb', hb, hsz, hle, ht⟩⟩ := SelR.at (a := some ⟨b, 0, none⟩) hst
 ·cases h
 ·simp only [Option.some.injEq, Addr.mk.injEq, and_true] at hb'
  subst hb'
  rw [loA_lt (by omega)] at hx
  obtain ⟨zv, hzv, hzc⟩ := run_zero (P := P) (t := e) w
  have hzl : z'.length = sz := Nat.eq_of_beq_eq_true (by simpa using TyI.zl (P := P) (t := e))
  have hzsz : zv.cells.size = sz := by rw [← hzl, ← hzc]; simp
  obtain ⟨vs, hvs⟩ : ∃ vs, (Builtin.zeroCells zv.cells m).toList = vs := ⟨_, rfl⟩
  have hvl : vs.length = m * sz := by rw [← hvs]; unfold Builtin.zeroCells; simp [hzsz]
  have hv1 : ∀ v ∈ vs, v.oneCell' = true := fun v hv => by
   rw [← hvs] at hv
   unfold Builtin.zeroCells at hv
   simp only [Array.toList_map, List.mem_map, Array.toList_range, List.mem_range] at hv
   obtain ⟨i, hi, rfl⟩ := hv
   have hp : 0 < zv.cells.size := Nat.pos_of_ne_zero fun h0 => by rw [h0] at hi; omega
   have hmod : i % zv.cells.size < zv.cells.size := Nat.mod_lt _ hp
   rw [getElem!_pos zv.cells _ hmod]
   exact List.all_eq_true.1 h1 _ (by rw [← hzc]; simp)
  have hkl : k * sz + m * sz ≤ cap * sz := by rw [← Nat.add_mul]; exact Nat.mul_le_mul_right _ (by omega)
  obtain ⟨w', hr, ho, htp, hout, hdr, hsz', hb2, hne⟩ := run_storeCells_at' (P := P) (k * sz) vs 0 cur w hb (by omega) hv1
  have hw : w' = { w with heap := w'.heap } := by cases w'; cases w; simp_all
  refine ⟨.tuple #[], w', _, I, ?_, ⟨rfl, rfl⟩, ?_⟩
  ·have hm0 : m ≠ 0 := by omega
   simp [execOp, resolve, invoke, builtin, hf.eval hx, Builtin.clear_, run_und (P := P) (t := t), hzv, hm0]
   rw [hvs, hr]
   rfl
  ·rw [hw]
   refine SelR.set hst k _ rfl _ _ hsz' hb2 hne ?_ ?_ (by omega) ?_
   ·rw [encs_length, List.length_take, hz]
    congr 1
    omega
   ·simp only [List.size_toArray, List.length_append, List.length_take, List.length_drop, Array.length_toList, hvl]; omega
   ·simp only [Nat.add_zero]
    rw [List.append_assoc, List.take_append_of_le_length (by simp; omega), List.take_take, Nat.min_self]
    have e1 : (encs xs).take (k * sz) = encs (xs.take k) := by
     have : encs xs = encs (xs.take k) ++ encs (xs.drop k) := by rw [← encs_append, List.take_append_drop]
     rw [this, List.take_append_of_le_length (by rw [encs_length, List.length_take, hz]; exact Nat.mul_le_mul_right _ (by omega)), List.take_of_length_le (by rw [encs_length, List.length_take, hz]; exact Nat.mul_le_mul_right _ (by omega))]
    rw [← e1, ← ht, List.take_take, Nat.min_eq_left (Nat.mul_le_mul_right _ (by omega))]
/-- A row has room for what is in it. -/
theorem tri_rowLe {E : TypeId} {a : Option Addr} {cap len sz : Nat} {cells : List Value} {K : Act → World → Prop} (h : len ≤ cap → Tri w0 n F (Row a cap len E sz cells :: A) I K) : Tri w0 n F (Row a cap len E sz cells :: A) I K := fun t w hf hst => by
 obtain ⟨_, ⟨_, h1, h2⟩ | ⟨_, _, _, _, _, h1, _⟩⟩ := SelR.at (a := a) hst
 ·exact h (by omega) t w hf hst
 ·exact h h1 t w hf hst
end
end Go.GL


set_option linter.unusedVariables false
namespace Go.GL
open Go.Proofs
attribute [local irreducible] wpList Code.wp Exit.then Exit.inBlock Ends Tri TriH OpV OpG FnC epf wpAnyH
variable {A : List Asrt} {I : List Chunk}
theorem place_orderV {p q : Cell} : FnC Try.prog 37 ([] ++ [cellV p, cellV q] ++ []).toArray A I (fun v A' I' => v = .int .i64 (R1.cmpC p q) ∧ A = A' ∧ I ⊆ I') := place_order
set_option maxRecDepth 100000 in
theorem cells_by1 {x y : Cell} {bo : Nat} {Tb : TypeId} {fz : Nat × Nat} (hI : (bo, Obj.cells #[.func (.func 37) #[] #[]] Tb fz) ∈ I) :
  FnC Try.prog 49 [cellV x, cellV y, pt bo 0].toArray A I (fun v A' I' => v = .int .i64 (R1.cmpC x y) ∧ A = A' ∧ I ⊆ I') := by
 skip
 skip
 refine fn_enter3 Try.func49 rfl Try.ntmps49 rfl fun w0 => ?_
 refine tS (tR ?_)
 first | refine tri_g (opg_box_agg rfl) rfl ?_ | refine tri_g (opg_box1 rfl rfl) rfl ?_
 rintro _ _ _ ⟨b3, rfl, rfl, rfl⟩
 first | refine tri_g (opg_box_agg rfl) rfl ?_ | refine tri_g (opg_box1 rfl rfl) rfl ?_
 rintro _ _ _ ⟨b4, rfl, rfl, rfl⟩
 refine tA rfl rfl (tN (tT (tS (tR ?_))))
 refine tri_v (opv_loadC rfl hI rfl rfl) rfl ?_
 refine tri_v (by first | exact opv_load1 rfl rfl rfl | exact opv_loadA rfl rfl rfl | exact opv_loadE1 rfl (by assumption) rfl (by omega) rfl rfl | exact opv_loadEA rfl (by assumption) rfl (by omega) rfl rfl | exact opv_loadRX1 rfl rfl (by omega) rfl rfl | exact opv_loadRXA rfl rfl (by omega) rfl rfl rfl | exact opv_loadIX rfl rfl (by omega) | exact opv_loadR1 rfl rfl rfl | exact opv_loadRA rfl rfl rfl rfl) rfl ?_
 refine tri_v (by first | exact opv_load1 rfl rfl rfl | exact opv_loadA rfl rfl rfl | exact opv_loadE1 rfl (by assumption) rfl (by omega) rfl rfl | exact opv_loadEA rfl (by assumption) rfl (by omega) rfl rfl | exact opv_loadRX1 rfl rfl (by omega) rfl rfl | exact opv_loadRXA rfl rfl (by omega) rfl rfl rfl | exact opv_loadIX rfl rfl (by omega) | exact opv_loadR1 rfl rfl rfl | exact opv_loadRA rfl rfl rfl rfl) rfl ?_
 refine tri_g (opg_callv (xs := [_, _]) rfl rfl (place_orderV (p := x) (q := y))) rfl ?_
 rintro _ _ I2 ⟨rfl, rfl, hI2⟩
 refine tA rfl rfl (tN (tT (tri_ret ?_)))
 refine tri_end A Suf.h rfl (.cons (rv_tmp rfl) .nil) ⟨rfl, rfl, hI2⟩
set_option maxRecDepth 100000 in
theorem cells_by {f : FuncId} : FnC Try.prog 41 [.func (.func f) #[] #[]].toArray A I (fun v A' I' => ∃ b, v = .func (.func 49) #[] #[pt b 0] ∧ A' = Box b [.func (.func f) #[] #[]] 66 :: A ∧ I = I') := by
 skip
 skip
 refine fn_enter1 Try.func41 rfl Try.ntmps41 rfl fun w0 => ?_
 refine tS (tR ?_)
 first | refine tri_g (opg_box_agg rfl) rfl ?_ | refine tri_g (opg_box1 rfl rfl) rfl ?_
 rintro _ _ _ ⟨b1, rfl, rfl, rfl⟩
 refine tA rfl rfl (tN (tT (tS (tR ?_))))
 refine tri_v (opv_makeFunc (fs := []) (cs := [_]) (vf := []) (vc := [_]) rfl rfl) rfl ?_
 refine tA rfl rfl (tN (tT (tri_ret ?_)))
 refine tri_end _ (by first | exact ⟨[], rfl⟩ | exact ⟨[_], rfl⟩ | exact ⟨[_, _], rfl⟩ | exact ⟨[_, _, _], rfl⟩ | exact ⟨[_, _, _, _], rfl⟩ | exact ⟨[_, _, _, _, _], rfl⟩ | exact ⟨[_, _, _, _, _, _], rfl⟩ | exact ⟨[_, _, _, _, _, _, _], rfl⟩ | exact ⟨[_, _, _, _, _, _, _, _], rfl⟩) rfl (.cons (rv_tmp rfl) .nil) ⟨_, rfl, rfl, rfl⟩
end Go.GL


set_option linter.unusedVariables false
namespace Go.GL
open Go.Proofs
attribute [local irreducible] wpList Code.wp Exit.then Exit.inBlock Ends Tri TriH OpV OpG FnC epf wpAnyH
variable {A : List Asrt} {I : List Chunk}
set_option maxRecDepth 100000 in
theorem of1 {c : Cell} : FnC Try.prog 39 ([] ++ [cellV c] ++ []).toArray A I (fun v A' I' => v = .bool (decide (¬ R1.inB c)) ∧ A = A' ∧ I = I') := by
 skip
 skip
 show FnC Try.prog _ [cellV c].toArray _ _ _
 refine fn_enter1 Try.func39 rfl Try.ntmps39 rfl fun w0 => ?_
 refine tS (tR ?_)
 first | refine tri_g (opg_box_agg rfl) rfl ?_ | refine tri_g (opg_box1 rfl rfl) rfl ?_
 rintro _ _ _ ⟨b1, rfl, rfl, rfl⟩
 refine tA rfl rfl (tN (tT (tS (tR ?_))))
 refine tri_v (by first | exact opv_load1 rfl rfl rfl | exact opv_loadA rfl rfl rfl | exact opv_loadE1 rfl (by assumption) rfl (by omega) rfl rfl | exact opv_loadEA rfl (by assumption) rfl (by omega) rfl rfl | exact opv_loadRX1 rfl rfl (by omega) rfl rfl | exact opv_loadRXA rfl rfl (by omega) rfl rfl rfl | exact opv_loadIX rfl rfl (by omega) | exact opv_loadR1 rfl rfl rfl | exact opv_loadRA rfl rfl rfl rfl) rfl ?_
 refine tri_g (opg_call (xs := [_]) rfl (cells_in (c := c))) rfl ?_
 rintro _ _ _ ⟨rfl, rfl, rfl⟩
 refine tri_v (by first | exact opv_notD rfl | exact opv_not rfl) rfl ?_
 refine tA rfl rfl (tN (tT (tri_ret ?_)))
 refine tri_end _ (by first | exact ⟨[], rfl⟩ | exact ⟨[_], rfl⟩ | exact ⟨[_, _], rfl⟩ | exact ⟨[_, _, _], rfl⟩ | exact ⟨[_, _, _, _], rfl⟩ | exact ⟨[_, _, _, _, _], rfl⟩ | exact ⟨[_, _, _, _, _, _], rfl⟩ | exact ⟨[_, _, _, _, _, _, _], rfl⟩ | exact ⟨[_, _, _, _, _, _, _, _], rfl⟩) rfl (.cons (rv_tmp rfl) .nil) ⟨?_, rfl, rfl⟩
 rfl
namespace R1
def idx (p : Cell → Bool) (l : List Cell) : Int := if l.findIdx p < l.length then (l.findIdx p : Nat) else -1
theorem idx_any {p : Cell → Bool} {l : List Cell} : 0 ≤ idx p l ↔ l.any p = true := by
 unfold idx
 rw [List.any_eq_true]
 split
 ·next h => exact ⟨fun _ => List.findIdx_lt_length.1 h, fun _ => by omega⟩
 ·next h => exact ⟨fun h2 => by omega, fun h2 => absurd (List.findIdx_lt_length.2 h2) h⟩
theorem getD_mem {l : List Cell} {i : Nat} (h : i < l.length) : l.getD i default ∈ l := by simp [h]
end R1
set_option maxRecDepth 100000 in
theorem cells_indexFunc {l : List Cell} {p : Cell → Bool} {f : FuncId} {ca : List Value} {a : Option Addr} {cap : Nat} [FnI Try.prog f] (hp : ∀ x ∈ l, FnC Try.prog f ([] ++ [cellV x] ++ ca).toArray A I (fun v A' I' => v = .bool (p x) ∧ A = A' ∧ I = I')) (hs : SlAt I a l) (hn : l.length ≤ 1000000000) :
  FnC Try.prog 46 [.slice a l.length cap, .func (.func f) #[] ca.toArray].toArray A I (fun v A' I' => v = .int .i64 (R1.idx p l) ∧ A = A' ∧ I = I') := by
 skip
 skip
 refine fn_enter2 Try.func46 rfl Try.ntmps46 rfl fun w0 => ?_
 refine tS (tR (tA rfl rfl (tN (tT (tS (tS (tR ?_)))))))
 refine tM rfl rfl ?_
 refine tri_v (opv_len rfl) rfl ?_
 refine tM rfl rfl (tN (tT (tri_block ?_)))
 refine tri_sub (F' := [(0, .slice a l.length cap), (1, .func (.func f) #[] ca.toArray), (6, .slice a l.length cap), (7, .int .i64 (l.length : Nat)), (8, .int .i64 (0 : Nat))]) ⟨rfl, rfl, rfl, rfl, rfl, trivial⟩ ?_
 refine loop_ind (G := Nat) (fun i => l.length - i) (fun i => i ≤ l.length ∧ ∀ j, j < i → p (l.getD j default) = false) (fun i => [(0, .slice a l.length cap), (1, .func (.func f) #[] ca.toArray), (6, .slice a l.length cap), (7, .int .i64 (l.length : Nat)), (8, .int .i64 (i : Nat))]) (fun _ => _) (fun _ => _) ?_ 0 ⟨by omega, fun j h => absurd h (by omega)⟩
 rintro i ⟨hi, hok⟩ K hK
 skip
 refine tS (tR ?_)
 refine tri_v (opv_lss rfl rfl) rfl ?_
 refine tN (tT (tS ?_))
 refine tri_cond_dec rfl (fun h => ?_) (fun h => ?_)
 ·have hlt : i < l.length := by omega
  refine tri_skip (tT (tS (tri_block (tS (tR (tM rfl rfl (tA rfl rfl ?_)))))))
  refine tN (tT (tS (tR (tM rfl rfl (tM rfl rfl (tM rfl rfl ?_))))))
  refine tri_v (by first | exact opv_indexAddrA rfl rfl (by first | decide | omega) (by first | decide | omega) | exact opv_indexAddrSN rfl rfl (by omega) (by assumption) rfl | exact opv_indexAddrS rfl rfl (by omega) (by omega) (by assumption) rfl | exact opv_indexAddrE rfl (by assumption) (by omega) rfl (by first | decide | omega) (by first | decide | omega) | exact opv_indexAddrRN rfl rfl (by omega) | exact opv_indexAddrR rfl rfl (by omega) (by omega) | exact opv_indexAddrRA rfl (by omega) rfl (by first | decide | omega) (by first | decide | omega) | exact opv_indexAddrSP rfl rfl (by omega) (by omega) | exact opv_indexAddrSN rfl rfl (by omega) (by assumption) (by omega) | exact opv_indexAddrS rfl rfl (by omega) (by omega) (by assumption) (by omega)) rfl ?_
  refine tri_v (by first | exact opv_load1 rfl rfl rfl | exact opv_loadA rfl rfl rfl | exact opv_loadE1 rfl (by assumption) rfl (by omega) rfl rfl | exact opv_loadEA rfl (by assumption) rfl (by omega) rfl rfl | exact opv_loadRX1 rfl rfl (by omega) rfl rfl | exact opv_loadRXA rfl rfl (by omega) rfl rfl rfl | exact opv_loadIX rfl rfl (by omega) | exact opv_loadR1 rfl rfl rfl | exact opv_loadRA rfl rfl rfl rfl) rfl ?_
  refine tri_g (opg_callv (xs := [_]) rfl rfl (hp (l.getD i default) (R1.getD_mem hlt))) rfl ?_
  rintro _ _ _ ⟨rfl, rfl, rfl⟩
  refine tN (tT ?_)
  refine tri_cond rfl (fun h1 => ?_) (fun h1 => ?_)
  ·refine tS (tR (tM rfl rfl (tA rfl rfl (tN (tT (tri_ret ?_))))))
   refine tri_inBlock_ret ?_
   refine tri_then_ret (tri_then_ret ?_)
   refine tri_inBlock_ret ?_
   refine tri_then_ret ?_
   refine tri_end A Suf.h rfl (.cons (rv_tmp rfl) .nil) ⟨?_, rfl, rfl⟩
   have e : l.findIdx p = i := (List.findIdx_eq hlt).2 ⟨by simpa [hlt] using h1, fun j hj => by have := hok j hj; simpa [Nat.lt_trans hj hlt] using this⟩
   unfold R1.idx
   rw [e, if_pos hlt]
   rfl
  ·refine tri_skip ?_
   refine tri_inBlock ?_
   refine tT (tR ?_)
   refine tri_v (by first | exact opv_add rfl rfl (w64 (by omega) (by omega))) rfl ?_
   refine tM rfl rfl (tN (tT ?_))
   refine tri_sub ?_ (hK (i + 1) ⟨by omega, fun j hj => ?_⟩ (by omega))
   ·exact ⟨rfl, rfl, rfl, rfl, rfl, trivial⟩
   ·by_cases e : j = i
    ·subst e
     exact h1
    ·exact hok j (by omega)
 ·refine tri_exit ?_
  refine tri_then_exit ?_
  refine tri_then_exit ?_
  refine tri_inBlock_hit rfl ?_
  refine tT (tS (tR (tA rfl rfl (tN (tT (tri_ret ?_))))))
  refine tri_end A Suf.h rfl (.cons (rv_tmp rfl) .nil) ⟨?_, rfl, rfl⟩
  have e : l.findIdx p = l.length := List.findIdx_eq_length.2 fun x hx => by
   obtain ⟨j, hj, rfl⟩ := List.getElem_of_mem hx
   have := hok j (by omega)
   simpa [hj] using this
  unfold R1.idx
  rw [if_neg (by omega)]
  rfl
set_option maxRecDepth 100000 in
theorem cells_containsFunc {l : List Cell} {p : Cell → Bool} {f : FuncId} {ca : List Value} {a : Option Addr} {cap : Nat} [FnI Try.prog f] (hp : ∀ x ∈ l, FnC Try.prog f ([] ++ [cellV x] ++ ca).toArray A I (fun v A' I' => v = .bool (p x) ∧ A = A' ∧ I = I')) (hs : SlAt I a l) (hn : l.length ≤ 1000000000) :
  FnC Try.prog 38 [.slice a l.length cap, .func (.func f) #[] ca.toArray].toArray A I (fun v A' I' => v = .bool (l.any p) ∧ A = A' ∧ I = I') := by
 refine fn_enter2 Try.func38 rfl Try.ntmps38 rfl fun w0 => ?_
 refine tS (tR (tA rfl rfl (tN (tT (tS (tR (tM rfl rfl ?_)))))))
 refine tM rfl rfl ?_
 refine tri_g (opg_call (xs := [_, _]) rfl (cells_indexFunc hp hs hn)) rfl ?_
 rintro _ _ _ ⟨rfl, rfl, rfl⟩
 refine tri_v (opv_geq rfl rfl) rfl ?_
 refine tA rfl rfl (tN (tT (tri_ret ?_)))
 refine tri_end A Suf.h rfl (.cons (rv_tmp rfl) .nil) ⟨?_, rfl, rfl⟩
 show Value.bool (decide (0 ≤ R1.idx p l)) = _
 rw [show decide (0 ≤ R1.idx p l) = l.any p by rw [Bool.eq_iff_iff, decide_eq_true_iff]; exact R1.idx_any]
set_option maxRecDepth 100000 in
theorem clone_cells {l : List Cell} {a : Option Addr} {cap : Nat} (hs : SlAt I a l) (hn : l.length ≤ 1000000000) (h0 : a = none → l = []) :
  FnC Try.prog 33 [.slice a l.length cap].toArray A I (fun v A' I' => ∃ a' cap', v = .slice a' l.length cap' ∧ A' = Row a' cap' l.length 40 2 (encs l) :: A ∧ I = I') := by
 cases a with
 | none =>
  obtain rfl := h0 rfl
  skip
  refine fn_enter1 Try.func33 rfl Try.ntmps33 rfl fun w0 => ?_
  refine tS (tR (tA rfl rfl (tN (tT (tS (tS (tR ?_)))))))
  refine tM rfl rfl ?_
  refine tri_v (by first | exact opv_eql rfl rfl | exact opv_eqlI rfl rfl rfl rfl rfl rfl | exact opv_eqlB rfl rfl | exact opv_eqlNil rfl rfl) rfl ?_
  refine tN (tT ?_)
  refine tri_cond_true (by first | rfl | exact rfl) ?_
  refine tS (tR (tA rfl rfl (tN (tT (tri_ret (tri_then_ret ?_))))))
  refine tri_nilRow (E := 40) (sz := 2) ?_
  refine tri_end _ (by first | exact ⟨[], rfl⟩ | exact ⟨[_], rfl⟩ | exact ⟨[_, _], rfl⟩ | exact ⟨[_, _, _], rfl⟩ | exact ⟨[_, _, _, _], rfl⟩ | exact ⟨[_, _, _, _, _], rfl⟩ | exact ⟨[_, _, _, _, _, _], rfl⟩ | exact ⟨[_, _, _, _, _, _, _], rfl⟩ | exact ⟨[_, _, _, _, _, _, _, _], rfl⟩) rfl (.cons (rv_tmp rfl) .nil) ⟨none, 0, rfl, rfl, rfl⟩
 | some ad =>
  refine fn_enter1 Try.func33 rfl Try.ntmps33 rfl fun w0 => ?_
  refine tS (tR (tA rfl rfl (tN (tT (tS (tS (tR ?_)))))))
  refine tM rfl rfl ?_
  refine tri_v (by first | exact opv_eql rfl rfl | exact opv_eqlI rfl rfl rfl rfl rfl rfl | exact opv_eqlB rfl rfl | exact opv_eqlNil rfl rfl) rfl ?_
  refine tN (tT ?_)
  refine tri_cond_false (by first | rfl | exact rfl) ?_
  refine tri_skip (tT (tS (tR ?_)))
  refine tri_g (opg_buildSlice rfl rfl rfl rfl) rfl ?_
  rintro _ _ _ ⟨b5, rfl, rfl, rfl⟩
  refine tM rfl rfl ?_
  refine tri_boxRow (k := 0) (sz := 2) rfl ?_
  refine tri_g (opg_appendS rfl rfl hs rfl rfl (by omega) rfl) rfl ?_
  rintro _ _ _ ⟨a2, cap2, rfl, rfl, rfl⟩
  refine tA rfl rfl (tN (tT (tri_ret ?_)))
  refine tri_rowEq (len' := l.length) (cells' := encs l) (by omega) rfl ?_
  refine tri_end _ (by first | exact ⟨[], rfl⟩ | exact ⟨[_], rfl⟩ | exact ⟨[_, _], rfl⟩ | exact ⟨[_, _, _], rfl⟩ | exact ⟨[_, _, _, _], rfl⟩ | exact ⟨[_, _, _, _, _], rfl⟩ | exact ⟨[_, _, _, _, _, _], rfl⟩ | exact ⟨[_, _, _, _, _, _, _], rfl⟩ | exact ⟨[_, _, _, _, _, _, _, _], rfl⟩) rfl (.cons (rv_tmp rfl) .nil) ⟨a2, cap2, ?_, rfl, rfl⟩
  rw [Nat.zero_add]; rfl
/-- Of a row: no more than 2000. -/
theorem cells_few {l : List Cell} {a : Option Addr} {cap : Nat} :
  FnC Try.prog 42 [.slice a l.length cap].toArray A I (fun v A' I' => v = (if 2000 < l.length then .tuple #[.slice none 0 0, .int .i64 3] else .tuple #[.slice a l.length cap, .int .i64 0]) ∧ A = A' ∧ I = I') := by
 refine fn_enter1 Try.func42 rfl Try.ntmps42 rfl fun w0 => ?_
 refine tS (tR (tA rfl rfl (tA rfl rfl (tN (tT (tS (tS ?_)))))))
 refine tR (tM rfl rfl ?_)
 refine tri_v (opv_len rfl) rfl ?_
 refine tri_v (opv_gtr rfl rfl) rfl ?_
 refine tN (tT ?_)
 refine tri_cond_dec rfl (fun h => ?_) (fun h => ?_)
 ·refine tS (tR (tA rfl rfl (tA rfl rfl (tN (tT (tri_ret (tri_then_ret ?_)))))))
  refine tri_end _ (by first | exact ⟨[], rfl⟩ | exact ⟨[_], rfl⟩ | exact ⟨[_, _], rfl⟩ | exact ⟨[_, _, _], rfl⟩ | exact ⟨[_, _, _, _], rfl⟩ | exact ⟨[_, _, _, _, _], rfl⟩ | exact ⟨[_, _, _, _, _, _], rfl⟩ | exact ⟨[_, _, _, _, _, _, _], rfl⟩ | exact ⟨[_, _, _, _, _, _, _, _], rfl⟩) rfl (.cons (rv_tmp rfl) (.cons (rv_tmp rfl) .nil)) ⟨?_, rfl, rfl⟩
  rw [if_pos (by omega)]
  rfl
 ·refine tri_skip (tT (tS (tR (tM rfl rfl (tA rfl rfl (tA rfl rfl (tN ?_)))))))
  refine tT (tri_ret ?_)
  refine tri_end _ (by first | exact ⟨[], rfl⟩ | exact ⟨[_], rfl⟩ | exact ⟨[_, _], rfl⟩ | exact ⟨[_, _, _], rfl⟩ | exact ⟨[_, _, _, _], rfl⟩ | exact ⟨[_, _, _, _, _], rfl⟩ | exact ⟨[_, _, _, _, _, _], rfl⟩ | exact ⟨[_, _, _, _, _, _, _], rfl⟩ | exact ⟨[_, _, _, _, _, _, _, _], rfl⟩) rfl (.cons (rv_tmp rfl) (.cons (rv_tmp rfl) .nil)) ⟨?_, rfl, rfl⟩
  rw [if_neg (by omega)]
  rfl
end Go.GL


set_option linter.unusedVariables false
namespace Go.GL
open Go.Proofs
attribute [local irreducible] wpList Code.wp Exit.then Exit.inBlock Ends Tri TriH OpV OpG FnC epf wpAnyH
variable {A : List Asrt} {I : List Chunk}
namespace R1
/-- Where k of the l.take j are left, in the list as it stands now. -/
structure Cpt (l cur : List Cell) (k j : Nat) : Prop where
 len : cur.length = l.length
 le : k + 1 ≤ j
 hi : j ≤ l.length
 pos : 0 < k
 tk : cur.take k = compact (l.take j)
 rest : ∀ i, j ≤ i + 1 → cur.getD i default = l.getD i default
theorem Cpt.skip {l cur : List Cell} {k j : Nat} (h : Cpt l cur k j) (hj : j < l.length) (e : cur.getD j default = cur.getD (j - 1) default) : Cpt l cur k (j + 1) := by
 have h1 := h.le
 have h2 := h.pos
 refine ⟨h.len, by omega, by omega, h.pos, ?_, fun i hi => h.rest i (by omega)⟩
 rw [compact_take l j (by omega) hj, if_pos, h.tk]
 rw [h.rest j (by omega), h.rest (j - 1) (by omega)] at e
 exact e.symm
theorem Cpt.put {l cur : List Cell} {k j : Nat} (h : Cpt l cur k j) (hj : j < l.length) (e : cur.getD j default ≠ cur.getD (j - 1) default) : Cpt l (cur.set k (cur.getD j default)) (k + 1) (j + 1) := by
 have h1 := h.le
 have h2 := h.pos
 have h3 := h.len
 refine ⟨by rw [List.length_set, h.len], by omega, by omega, by omega, ?_, fun i hi => ?_⟩
 ·rw [compact_take l j (by omega) hj, if_neg, ← h.tk]
  ·rw [h.rest j (by omega)]
   have : (cur.set k (l.getD j default)).take (k + 1) = cur.take k ++ [l.getD j default] := by
    rw [List.take_succ_eq_append_getElem (by rw [List.length_set]; omega), List.getElem_set_self, List.take_set_of_le (Nat.le_refl _)]
   rw [this]
   rfl
  ·rw [h.rest j (by omega), h.rest (j - 1) (by omega)] at e
   exact fun e2 => e e2.symm
 ·have := h.rest i (by omega)
  rw [← this]
  simp only [List.getD_eq_getElem?_getD]
  rw [List.getElem?_set_ne (by omega)]
theorem Cpt.first {l : List Cell} {k : Nat} (hk : 0 < k) (hl : k < l.length) (h : compact (l.take k) = l.take k) (e : l.getD k default = l.getD (k - 1) default) : Cpt l l k (k + 1) := by
 refine ⟨rfl, by omega, by omega, hk, ?_, fun _ _ => rfl⟩
 rw [compact_take l k hk hl, if_pos (show g l (k - 1) = g l k from e.symm), h]
theorem compact_go {l : List Cell} {k : Nat} (hk : 0 < k) (hl : k < l.length) (h : compact (l.take k) = l.take k) (e : l.getD k default ≠ l.getD (k - 1) default) : compact (l.take (k + 1)) = l.take (k + 1) := by
 rw [compact_take l k hk hl, if_neg (fun e2 => e e2.symm), h, List.take_succ_eq_append_getElem hl]
 congr 2
 unfold g
 simp [hl]
theorem compact_small {l : List Cell} (h : l.length < 2) : compact l = l := by
 match l, h with
 | [], _ => rfl
 | [_], _ => rfl
end R1
set_option maxHeartbeats 1000000 in
set_option maxRecDepth 100000 in
theorem cells_compact {l : List Cell} {a : Option Addr} {cap : Nat} (hn : l.length ≤ 1000000000) :
  FnC Try.prog 43 [.slice a l.length cap].toArray (Row a cap l.length 40 2 (encs l) :: A) I (fun v A' I' => v = .slice a (R1.compact l).length cap ∧ A' = Row a cap (R1.compact l).length 40 2 (encs (R1.compact l)) :: A ∧ I = I') := by
 skip
 skip
 skip
 refine fn_enter1 Try.func43 rfl Try.ntmps43 rfl fun w0 => ?_
 refine tS (tR (tA rfl rfl (tN (tT (tS (tS (tR ?_)))))))
 refine tM rfl rfl ?_
 refine tri_v (opv_len rfl) rfl ?_
 refine tri_v (opv_lss rfl rfl) rfl ?_
 refine tN (tT ?_)
 refine tri_cond_dec rfl (fun h => ?_) (fun h => ?_)
 ·refine tS (tR (tM rfl rfl (tA rfl rfl (tN (tT (tri_ret (tri_then_ret ?_)))))))
  refine tri_end _ (by first | exact ⟨[], rfl⟩ | exact ⟨[_], rfl⟩ | exact ⟨[_, _], rfl⟩ | exact ⟨[_, _, _], rfl⟩ | exact ⟨[_, _, _, _], rfl⟩ | exact ⟨[_, _, _, _, _], rfl⟩ | exact ⟨[_, _, _, _, _, _], rfl⟩ | exact ⟨[_, _, _, _, _, _, _], rfl⟩ | exact ⟨[_, _, _, _, _, _, _, _], rfl⟩) rfl (.cons (rv_tmp rfl) .nil) ?_
  rw [R1.compact_small (by omega)]
  exact ⟨rfl, rfl, rfl⟩
 ·refine tri_rowSome rfl fun hnone => ?_
  refine tri_rowPt (fun e => by have := hnone e; subst this; simp at h) fun bb eb => ?_
  subst eb
  refine tri_skip (tT (tS (tS (tR (tA rfl rfl (tN (tT ?_)))))))
  refine tri_block ?_
  refine tri_sub (F' := [(0, .slice (some ⟨bb, 0, none⟩) l.length cap), (3, .int .i64 (1 : Nat))]) ⟨rfl, rfl, trivial⟩ ?_
  refine loop_ind (G := Nat) (fun k => l.length - k) (fun k => 0 < k ∧ k ≤ l.length ∧ R1.compact (l.take k) = l.take k) (fun k => [(0, .slice (some ⟨bb, 0, none⟩) l.length cap), (3, .int .i64 (k : Nat))]) (fun _ => _) (fun _ => _) ?_ 1 ⟨by omega, by omega, R1.compact_small (by rw [List.length_take]; omega)⟩
  rintro k ⟨hk0, hk, hc⟩ K hK
  skip
  refine tS (tS (tR (tM rfl rfl (tM rfl rfl ?_))))
  refine tri_v (opv_len rfl) rfl ?_
  refine tri_v (opv_lss rfl rfl) rfl ?_
  refine tN (tT ?_)
  refine tri_cond_dec rfl (fun h1 => ?_) (fun h1 => ?_)
  ·have hlt : k < l.length := by omega
   refine tri_skip (tT (tS (tri_block (tS ?_))))
   refine tri_draw [0, 1, 2, 3, 4, 5, 6, 7, 8, 9] rfl [] rfl mixed ?_
   refine th_take rfl rfl (by kernel_rfl)  (opv_move rfl) ?_
   refine th_take rfl rfl (by kernel_rfl)  (opv_move rfl) ?_
   refine th_take rfl rfl (by kernel_rfl)  (by first | exact opv_indexAddrA rfl rfl (by first | decide | omega) (by first | decide | omega) | exact opv_indexAddrSN rfl rfl (by omega) (by assumption) rfl | exact opv_indexAddrS rfl rfl (by omega) (by omega) (by assumption) rfl | exact opv_indexAddrE rfl (by assumption) (by omega) rfl (by first | decide | omega) (by first | decide | omega) | exact opv_indexAddrRN rfl rfl (by omega) | exact opv_indexAddrR rfl rfl (by omega) (by omega) | exact opv_indexAddrRA rfl (by omega) rfl (by first | decide | omega) (by first | decide | omega) | exact opv_indexAddrSP rfl rfl (by omega) (by omega) | exact opv_indexAddrSN rfl rfl (by omega) (by assumption) (by omega) | exact opv_indexAddrS rfl rfl (by omega) (by omega) (by assumption) (by omega)) ?_
   refine th_take rfl rfl (by kernel_rfl)  (by first | exact opv_load1 rfl rfl rfl | exact opv_loadA rfl rfl rfl | exact opv_loadE1 rfl (by assumption) rfl (by omega) rfl rfl | exact opv_loadEA rfl (by assumption) rfl (by omega) rfl rfl | exact opv_loadRX1 rfl rfl (by omega) rfl rfl | exact opv_loadRXA rfl rfl (by omega) rfl rfl rfl | exact opv_loadIX rfl rfl (by omega) | exact opv_loadR1 rfl rfl rfl | exact opv_loadRA rfl rfl rfl rfl) ?_
   refine th_take rfl rfl (by kernel_rfl)  (opv_move rfl) ?_
   refine th_take rfl rfl (by kernel_rfl)  (opv_move rfl) ?_
   refine th_take rfl rfl (by kernel_rfl)  (by first | exact opv_sub rfl rfl (w64 (by omega) (by omega)) | exact opv_sub rfl rfl rfl) ?_
   refine th_take rfl rfl (by kernel_rfl)  (by first | exact opv_indexAddrA rfl rfl (by first | decide | omega) (by first | decide | omega) | exact opv_indexAddrSN rfl rfl (by omega) (by assumption) rfl | exact opv_indexAddrS rfl rfl (by omega) (by omega) (by assumption) rfl | exact opv_indexAddrE rfl (by assumption) (by omega) rfl (by first | decide | omega) (by first | decide | omega) | exact opv_indexAddrRN rfl rfl (by omega) | exact opv_indexAddrR rfl rfl (by omega) (by omega) | exact opv_indexAddrRA rfl (by omega) rfl (by first | decide | omega) (by first | decide | omega) | exact opv_indexAddrSP rfl rfl (by omega) (by omega) | exact opv_indexAddrSN rfl rfl (by omega) (by assumption) (by omega) | exact opv_indexAddrS rfl rfl (by omega) (by omega) (by assumption) (by omega)) ?_
   refine th_take rfl rfl (by kernel_rfl)  (by first | exact opv_load1 rfl rfl rfl | exact opv_loadA rfl rfl rfl | exact opv_loadE1 rfl (by assumption) rfl (by omega) rfl rfl | exact opv_loadEA rfl (by assumption) rfl (by omega) rfl rfl | exact opv_loadRX1 rfl rfl (by omega) rfl rfl | exact opv_loadRXA rfl rfl (by omega) rfl rfl rfl | exact opv_loadIX rfl rfl (by omega) | exact opv_loadR1 rfl rfl rfl | exact opv_loadRA rfl rfl rfl rfl) ?_
   refine th_take rfl rfl (by kernel_rfl)  (by first | exact opv_eql rfl rfl | exact opv_eqlI rfl rfl rfl rfl rfl rfl | exact opv_eqlB rfl rfl | exact opv_eqlNil rfl rfl) ?_
   refine th_done (by kernel_rfl) ?_
   refine tT ?_
   refine tri_cond_dec rfl (fun h2 => ?_) (fun h2 => ?_)
   ·have h2 : l.getD k default = l.getD (k - 1) default := by
     have := Cell.ext_iff'.2 h2
     rwa [show ((k : Int) - 1).toNat = k - 1 by omega] at this
    refine tri_rowLe fun hcap => ?_
    refine tS (tR (tM rfl rfl (tM rfl rfl ?_)))
    refine tri_v (opv_sliceLoN rfl rfl (by omega) (by omega)) rfl ?_
    refine tA rfl rfl (tN (tT (tS (tS (tR (tA rfl rfl (tN ?_)))))))
    refine tT (tri_block ?_)
    refine tri_sub (F' := [(0, .slice (some ⟨bb, 0, none⟩) l.length cap), (3, .int .i64 (k : Nat)), (4, .slice (loA (some ⟨bb, 0, none⟩) cap k 2) (l.length - k) (cap - k)), (5, .int .i64 ((k + 1 - k : Nat) : Int))]) (by rw [show k + 1 - k = 1 by omega]; exact ⟨rfl, rfl, rfl, rfl, trivial⟩) ?_
    refine loop_ind (G := Nat × Nat × List Cell) (fun g => l.length - g.1) (fun g => R1.Cpt l g.2.2 g.2.1 g.1 ∧ k < g.1) (fun g => [(0, .slice (some ⟨bb, 0, none⟩) l.length cap), (3, .int .i64 (g.2.1 : Nat)), (4, .slice (loA (some ⟨bb, 0, none⟩) cap k 2) (l.length - k) (cap - k)), (5, .int .i64 ((g.1 - k : Nat) : Int))]) (fun g => Row (some ⟨bb, 0, none⟩) cap l.length 40 2 (encs g.2.2) :: A) (fun _ => I) ?_ (k + 1, k, l) ⟨R1.Cpt.first hk0 hlt hc h2, by simp only; omega⟩
    rintro ⟨j, m, cur⟩ ⟨hC, hj⟩ K2 hK2
    simp only at hC hj hK2 ⊢
    have hm := hC.le
    have hjl := hC.hi
    have hcl := hC.len
    have hm0 := hC.pos
    skip
    refine tS (tS (tR (tM rfl rfl (tM rfl rfl ?_))))
    refine tri_v (opv_len rfl) rfl ?_
    refine tri_v (opv_lss rfl rfl) rfl ?_
    refine tN (tT ?_)
    refine tri_cond_dec rfl (fun h3 => ?_) (fun h3 => ?_)
    ·have hjlt : j < l.length := by omega
     refine tri_skip (tT (tS (tri_block (tS ?_))))
     refine tri_draw [0, 1, 2, 3, 4, 5, 6, 7, 8, 9] rfl [] rfl mixed ?_
     refine th_take rfl rfl (by kernel_rfl)  (opv_move rfl) ?_
     refine th_take rfl rfl (by kernel_rfl)  (opv_move rfl) ?_
     refine th_take rfl rfl (by kernel_rfl)  (opv_indexAddrSub (j := j) rfl rfl (by omega) (by omega) (by omega) (by omega)) ?_
     refine th_take rfl rfl (by kernel_rfl)  (by first | exact opv_load1 rfl rfl rfl | exact opv_loadA rfl rfl rfl | exact opv_loadE1 rfl (by assumption) rfl (by omega) rfl rfl | exact opv_loadEA rfl (by assumption) rfl (by omega) rfl rfl | exact opv_loadRX1 rfl rfl (by omega) rfl rfl | exact opv_loadRXA rfl rfl (by omega) rfl rfl rfl | exact opv_loadIX rfl rfl (by omega) | exact opv_loadR1 rfl rfl rfl | exact opv_loadRA rfl rfl rfl rfl) ?_
     refine th_take rfl rfl (by kernel_rfl)  (opv_move rfl) ?_
     refine th_take rfl rfl (by kernel_rfl)  (opv_move rfl) ?_
     refine th_take rfl rfl (by kernel_rfl)  (by first | exact opv_sub rfl rfl (w64 (by omega) (by omega)) | exact opv_sub rfl rfl rfl) ?_
     refine th_take rfl rfl (by kernel_rfl)  (opv_indexAddrSub (j := j - 1) rfl rfl (by omega) (by omega) (by omega) (by omega)) ?_
     refine th_take rfl rfl (by kernel_rfl)  (by first | exact opv_load1 rfl rfl rfl | exact opv_loadA rfl rfl rfl | exact opv_loadE1 rfl (by assumption) rfl (by omega) rfl rfl | exact opv_loadEA rfl (by assumption) rfl (by omega) rfl rfl | exact opv_loadRX1 rfl rfl (by omega) rfl rfl | exact opv_loadRXA rfl rfl (by omega) rfl rfl rfl | exact opv_loadIX rfl rfl (by omega) | exact opv_loadR1 rfl rfl rfl | exact opv_loadRA rfl rfl rfl rfl) ?_
     refine th_take rfl rfl (by kernel_rfl)  (by first | exact opv_neq rfl rfl | exact opv_neqI rfl rfl rfl rfl rfl rfl | exact opv_neqB rfl rfl) ?_
     refine th_done (by kernel_rfl) ?_
     refine tT ?_
     refine tri_cond_dec rfl (fun h4 => ?_) (fun h4 => ?_)
     ·have h4 : cur.getD j default ≠ cur.getD (j - 1) default := fun e => h4 (Cell.ext_iff'.1 e)
      refine tS (tR (tM rfl rfl (tM rfl rfl (tM rfl rfl (tM rfl rfl ?_)))))
      refine tri_v (opv_indexAddrSub (j := j) rfl rfl (by omega) (by omega) (by omega) (by omega)) rfl ?_
      refine tri_v (by first | exact opv_load1 rfl rfl rfl | exact opv_loadA rfl rfl rfl | exact opv_loadE1 rfl (by assumption) rfl (by omega) rfl rfl | exact opv_loadEA rfl (by assumption) rfl (by omega) rfl rfl | exact opv_loadRX1 rfl rfl (by omega) rfl rfl | exact opv_loadRXA rfl rfl (by omega) rfl rfl rfl | exact opv_loadIX rfl rfl (by omega) | exact opv_loadR1 rfl rfl rfl | exact opv_loadRA rfl rfl rfl rfl) rfl ?_
      refine tri_v (by first | exact opv_indexAddrA rfl rfl (by first | decide | omega) (by first | decide | omega) | exact opv_indexAddrSN rfl rfl (by omega) (by assumption) rfl | exact opv_indexAddrS rfl rfl (by omega) (by omega) (by assumption) rfl | exact opv_indexAddrE rfl (by assumption) (by omega) rfl (by first | decide | omega) (by first | decide | omega) | exact opv_indexAddrRN rfl rfl (by omega) | exact opv_indexAddrR rfl rfl (by omega) (by omega) | exact opv_indexAddrRA rfl (by omega) rfl (by first | decide | omega) (by first | decide | omega) | exact opv_indexAddrSP rfl rfl (by omega) (by omega) | exact opv_indexAddrSN rfl rfl (by omega) (by assumption) (by omega) | exact opv_indexAddrS rfl rfl (by omega) (by omega) (by assumption) (by omega)) rfl ?_
      refine tri_g (opg_storeRX (cur.getD j default) rfl rfl rfl (by omega) hcl.symm rfl rfl rfl rfl) rfl ?_
      rintro _ _ _ ⟨rfl, rfl⟩
      refine tN (tT (tR (tM rfl rfl ?_)))
      refine tri_v (by first | exact opv_add rfl rfl (w64 (by omega) (by omega))) rfl ?_
      refine tA rfl rfl (tN ?_)
      refine tri_inBlock ?_
      refine tT (tR (tM rfl rfl ?_))
      refine tri_v (by first | exact opv_add rfl rfl (w64 (by omega) (by omega))) rfl ?_
      refine tA rfl rfl (tN (tT ?_))
      refine tri_sub ?_ (hK2 (j + 1, m + 1, cur.set m (cur.getD j default)) ⟨hC.put hjlt h4, by simp only; omega⟩ (by simp only; omega))
      simp only [show j + 1 - k = j - k + 1 by omega]
      exact ⟨rfl, rfl, rfl, rfl, trivial⟩
     ·have h4 : cur.getD j default = cur.getD (j - 1) default := Cell.ext_iff'.2 (Decidable.not_not.1 h4)
      refine tri_skip ?_
      refine tri_inBlock ?_
      refine tT (tR (tM rfl rfl ?_))
      refine tri_v (by first | exact opv_add rfl rfl (w64 (by omega) (by omega))) rfl ?_
      refine tA rfl rfl (tN (tT ?_))
      refine tri_sub ?_ (hK2 (j + 1, m, cur) ⟨hC.skip hjlt h4, by simp only; omega⟩ (by simp only; omega))
      simp only [show j + 1 - k = j - k + 1 by omega]
      exact ⟨rfl, rfl, rfl, rfl, trivial⟩
    ·refine tri_exit ?_
     refine tri_then_exit ?_
     refine tri_then_exit ?_
     refine tri_inBlock_hit rfl ?_
     refine tT (tS (tR (tM rfl rfl (tM rfl rfl ?_))))
     have ej : j = l.length := by omega
     subst ej
     refine tri_v (opv_sliceLoN rfl rfl (by omega) (by omega)) rfl ?_
     skip
     refine tri_g (opg_clearTail (k := m) (m := l.length - m) rfl (by omega) hcl.symm (by omega) rfl rfl) rfl ?_
     rintro _ _ _ ⟨rfl, rfl⟩
     refine tN (tT (tS (tR (tM rfl rfl (tM rfl rfl ?_)))))
     refine tri_v (opv_sliceHiN rfl rfl (by omega) (by omega)) rfl ?_
     refine tA rfl rfl (tN (tT (tri_ret ?_)))
     refine tri_inBlock_ret ?_
     refine tri_then_ret (tri_then_ret ?_)
     refine tri_inBlock_ret ?_
     refine tri_then_ret ?_
     have etk : cur.take m = R1.compact l := by rw [hC.tk, List.take_of_length_le (Nat.le_refl _)]
     have eml : m = (R1.compact l).length := by rw [← etk, List.length_take]; omega
     refine tri_end _ (by first | exact ⟨[], rfl⟩ | exact ⟨[_], rfl⟩ | exact ⟨[_, _], rfl⟩ | exact ⟨[_, _, _], rfl⟩ | exact ⟨[_, _, _, _], rfl⟩ | exact ⟨[_, _, _, _, _], rfl⟩ | exact ⟨[_, _, _, _, _, _], rfl⟩ | exact ⟨[_, _, _, _, _, _, _], rfl⟩ | exact ⟨[_, _, _, _, _, _, _, _], rfl⟩) rfl (.cons (rv_tmp rfl) .nil) ?_
     rw [etk, ← eml]
     exact ⟨rfl, rfl, rfl⟩
   ·have h2 : l.getD k default ≠ l.getD (k - 1) default := fun e => h2 (by
     rw [show ((k : Int) - 1).toNat = k - 1 by omega]
     exact Cell.ext_iff'.1 e)
    refine tri_skip ?_
    refine tri_inBlock ?_
    refine tT (tR (tM rfl rfl ?_))
    refine tri_v (by first | exact opv_add rfl rfl (w64 (by omega) (by omega))) rfl ?_
    refine tA rfl rfl (tN (tT ?_))
    refine tri_sub ?_ (hK (k + 1) ⟨by omega, by omega, R1.compact_go hk0 hlt hc h2⟩ (by omega))
    exact ⟨rfl, rfl, trivial⟩
  ·refine tri_exit ?_
   refine tri_then_exit ?_
   refine tri_then_exit ?_
   refine tri_inBlock_hit rfl ?_
   refine tT (tS (tR (tM rfl rfl (tA rfl rfl (tN (tT (tri_ret ?_)))))))
   refine tri_end _ (by first | exact ⟨[], rfl⟩ | exact ⟨[_], rfl⟩ | exact ⟨[_, _], rfl⟩ | exact ⟨[_, _, _], rfl⟩ | exact ⟨[_, _, _, _], rfl⟩ | exact ⟨[_, _, _, _, _], rfl⟩ | exact ⟨[_, _, _, _, _, _], rfl⟩ | exact ⟨[_, _, _, _, _, _, _], rfl⟩ | exact ⟨[_, _, _, _, _, _, _, _], rfl⟩) rfl (.cons (rv_tmp rfl) .nil) ?_
   have e : k = l.length := by omega
   subst e
   rw [List.take_of_length_le (Nat.le_refl _)] at hc
   rw [hc]
   exact ⟨rfl, rfl, rfl⟩
end Go.GL


set_option linter.unusedVariables false
namespace Go.GL
open Go.Proofs
attribute [local irreducible] wpList Code.wp Exit.then Exit.inBlock Ends Tri TriH OpV OpG FnC epf wpAnyH
variable {A : List Asrt} {I : List Chunk}
set_option maxHeartbeats 1000000 in
set_option maxRecDepth 100000 in
theorem cells_right {l : List Cell} {a : Option Addr} {cap : Nat} (hs : SlAt I a l) (hn : l.length ≤ 1000000000) :
  FnC Try.prog 28 [.slice a l.length cap].toArray A I (fun v A' I' => v = .bool (decide (R1.right l)) ∧ A = A' ∧ I ⊆ I') := by
 skip
 skip
 refine fn_enter1 Try.func28 rfl Try.ntmps28 rfl fun w0 => ?_
 refine tS (tR (tA rfl rfl (tN (tT (tS (tS (tR ?_)))))))
 refine tM rfl rfl ?_
 refine tri_v (opv_len rfl) rfl ?_
 refine tM rfl rfl (tN (tT (tri_block ?_)))
 refine tri_sub (F' := [(0, .slice a l.length cap), (5, .slice a l.length cap), (6, .int .i64 (l.length : Nat)), (7, .int .i64 (0 : Nat))]) ⟨rfl, rfl, rfl, rfl, trivial⟩ ?_
 refine loop_ind (G := Nat × List Chunk) (fun g => l.length - g.1) (fun g => g.1 ≤ l.length ∧ (∀ j, j < g.1 → R1.okAt l j) ∧ I ⊆ g.2) (fun g => [(0, .slice a l.length cap), (5, .slice a l.length cap), (6, .int .i64 (l.length : Nat)), (7, .int .i64 (g.1 : Nat))]) (fun _ => A) (fun g => g.2) ?_ (0, I) ⟨by simp only; omega, fun j h => absurd h (by simp only; omega), fun _ h => h⟩
 rintro ⟨i, J⟩ ⟨hi, hok, hJ⟩ K hK
 simp only at hi hok hJ hK ⊢
 have hsm : SlAt J a l := hs.mono hJ
 skip
 refine tS (tR ?_)
 refine tri_v (opv_lss rfl rfl) rfl ?_
 refine tN (tT (tS ?_))
 refine tri_cond_dec rfl (fun h => ?_) (fun h => ?_)
 ·have hlt : i < l.length := by omega
  have bad : ¬ R1.okAt l i → ¬ R1.right l := fun h2 h3 => h2 (h3.1 i (by omega))
  refine tri_skip (tT (tS (tri_block (tS (tR (tM rfl rfl ?_))))))
  refine tri_v (by first | exact opv_indexAddrA rfl rfl (by first | decide | omega) (by first | decide | omega) | exact opv_indexAddrSN rfl rfl (by omega) (by assumption) rfl | exact opv_indexAddrS rfl rfl (by omega) (by omega) (by assumption) rfl | exact opv_indexAddrE rfl (by assumption) (by omega) rfl (by first | decide | omega) (by first | decide | omega) | exact opv_indexAddrRN rfl rfl (by omega) | exact opv_indexAddrR rfl rfl (by omega) (by omega) | exact opv_indexAddrRA rfl (by omega) rfl (by first | decide | omega) (by first | decide | omega) | exact opv_indexAddrSP rfl rfl (by omega) (by omega) | exact opv_indexAddrSN rfl rfl (by omega) (by assumption) (by omega) | exact opv_indexAddrS rfl rfl (by omega) (by omega) (by assumption) (by omega)) rfl ?_
  refine tri_v (by first | exact opv_load1 rfl rfl rfl | exact opv_loadA rfl rfl rfl | exact opv_loadE1 rfl (by assumption) rfl (by omega) rfl rfl | exact opv_loadEA rfl (by assumption) rfl (by omega) rfl rfl | exact opv_loadRX1 rfl rfl (by omega) rfl rfl | exact opv_loadRXA rfl rfl (by omega) rfl rfl rfl | exact opv_loadIX rfl rfl (by omega) | exact opv_loadR1 rfl rfl rfl | exact opv_loadRA rfl rfl rfl rfl) rfl ?_
  refine tri_g opg_alloc rfl ?_
  rintro _ _ _ ⟨b4, rfl, rfl, rfl⟩
  refine tA rfl rfl ?_
  refine tri_g (opg_store rfl rfl rfl rfl rfl rfl) rfl ?_
  rintro _ _ _ ⟨rfl, rfl⟩
  refine tN (tT (tS ?_))
  refine tri_draw [0, 1, 2, 3, 4, 5, 6, 7, 8, 9, 10, 11, 12, 13, 14, 15, 16] rfl [] rfl mixed ?_
  refine th_take rfl rfl (by kernel_rfl)  (by first | exact opv_load1 rfl rfl rfl | exact opv_loadA rfl rfl rfl | exact opv_loadE1 rfl (by assumption) rfl (by omega) rfl rfl | exact opv_loadEA rfl (by assumption) rfl (by omega) rfl rfl | exact opv_loadRX1 rfl rfl (by omega) rfl rfl | exact opv_loadRXA rfl rfl (by omega) rfl rfl rfl | exact opv_loadIX rfl rfl (by omega) | exact opv_loadR1 rfl rfl rfl | exact opv_loadRA rfl rfl rfl rfl) ?_
  refine th_one (by kernel_rfl) (step_m rfl rfl (opg_call (xs := [_]) rfl (cells_in (c := R1.g l i))) ?_)
  rintro _ _ _ ⟨rfl, rfl, rfl⟩
  refine ⟨Suf.h, (by first | exact fun _ h => h | assumption | exact fun _ h => (by assumption : _ ⊆ _) ((by assumption : _ ⊆ _) h)), ?_⟩
  refine th_take rfl rfl (by kernel_rfl)  (by first | exact opv_notD rfl | exact opv_not rfl) ?_
  refine th_take rfl rfl (by kernel_rfl)  (opv_move rfl) ?_
  refine th_split rfl rfl rfl (fun h1 => ?_) (fun h1 => ?_)
  ·refine th_skip rfl rfl rfl rfl rfl (by kernel_rfl)  ?_
   refine th_skip rfl rfl rfl rfl rfl (by kernel_rfl)  ?_
   refine th_skip rfl rfl rfl rfl rfl (by kernel_rfl)  ?_
   refine th_skip_u rfl rfl rfl rfl (by kernel_rfl)  ?_
   refine th_skip_u rfl rfl rfl rfl (by kernel_rfl)  ?_
   refine th_skip_u rfl rfl rfl rfl (by kernel_rfl)  ?_
   refine th_skip_u rfl rfl rfl rfl (by kernel_rfl)  ?_
   refine th_skip_u rfl rfl rfl rfl (by kernel_rfl)  ?_
   refine th_skip_u rfl rfl rfl rfl (by kernel_rfl)  ?_
   refine th_one (by kernel_rfl) (step_skip_u rfl rfl rfl rfl ?_)
   refine th_skip_u rfl rfl rfl rfl (by kernel_rfl)  ?_
   refine th_skip rfl rfl rfl rfl rfl (by kernel_rfl)  ?_
   refine th_take rfl rfl (by kernel_rfl)  (by first | exact opv_pick_t rfl rfl | exact opv_pick_f rfl rfl | exact opv_pick_bool rfl rfl rfl | exact opv_pick rfl rfl rfl) ?_
   refine th_done (by kernel_rfl) ?_
   refine tT ?_
   refine tri_cond_true rfl ?_
   refine tS (tR (tA rfl rfl (tN (tT (tri_ret ?_)))))
   refine tri_inBlock_ret ?_
   refine tri_then_ret (tri_then_ret ?_)
   refine tri_inBlock_ret ?_
   refine tri_then_ret ?_
   refine tri_end A Suf.h rfl (.cons (rv_tmp rfl) .nil) ⟨congrArg Value.bool ?_, rfl, hJ⟩
   exact (decide_eq_false (bad fun h2 => h1 h2.1)).symm
  ·have h1 := Decidable.not_not.1 h1
   refine th_take_g rfl rfl rfl rfl rfl (by kernel_rfl)  (opv_move rfl) ?_
   refine th_take_g rfl rfl rfl rfl rfl (by kernel_rfl)  (opv_gtr rfl rfl) ?_
   refine th_take_g rfl rfl rfl rfl rfl (by kernel_rfl)  (opv_move rfl) ?_
   refine th_split rfl rfl rfl (fun h2 => ?_) (fun h2 => ?_)
   ·have h2 : 0 < i := by omega
    refine th_take_g rfl rfl rfl rfl rfl (by kernel_rfl)  (opv_move rfl) ?_
    refine th_take_g rfl rfl rfl rfl rfl (by kernel_rfl)  (opv_move rfl) ?_
    refine th_take_g rfl rfl rfl rfl rfl (by kernel_rfl)  (by first | exact opv_sub rfl rfl (w64 (by omega) (by omega)) | exact opv_sub rfl rfl rfl) ?_
    refine th_take_g rfl rfl rfl rfl rfl (by kernel_rfl)  (by first | exact opv_indexAddrA rfl rfl (by first | decide | omega) (by first | decide | omega) | exact opv_indexAddrSN rfl rfl (by omega) (by assumption) rfl | exact opv_indexAddrS rfl rfl (by omega) (by omega) (by assumption) rfl | exact opv_indexAddrE rfl (by assumption) (by omega) rfl (by first | decide | omega) (by first | decide | omega) | exact opv_indexAddrRN rfl rfl (by omega) | exact opv_indexAddrR rfl rfl (by omega) (by omega) | exact opv_indexAddrRA rfl (by omega) rfl (by first | decide | omega) (by first | decide | omega) | exact opv_indexAddrSP rfl rfl (by omega) (by omega) | exact opv_indexAddrSN rfl rfl (by omega) (by assumption) (by omega) | exact opv_indexAddrS rfl rfl (by omega) (by omega) (by assumption) (by omega)) ?_
    refine th_take_g rfl rfl rfl rfl rfl (by kernel_rfl)  (by first | exact opv_load1 rfl rfl rfl | exact opv_loadA rfl rfl rfl | exact opv_loadE1 rfl (by assumption) rfl (by omega) rfl rfl | exact opv_loadEA rfl (by assumption) rfl (by omega) rfl rfl | exact opv_loadRX1 rfl rfl (by omega) rfl rfl | exact opv_loadRXA rfl rfl (by omega) rfl rfl rfl | exact opv_loadIX rfl rfl (by omega) | exact opv_loadR1 rfl rfl rfl | exact opv_loadRA rfl rfl rfl rfl) ?_
    refine th_take_g rfl rfl rfl rfl rfl (by kernel_rfl)  (by first | exact opv_load1 rfl rfl rfl | exact opv_loadA rfl rfl rfl | exact opv_loadE1 rfl (by assumption) rfl (by omega) rfl rfl | exact opv_loadEA rfl (by assumption) rfl (by omega) rfl rfl | exact opv_loadRX1 rfl rfl (by omega) rfl rfl | exact opv_loadRXA rfl rfl (by omega) rfl rfl rfl | exact opv_loadIX rfl rfl (by omega) | exact opv_loadR1 rfl rfl rfl | exact opv_loadRA rfl rfl rfl rfl) ?_
    refine th_one (by kernel_rfl) (step_mg rfl rfl rfl rfl rfl (opg_call (xs := [_, _]) rfl (place_order (p := R1.g l ((i:Int)-1).toNat) (q := R1.g l i))) ?_)
    rintro _ _ J2 ⟨rfl, rfl, hJ2⟩
    refine ⟨Suf.h, hJ2, ?_⟩
    rw [show ((i : Int) - 1).toNat = i - 1 by omega]
    refine th_take_g rfl rfl rfl rfl rfl (by kernel_rfl)  (opv_geq rfl rfl) ?_
    refine th_take_g rfl rfl rfl rfl rfl (by kernel_rfl)  (by first | exact opv_pick_t rfl rfl | exact opv_pick_f rfl rfl | exact opv_pick_bool rfl rfl rfl | exact opv_pick rfl rfl rfl) ?_
    refine th_take rfl rfl (by kernel_rfl)  (by first | exact opv_pick_t rfl rfl | exact opv_pick_f rfl rfl | exact opv_pick_bool rfl rfl rfl | exact opv_pick rfl rfl rfl) ?_
    refine th_done (by kernel_rfl) ?_
    refine tT ?_
    refine tri_cond_dec rfl (fun h3 => ?_) (fun h3 => ?_)
    ·have h3 : ¬ R1.less (R1.g l (i - 1)) (R1.g l i) := R1.cmpC_ge.1 h3
     refine tS (tR (tA rfl rfl (tN (tT (tri_ret ?_)))))
     refine tri_inBlock_ret ?_
     refine tri_then_ret (tri_then_ret ?_)
     refine tri_inBlock_ret ?_
     refine tri_then_ret ?_
     refine tri_end A Suf.h rfl (.cons (rv_tmp rfl) .nil) ⟨congrArg Value.bool ?_, rfl, fun _ h => hJ2 (hJ h)⟩
     exact (decide_eq_false (bad fun h4 => h3 (h4.2 h2))).symm
    ·have h3 : R1.less (R1.g l (i - 1)) (R1.g l i) := Decidable.byContradiction fun e => h3 (R1.cmpC_ge.2 e)
     refine tri_skip ?_
     refine tri_inBlock ?_
     refine tT (tR ?_)
     refine tri_v (by first | exact opv_add rfl rfl (w64 (by omega) (by omega))) rfl ?_
     refine tM rfl rfl (tN (tT ?_))
     refine tri_drop ?_
     refine tri_sub ?_ (hK (i + 1, J2) ⟨by simp only; omega, fun j hj => ?_, fun _ h => hJ2 (hJ h)⟩ (by simp only; omega))
     ·exact ⟨rfl, rfl, rfl, rfl, trivial⟩
     ·by_cases e : j = i
      ·subst e
       exact ⟨h1, fun _ => h3⟩
      ·exact hok j (by simp only at hj; omega)
   ·refine th_skip rfl rfl rfl rfl rfl (by kernel_rfl)  ?_
    refine th_skip rfl rfl rfl rfl rfl (by kernel_rfl)  ?_
    refine th_skip rfl rfl rfl rfl rfl (by kernel_rfl)  ?_
    refine th_skip rfl rfl rfl rfl rfl (by kernel_rfl)  ?_
    refine th_skip rfl rfl rfl rfl rfl (by kernel_rfl)  ?_
    refine th_skip rfl rfl rfl rfl rfl (by kernel_rfl)  ?_
    refine th_one (by kernel_rfl) (step_skip rfl rfl rfl rfl rfl ?_)
    refine th_skip rfl rfl rfl rfl rfl (by kernel_rfl)  ?_
    refine th_take_g rfl rfl rfl rfl rfl (by kernel_rfl)  (by first | exact opv_pick_t rfl rfl | exact opv_pick_f rfl rfl | exact opv_pick_bool rfl rfl rfl | exact opv_pick rfl rfl rfl) ?_
    refine th_take rfl rfl (by kernel_rfl)  (by first | exact opv_pick_t rfl rfl | exact opv_pick_f rfl rfl | exact opv_pick_bool rfl rfl rfl | exact opv_pick rfl rfl rfl) ?_
    refine th_done (by kernel_rfl) ?_
    refine tT ?_
    refine tri_cond_false rfl ?_
    refine tri_skip ?_
    refine tri_inBlock ?_
    refine tT (tR ?_)
    refine tri_v (by first | exact opv_add rfl rfl (w64 (by omega) (by omega))) rfl ?_
    refine tM rfl rfl (tN (tT ?_))
    refine tri_drop ?_
    refine tri_sub ?_ (hK (i + 1, J) ⟨by simp only; omega, fun j hj => ?_, hJ⟩ (by simp only; omega))
    ·exact ⟨rfl, rfl, rfl, rfl, trivial⟩
    ·by_cases e : j = i
     ·subst e
      exact ⟨h1, fun h => absurd h (by omega)⟩
     ·exact hok j (by simp only at hj; omega)
 ·refine tri_exit ?_
  refine tri_then_exit ?_
  refine tri_then_exit ?_
  refine tri_inBlock_hit rfl ?_
  refine tT (tS (tR (tM rfl rfl ?_)))
  refine tri_v (opv_len rfl) rfl ?_
  refine tri_v (opv_leq rfl rfl) rfl ?_
  refine tA rfl rfl (tN (tT (tri_ret ?_)))
  refine tri_end A Suf.h rfl (.cons (rv_tmp rfl) .nil) ⟨congrArg Value.bool (decide_eq_decide.2 ?_), rfl, hJ⟩
  unfold R1.right
  constructor
  ·intro h2; exact ⟨fun j hj => hok j (by omega), by omega⟩
  ·rintro ⟨_, h2⟩; omega
end Go.GL


set_option linter.unusedVariables false
namespace Go.GL
open Go.Proofs
attribute [local irreducible] wpList Code.wp Exit.then Exit.inBlock Ends Tri TriH OpV OpG FnC epf wpAnyH
variable {A : List Asrt} {I : List Chunk}
set_option maxRecDepth 100000 in
theorem life_lives {alive : Bool} {k : Int} : FnC Try.prog 19 [.bool alive, .int .i64 k].toArray A I (fun v A' I' => v = .bool (R2.lives alive k) ∧ A = A' ∧ I = I') := by
 skip
 skip
 refine fn_enter2 Try.func19 rfl Try.ntmps19 rfl fun w0 => ?_
 refine tS (tR (tA rfl rfl (tN (tT (tS (tS (tR ?_)))))))
 refine tM rfl rfl (tN (tT (tri_block (tS (tR ?_)))))
 refine tri_v (by first | exact opv_eql rfl rfl | exact opv_eqlI rfl rfl rfl rfl rfl rfl | exact opv_eqlB rfl rfl | exact opv_eqlNil rfl rfl) rfl ?_
 refine tA rfl rfl (tN (tT ?_))
 refine tri_cond_dec rfl (fun h1 => ?_) (fun h1 => ?_)
 ·have h1 : k = 2 := h1
  refine tS (tR (tM rfl rfl (tA rfl rfl (tN (tT (tri_ret ?_))))))
  refine tri_inBlock_ret ?_
  refine tri_then_ret ?_
  refine tri_end A Suf.h rfl (.cons (rv_tmp rfl) .nil) ⟨?_, rfl, rfl⟩
  subst h1
  simp [R2.lives]
  rfl
 ·have h1 : k ≠ 2 := h1
  refine tS (tR ?_)
  refine tri_v (by first | exact opv_eql rfl rfl | exact opv_eqlI rfl rfl rfl rfl rfl rfl | exact opv_eqlB rfl rfl | exact opv_eqlNil rfl rfl) rfl ?_
  refine tA rfl rfl (tN (tT ?_))
  refine tri_cond_dec rfl (fun h2 => ?_) (fun h2 => ?_)
  ·have h2 : k = 3 := h2
   refine tS (tR (tA rfl rfl (tN (tT (tri_ret ?_)))))
   refine tri_inBlock_ret ?_
   refine tri_then_ret ?_
   refine tri_end A Suf.h rfl (.cons (rv_tmp rfl) .nil) ⟨?_, rfl, rfl⟩
   subst h2
   simp [R2.lives]
   rfl
  ·have h2 : k ≠ 3 := h2
   refine tri_skip ?_
   refine tri_inBlock ?_
   refine tT (tS (tR (tA rfl rfl (tN (tT (tri_ret ?_))))))
   refine tri_end A Suf.h rfl (.cons (rv_tmp rfl) .nil) ⟨?_, rfl, rfl⟩
   simp [R2.lives, h1, h2]
   rfl
theorem keyC (x y : Int) : Value.agg [.int .i64 x, .int .i64 y].toArray = mkv Try.prog 40 [x, y] := by kernel_rfl
theorem keyCAt : intAt Try.prog 9 40 = some 2 := by kernel_rfl
theorem zeroIntC (w : World) : (zeroValue 3).run Try.prog w = .ok (.int .i64 0) w := by kernel_rfl
end Go.GL


set_option linter.unusedVariables false
namespace Go.GL
open Go.Proofs
attribute [local irreducible] wpList Code.wp Exit.then Exit.inBlock Ends Tri TriH OpV OpG FnC epf wpAnyH
variable {A : List Asrt} {I : List Chunk}
theorem R2.nb_key {c : Cell} {X Y : Nat} (hX : X < 3) : [c.x + ((X : Int) - 1), c.y + ((Y : Int) - 1)] = R2.keyOf (R2.nb c (3 * Y + X)) := by
 unfold R2.keyOf R2.nb
 simp only [List.cons.injEq, and_true]
 omega
theorem R2.get_ks {nm : NM} {c : Cell} {ks : List Int} {g : Int} (h : ks = R2.keyOf c) (hg : R2.get nm c = g) : (mfind (R2.kvs nm) ks).getD (.int .i64 0) = .int .i64 g := by
 rw [h, R2.get_find, hg]
theorem R2.get_ksE {nm : NM} {c : Cell} {ks : List Int} {g : Int} (h : ks = R2.keyOf c) (hg : R2.get nm c = g) : (mfind (mset (R2.kvs nm) ks ((mfind (R2.kvs nm) ks).getD (.int .i64 0))) ks).getD (.int .i64 0) = .int .i64 g := by
 rw [mfind_msetE, Option.getD_some, R2.get_ks h hg]
theorem R2.set_ks {nm : NM} {c : Cell} {ks : List Int} {g d : Int} (h : ks = R2.keyOf c) (hg : R2.get nm c = g) : mset (mset (R2.kvs nm) ks ((mfind (R2.kvs nm) ks).getD (.int .i64 0))) ks (.int .i64 (g + d)) = R2.kvs (R2.bump nm c d) := by
 rw [mset_again, h, ← hg, R2.mset_bump]
set_option maxHeartbeats 2000000 in
set_option maxRecDepth 100000 in
theorem life_counts {l : List Cell} {a : Option Addr} {cap : Nat} (hs : SlAt I a l) (hn : l.length ≤ 1000000) (hb : ∀ d ∈ l, R2.bd d) :
  FnC Try.prog 29 [.slice a l.length cap].toArray A I (fun v A' I' => ∃ mb, v = .map (some mb) ∧ A' = MapA Try.prog 40 mb (R2.kvs (R2.counts l)) :: A ∧ I = I') := by
 skip
 skip
 refine fn_enter1 Try.func29 rfl Try.ntmps29 rfl fun w0 => ?_
 refine tS (tR (tA rfl rfl (tN (tT (tS (tR ?_))))))
 refine tri_g opg_makeMap rfl ?_
 rintro _ _ _ ⟨b8, rfl, rfl, rfl⟩
 refine tA rfl rfl (tN (tT (tS (tS (tR (tM rfl rfl ?_))))))
 refine tri_v (opv_len rfl) rfl ?_
 refine tM rfl rfl (tN (tT (tri_block ?_)))
 refine tri_sub (F' := [(3, .map (some b8)), (9, .slice a l.length cap), (10, .int .i64 (l.length : Nat)), (11, .int .i64 (0 : Nat))]) ⟨rfl, rfl, rfl, rfl, trivial⟩ ?_
 refine loop_ind (G := Nat) (fun i => l.length - i) (fun i => i ≤ l.length) (fun i => [(3, .map (some b8)), (9, .slice a l.length cap), (10, .int .i64 (l.length : Nat)), (11, .int .i64 (i : Nat))]) (fun i => MapA Try.prog 40 b8 (R2.kvs (R2.counts (l.take i))) :: A) (fun _ => I) ?_ 0 (by omega)
 rintro i hi K hK
 skip
 refine tS (tR ?_)
 refine tri_v (opv_lss rfl rfl) rfl ?_
 refine tN (tT (tS ?_))
 refine tri_cond_dec rfl (fun h => ?_) (fun h => ?_)
 ·have hlt : i < l.length := by omega
  have hbi : R2.bd (l.getD i default) := hb _ (by simp [hlt])
  have hx := hbi.1
  have hx2 := hbi.2.1
  have hy := hbi.2.2.1
  have hy2 := hbi.2.2.2
  have hct := R2.counts_take l hlt
  have hle : ∀ e, 0 ≤ R2.get (R2.counts (l.take i)) e ∧ R2.get (R2.counts (l.take i)) e ≤ 11 * l.length := fun e => by
   have := R2.get_le (l.take i) [] 0 e (fun e => by simp [R2.get])
   rw [List.length_take] at this
   unfold R2.counts
   omega
  refine tri_skip (tT (tS (tri_block (tS (tR ?_)))))
  refine tri_v (by first | exact opv_indexAddrA rfl rfl (by first | decide | omega) (by first | decide | omega) | exact opv_indexAddrSN rfl rfl (by omega) (by assumption) rfl | exact opv_indexAddrS rfl rfl (by omega) (by omega) (by assumption) rfl | exact opv_indexAddrE rfl (by assumption) (by omega) rfl (by first | decide | omega) (by first | decide | omega) | exact opv_indexAddrRN rfl rfl (by omega) | exact opv_indexAddrR rfl rfl (by omega) (by omega) | exact opv_indexAddrRA rfl (by omega) rfl (by first | decide | omega) (by first | decide | omega) | exact opv_indexAddrSP rfl rfl (by omega) (by omega) | exact opv_indexAddrSN rfl rfl (by omega) (by assumption) (by omega) | exact opv_indexAddrS rfl rfl (by omega) (by omega) (by assumption) (by omega)) rfl ?_
  refine tri_v (by first | exact opv_load1 rfl rfl rfl | exact opv_loadA rfl rfl rfl | exact opv_loadE1 rfl (by assumption) rfl (by omega) rfl rfl | exact opv_loadEA rfl (by assumption) rfl (by omega) rfl rfl | exact opv_loadRX1 rfl rfl (by omega) rfl rfl | exact opv_loadRXA rfl rfl (by omega) rfl rfl rfl | exact opv_loadIX rfl rfl (by omega) | exact opv_loadR1 rfl rfl rfl | exact opv_loadRA rfl rfl rfl rfl) rfl ?_
  refine tri_g opg_alloc rfl ?_
  rintro _ _ _ ⟨b5, rfl, rfl, rfl⟩
  refine tri_g (opg_store rfl rfl rfl rfl rfl rfl) rfl ?_
  rintro _ _ _ ⟨rfl, rfl⟩
  refine tN (tT (tS (tS (tR (tA rfl rfl (tN (tT ?_)))))))
  refine tri_block ?_
  generalize l.getD i default = c at *
  generalize R2.counts (l.take i) = nm at *
  refine tri_perm (A := ?a1_0 :: ?a1_1 :: ?T1) (B := ?a1_1 :: ?a1_0 :: ?T1) (by exact permL [1, 0] [?a1_0, ?a1_1] ?T1 (by decide) rfl) ?_
  refine tri_sub (F' := [(3, .map (some b8)), (5, pt b5 0), (6, .int .i64 (((0 : Nat) : Int) - 1)), (9, .slice a l.length cap), (10, .int .i64 (l.length : Nat)), (11, .int .i64 (i : Nat))]) ⟨rfl, rfl, rfl, rfl, rfl, rfl, trivial⟩ ?_
  refine loop_ind (G := Nat) (fun Y => 3 - Y) (fun Y => Y ≤ 3) (fun Y => [(3, .map (some b8)), (5, pt b5 0), (6, .int .i64 ((Y : Int) - 1)), (9, .slice a l.length cap), (10, .int .i64 (l.length : Nat)), (11, .int .i64 (i : Nat))]) (fun Y => MapA Try.prog 40 b8 (R2.kvs (R2.nines c (3 * Y) nm)) :: Box b5 [.int .i64 c.x, .int .i64 c.y] 40 :: A) (fun _ => I) ?_ 0 (by omega)
  rintro Y hY K2 hK2
  skip
  refine tS (tS (tR (tM rfl rfl ?_)))
  refine tri_v (opv_leq rfl rfl) rfl ?_
  refine tN (tT ?_)
  refine tri_cond_dec rfl (fun hy3 => ?_) (fun hy3 => ?_)
  ·refine tri_skip (tT (tS (tri_block (tS (tR (tA rfl rfl (tN ?_)))))))
   refine tT (tri_block ?_)
   refine tri_sub (F' := [(3, .map (some b8)), (5, pt b5 0), (6, .int .i64 ((Y : Int) - 1)), (7, .int .i64 (((0 : Nat) : Int) - 1)), (9, .slice a l.length cap), (10, .int .i64 (l.length : Nat)), (11, .int .i64 (i : Nat))]) ⟨rfl, rfl, rfl, rfl, rfl, rfl, rfl, trivial⟩ ?_
   refine loop_ind (G := Nat) (fun X => 3 - X) (fun X => X ≤ 3) (fun X => [(3, .map (some b8)), (5, pt b5 0), (6, .int .i64 ((Y : Int) - 1)), (7, .int .i64 ((X : Int) - 1)), (9, .slice a l.length cap), (10, .int .i64 (l.length : Nat)), (11, .int .i64 (i : Nat))]) (fun X => MapA Try.prog 40 b8 (R2.kvs (R2.nines c (3 * Y + X) nm)) :: Box b5 [.int .i64 c.x, .int .i64 c.y] 40 :: A) (fun _ => I) ?_ 0 (by omega)
   rintro X hX K3 hK3
   skip
   refine tS (tS (tR (tM rfl rfl ?_)))
   refine tri_v (opv_leq rfl rfl) rfl ?_
   refine tN (tT ?_)
   refine tri_cond_dec rfl (fun hx3 => ?_) (fun hx3 => ?_)
   ·have hX3 : X < 3 := by omega
    have hY3 : Y < 3 := by omega
    have hkey := R2.nb_key (c := c) (Y := Y) hX3
    have hg := R2.nines_le (c := c) hle (3 * Y + X) (by omega) (R2.nb c (3 * Y + X))
    obtain ⟨g, eg⟩ : ∃ g, R2.get (R2.nines c (3 * Y + X) nm) (R2.nb c (3 * Y + X)) = g := ⟨_, rfl⟩
    rw [eg] at hg
    refine tri_skip (tT (tS (tri_block ?_)))
    skip
    refine tri_cut (fun F' A' J => F' = [(3, .map (some b8)), (5, pt b5 0), (6, .int .i64 ((Y : Int) - 1)), (7, .int .i64 ((X : Int) - 1)), (9, .slice a l.length cap), (10, .int .i64 (l.length : Nat)), (11, .int .i64 (i : Nat))] ∧ A' = MapA Try.prog 40 b8 (R2.kvs (R2.nines c (3 * Y + X + 1) nm)) :: Box b5 [.int .i64 c.x, .int .i64 c.y] 40 :: A ∧ J = I) ?_ ?_
    ·refine tri_draw [0, 1, 2, 3, 4, 5, 6, 7, 8, 9, 10, 11, 12, 13, 14] rfl [_] rfl mixed ?_
     refine th_take rfl rfl (by kernel_rfl)  (opv_move rfl) ?_
     refine th_take rfl rfl (by kernel_rfl)  (by first | exact opv_fieldAddr rfl rfl | exact opv_fieldAddrE rfl (by assumption) (by omega) rfl | exact opv_fieldAddrR rfl (by omega) rfl | exact opv_fieldAddrP rfl rfl rfl) ?_
     refine th_take rfl rfl (by kernel_rfl)  (by first | exact opv_load1 rfl rfl rfl | exact opv_loadA rfl rfl rfl | exact opv_loadE1 rfl (by assumption) rfl (by omega) rfl rfl | exact opv_loadEA rfl (by assumption) rfl (by omega) rfl rfl | exact opv_loadRX1 rfl rfl (by omega) rfl rfl | exact opv_loadRXA rfl rfl (by omega) rfl rfl rfl | exact opv_loadIX rfl rfl (by omega) | exact opv_loadR1 rfl rfl rfl | exact opv_loadRA rfl rfl rfl rfl) ?_
     refine th_take rfl rfl (by kernel_rfl)  (opv_move rfl) ?_
     refine th_take rfl rfl (by kernel_rfl)  (by first | exact opv_add rfl rfl (w64 (by omega) (by omega))) ?_
     refine th_take rfl rfl (by kernel_rfl)  (by first | exact opv_fieldAddr rfl rfl | exact opv_fieldAddrE rfl (by assumption) (by omega) rfl | exact opv_fieldAddrR rfl (by omega) rfl | exact opv_fieldAddrP rfl rfl rfl) ?_
     refine th_take rfl rfl (by kernel_rfl)  (by first | exact opv_load1 rfl rfl rfl | exact opv_loadA rfl rfl rfl | exact opv_loadE1 rfl (by assumption) rfl (by omega) rfl rfl | exact opv_loadEA rfl (by assumption) rfl (by omega) rfl rfl | exact opv_loadRX1 rfl rfl (by omega) rfl rfl | exact opv_loadRXA rfl rfl (by omega) rfl rfl rfl | exact opv_loadIX rfl rfl (by omega) | exact opv_loadR1 rfl rfl rfl | exact opv_loadRA rfl rfl rfl rfl) ?_
     refine th_take rfl rfl (by kernel_rfl)  (opv_move rfl) ?_
     refine th_take rfl rfl (by kernel_rfl)  (by first | exact opv_add rfl rfl (w64 (by omega) (by omega))) ?_
     refine th_take rfl rfl (by kernel_rfl)  (by first | exact opv_buildS rfl rfl | exact opv_buildA rfl rfl) ?_
     refine th_two (j := 12) [13, 10, 11, 14] (by kernel_rfl) rfl ?_ ?_
     ·refine (step_m rfl rfl ((by first | exact (opv_lookup1R (P := Try.prog) (ks := [c.x + ((X : Int) - 1), c.y + ((Y : Int) - 1)]) zeroIntC rfl rfl (keyC _ _) keyCAt rfl (R2.get_ks hkey eg)).toG | exact (opv_lookup1E (P := Try.prog) (ks := [c.x + ((X : Int) - 1), c.y + ((Y : Int) - 1)]) zeroIntC rfl rfl (keyC _ _) keyCAt rfl (R2.get_ksE hkey eg)).toG)) ?_)
      rintro _ _ _ ⟨rfl, rfl, rfl⟩
      refine ⟨Suf.h, (by first | exact fun _ h => h | assumption | exact fun _ h => (by assumption : _ ⊆ _) ((by assumption : _ ⊆ _) h)), ?_⟩
      refine th_take rfl rfl (by kernel_rfl)  (by first | exact opv_add rfl rfl (w64 (by omega) (by omega))) ?_
      refine th_one (by kernel_rfl) (step_m rfl rfl ((opg_mapEntry (P := Try.prog) (ks := [c.x + ((X : Int) - 1), c.y + ((Y : Int) - 1)]) zeroIntC rfl rfl (keyC _ _) keyCAt rfl)) ?_)
      rintro _ _ _ ⟨hh, rfl, rfl, rfl⟩
      refine ⟨Suf.h, (by first | exact fun _ h => h | assumption | exact fun _ h => (by assumption : _ ⊆ _) ((by assumption : _ ⊆ _) h)), ?_⟩
      refine th_take rfl rfl (by kernel_rfl)  (opv_extract rfl rfl) ?_
      refine th_one (by kernel_rfl) (step_m rfl rfl ((opg_entryStore rfl rfl rfl)) ?_)
      rintro _ _ _ ⟨rfl, rfl⟩
      refine ⟨Suf.h, (by first | exact fun _ h => h | assumption | exact fun _ h => (by assumption : _ ⊆ _) ((by assumption : _ ⊆ _) h)), ?_⟩
      refine th_done (by kernel_rfl) ?_
      rw [R2.set_ks hkey eg]
      exact tri_cutEnd _ ⟨rfl, rfl, rfl⟩ ⟨rfl, rfl, rfl, rfl, rfl, rfl, rfl, trivial⟩
     ·refine (step_m rfl rfl ((opg_mapEntry (P := Try.prog) (ks := [c.x + ((X : Int) - 1), c.y + ((Y : Int) - 1)]) zeroIntC rfl rfl (keyC _ _) keyCAt rfl)) ?_)
      rintro _ _ _ ⟨hh, rfl, rfl, rfl⟩
      refine ⟨Suf.h, (by first | exact fun _ h => h | assumption | exact fun _ h => (by assumption : _ ⊆ _) ((by assumption : _ ⊆ _) h)), ?_⟩
      refine th_take rfl rfl (by kernel_rfl)  (opv_extract rfl rfl) ?_
      refine th_one (by kernel_rfl) (step_m rfl rfl ((by first | exact (opv_lookup1R (P := Try.prog) (ks := [c.x + ((X : Int) - 1), c.y + ((Y : Int) - 1)]) zeroIntC rfl rfl (keyC _ _) keyCAt rfl (R2.get_ks hkey eg)).toG | exact (opv_lookup1E (P := Try.prog) (ks := [c.x + ((X : Int) - 1), c.y + ((Y : Int) - 1)]) zeroIntC rfl rfl (keyC _ _) keyCAt rfl (R2.get_ksE hkey eg)).toG)) ?_)
      rintro _ _ _ ⟨rfl, rfl, rfl⟩
      refine ⟨Suf.h, (by first | exact fun _ h => h | assumption | exact fun _ h => (by assumption : _ ⊆ _) ((by assumption : _ ⊆ _) h)), ?_⟩
      refine th_take rfl rfl (by kernel_rfl)  (by first | exact opv_add rfl rfl (w64 (by omega) (by omega))) ?_
      refine th_one (by kernel_rfl) (step_m rfl rfl ((opg_entryStore rfl rfl rfl)) ?_)
      rintro _ _ _ ⟨rfl, rfl⟩
      refine ⟨Suf.h, (by first | exact fun _ h => h | assumption | exact fun _ h => (by assumption : _ ⊆ _) ((by assumption : _ ⊆ _) h)), ?_⟩
      refine th_done (by kernel_rfl) ?_
      rw [R2.set_ks hkey eg]
      exact tri_cutEnd _ ⟨rfl, rfl, rfl⟩ ⟨rfl, rfl, rfl, rfl, rfl, rfl, rfl, trivial⟩
    rintro _ _ _ ⟨rfl, rfl, rfl⟩
    refine tri_inBlock ?_
    refine tT (tR (tM rfl rfl ?_))
    refine tri_v (by first | exact opv_add rfl rfl (w64 (by omega) (by omega))) rfl ?_
    refine tA rfl rfl (tN (tT ?_))
    refine tri_sub ?_ (hK3 (X + 1) (by omega) (by omega))
    exact ⟨rfl, rfl, rfl, by rw [show (((X + 1 : Nat) : Int) - 1) = (X : Int) - 1 + 1 by omega]; rfl, rfl, rfl, rfl, trivial⟩
   ·refine tri_exit ?_
    refine tri_then_exit ?_
    refine tri_then_exit ?_
    refine tri_inBlock_hit rfl ?_
    refine tri_inBlock ?_
    refine tT (tR (tM rfl rfl ?_))
    refine tri_v (by first | exact opv_add rfl rfl (w64 (by omega) (by omega))) rfl ?_
    refine tA rfl rfl (tN (tT ?_))
    have eX : X = 3 := by omega
    subst eX
    refine tri_sub ?_ (hK2 (Y + 1) (by omega) (by omega))
    exact ⟨rfl, rfl, by rw [show (((Y + 1 : Nat) : Int) - 1) = (Y : Int) - 1 + 1 by omega]; rfl, rfl, rfl, rfl, trivial⟩
  ·have eY : Y = 3 := by omega
   subst eY
   have hkey : [c.x, c.y] = R2.keyOf c := rfl
   have hg := R2.nines_le (c := c) hle 9 (by omega) c
   obtain ⟨g, eg⟩ : ∃ g, R2.get (R2.nines c 9 nm) c = g := ⟨_, rfl⟩
   rw [eg] at hg
   refine tri_exit ?_
   refine tri_then_exit ?_
   refine tri_then_exit ?_
   refine tri_inBlock_hit rfl ?_
   refine tT ?_
   skip
   refine tri_cut (fun F' A' J => F' = [(3, .map (some b8)), (9, .slice a l.length cap), (10, .int .i64 (l.length : Nat)), (11, .int .i64 (i : Nat))] ∧ A' = MapA Try.prog 40 b8 (R2.kvs (R2.one c nm)) :: Box b5 [.int .i64 c.x, .int .i64 c.y] 40 :: A ∧ J = I) ?_ ?_
   ·refine tri_draw [0, 1, 2, 3, 4, 5, 6] rfl [_] rfl mixed ?_
    refine th_take rfl rfl (by kernel_rfl)  (opv_move rfl) ?_
    refine th_take rfl rfl (by kernel_rfl)  (by first | exact opv_load1 rfl rfl rfl | exact opv_loadA rfl rfl rfl | exact opv_loadE1 rfl (by assumption) rfl (by omega) rfl rfl | exact opv_loadEA rfl (by assumption) rfl (by omega) rfl rfl | exact opv_loadRX1 rfl rfl (by omega) rfl rfl | exact opv_loadRXA rfl rfl (by omega) rfl rfl rfl | exact opv_loadIX rfl rfl (by omega) | exact opv_loadR1 rfl rfl rfl | exact opv_loadRA rfl rfl rfl rfl) ?_
    refine th_two (j := 4) [5, 2, 3, 6] (by kernel_rfl) rfl ?_ ?_
    ·refine (step_m rfl rfl ((by first | exact (opv_lookup1R (P := Try.prog) (ks := [c.x, c.y]) zeroIntC rfl rfl (keyC _ _) keyCAt rfl (R2.get_ks hkey eg)).toG | exact (opv_lookup1E (P := Try.prog) (ks := [c.x, c.y]) zeroIntC rfl rfl (keyC _ _) keyCAt rfl (R2.get_ksE hkey eg)).toG)) ?_)
     rintro _ _ _ ⟨rfl, rfl, rfl⟩
     refine ⟨Suf.h, (by first | exact fun _ h => h | assumption | exact fun _ h => (by assumption : _ ⊆ _) ((by assumption : _ ⊆ _) h)), ?_⟩
     refine th_take rfl rfl (by kernel_rfl)  (by first | exact opv_add rfl rfl (w64 (by omega) (by omega))) ?_
     refine th_one (by kernel_rfl) (step_m rfl rfl ((opg_mapEntry (P := Try.prog) (ks := [c.x, c.y]) zeroIntC rfl rfl (keyC _ _) keyCAt rfl)) ?_)
     rintro _ _ _ ⟨hh, rfl, rfl, rfl⟩
     refine ⟨Suf.h, (by first | exact fun _ h => h | assumption | exact fun _ h => (by assumption : _ ⊆ _) ((by assumption : _ ⊆ _) h)), ?_⟩
     refine th_take rfl rfl (by kernel_rfl)  (opv_extract rfl rfl) ?_
     refine th_one (by kernel_rfl) (step_m rfl rfl ((opg_entryStore rfl rfl rfl)) ?_)
     rintro _ _ _ ⟨rfl, rfl⟩
     refine ⟨Suf.h, (by first | exact fun _ h => h | assumption | exact fun _ h => (by assumption : _ ⊆ _) ((by assumption : _ ⊆ _) h)), ?_⟩
     refine th_done (by kernel_rfl) ?_
     rw [R2.set_ks hkey eg]
     exact tri_cutEnd _ ⟨rfl, rfl, rfl⟩ ⟨rfl, rfl, rfl, rfl, trivial⟩
    ·refine (step_m rfl rfl ((opg_mapEntry (P := Try.prog) (ks := [c.x, c.y]) zeroIntC rfl rfl (keyC _ _) keyCAt rfl)) ?_)
     rintro _ _ _ ⟨hh, rfl, rfl, rfl⟩
     refine ⟨Suf.h, (by first | exact fun _ h => h | assumption | exact fun _ h => (by assumption : _ ⊆ _) ((by assumption : _ ⊆ _) h)), ?_⟩
     refine th_take rfl rfl (by kernel_rfl)  (opv_extract rfl rfl) ?_
     refine th_one (by kernel_rfl) (step_m rfl rfl ((by first | exact (opv_lookup1R (P := Try.prog) (ks := [c.x, c.y]) zeroIntC rfl rfl (keyC _ _) keyCAt rfl (R2.get_ks hkey eg)).toG | exact (opv_lookup1E (P := Try.prog) (ks := [c.x, c.y]) zeroIntC rfl rfl (keyC _ _) keyCAt rfl (R2.get_ksE hkey eg)).toG)) ?_)
     rintro _ _ _ ⟨rfl, rfl, rfl⟩
     refine ⟨Suf.h, (by first | exact fun _ h => h | assumption | exact fun _ h => (by assumption : _ ⊆ _) ((by assumption : _ ⊆ _) h)), ?_⟩
     refine th_take rfl rfl (by kernel_rfl)  (by first | exact opv_add rfl rfl (w64 (by omega) (by omega))) ?_
     refine th_one (by kernel_rfl) (step_m rfl rfl ((opg_entryStore rfl rfl rfl)) ?_)
     rintro _ _ _ ⟨rfl, rfl⟩
     refine ⟨Suf.h, (by first | exact fun _ h => h | assumption | exact fun _ h => (by assumption : _ ⊆ _) ((by assumption : _ ⊆ _) h)), ?_⟩
     refine th_done (by kernel_rfl) ?_
     rw [R2.set_ks hkey eg]
     exact tri_cutEnd _ ⟨rfl, rfl, rfl⟩ ⟨rfl, rfl, rfl, rfl, trivial⟩
   rintro _ _ _ ⟨rfl, rfl, rfl⟩
   refine tri_inBlock ?_
   refine tT (tR ?_)
   refine tri_v (by first | exact opv_add rfl rfl (w64 (by omega) (by omega))) rfl ?_
   refine tM rfl rfl (tN (tT ?_))
   skip
   refine tri_perm (A := ?a2_0 :: ?a2_1 :: ?T2) (B := ?a2_1 :: ?a2_0 :: ?T2) (by exact permL [1, 0] [?a2_0, ?a2_1] ?T2 (by decide) rfl) ?_
   refine tri_drop ?_
   rw [← hct]
   refine tri_sub ?_ (hK (i + 1) (by omega) (by omega))
   exact ⟨rfl, rfl, rfl, rfl, trivial⟩
 ·refine tri_exit ?_
  refine tri_then_exit ?_
  refine tri_then_exit ?_
  refine tri_inBlock_hit rfl ?_
  refine tT (tS (tR (tM rfl rfl (tA rfl rfl (tN (tT (tri_ret ?_)))))))
  have e : l.take i = l := List.take_of_length_le (by omega)
  rw [e]
  refine tri_end _ (by first | exact ⟨[], rfl⟩ | exact ⟨[_], rfl⟩ | exact ⟨[_, _], rfl⟩ | exact ⟨[_, _, _], rfl⟩ | exact ⟨[_, _, _, _], rfl⟩ | exact ⟨[_, _, _, _, _], rfl⟩ | exact ⟨[_, _, _, _, _, _], rfl⟩ | exact ⟨[_, _, _, _, _, _, _], rfl⟩ | exact ⟨[_, _, _, _, _, _, _, _], rfl⟩) rfl (.cons (rv_tmp rfl) .nil) ⟨_, rfl, rfl, rfl⟩
end Go.GL


set_option linter.unusedVariables false
namespace Go.GL
open Go.Proofs Go.Shelf Go.RowKit Go.Lib Go.Sort
/-! ### The kit's contract of slices.SortFunc, in this logic -/
theorem grow_of_st {W w' : World} {A' : List Asrt} {I' : List Chunk} (h : St W w' A' I') (hI : worldI W ⊆ I') : ∃ q os', w' = grow (W.drewN q) os' := by
 obtain ⟨cs, _, hw⟩ := h
 have hh : w'.heap = W.heap ++ w'.heap.extract W.heap.size w'.heap.size := by
  apply Array.ext_getElem?
  intro k
  rw [Array.getElem?_append]
  by_cases hk : k < W.heap.size
  ·rw [if_pos hk]
   have h1 : W.heap[k]? = some W.heap[k] := Array.getElem?_eq_getElem hk
   rw [h1]
   exact hw.has (k, _) (List.mem_append_right _ (hI (mem_worldI.2 h1)))
  ·rw [if_neg hk, Array.getElem?_extract]
   have := hw.size
   by_cases h2 : k < w'.heap.size
   ·rw [if_pos (by omega), show W.heap.size + (k - W.heap.size) = k by omega]
   ·rw [if_neg (by omega), Array.getElem?_eq_none (by omega)]
 have h1 := hw.os
 have h2 := hw.tape
 have h3 := hw.output
 have h4 := hw.dr
 refine ⟨w'.drawn - W.drawn, w'.heap.extract W.heap.size w'.heap.size, ?_⟩
 obtain ⟨hp, tp, dr, o, out⟩ := w'
 simp only at h1 h2 h3 h4 hh ⊢
 unfold grow World.drewN
 simp only [World.mk.injEq]
 exact ⟨hh, h2, by omega, h1, h3⟩
theorem Wd.grow {w0 w : World} {L : List Chunk} (h : Wd w0 w L) (os : Array Obj) : Wd w0 (Go.Sort.grow w os) L :=
 ⟨h.os, h.tape, h.output, by have := h.size; unfold Go.Sort.grow; rw [Array.size_append]; omega, h.nd, fun c hc => by
  have h1 := h.lt hc
  show (w.heap ++ os)[c.1]? = some c.2
  rw [Array.getElem?_append_left h1]
  exact h.has c hc, h.dr⟩
theorem swo_cells : SWO (ltOf R1.cmpC) := by
 have key : ∀ x y, ltOf R1.cmpC x y = decide (R1.less x y) := fun x y => decide_eq_decide.2 R1.cmpC_lt
 refine ⟨fun x => ?_, fun x y z h1 h2 => ?_, fun x y z h1 h2 => ?_⟩
 ·rw [key]; exact decide_eq_false (R1.less_irrefl x)
 ·rw [key] at *
  exact decide_eq_true (R1.less_trans (of_decide_eq_true h1) (of_decide_eq_true h2))
 ·rw [key] at *
  have a := of_decide_eq_false h1
  have b := of_decide_eq_false h2
  refine decide_eq_false ?_
  unfold R1.less at *
  omega
theorem enters_of {P : Program} {f : FuncId} [h : FnI P f] (args : Array Value) (w : World) : (callFunc f args).run P w = .ok (.enter f args) w := by
 obtain ⟨fn, h1, h2, h3⟩ := h.fn
 simp only [callFunc, Sem.run_bind, run_program, Result.andThen_ok, h1, h2, h3]
 rfl
section
variable {P : Program} {ρ : Ren} {A : List Asrt} {I : List Chunk}
theorem flat_cells (l : List Cell) (j : Nat) (hj : j < l.length * 2) : (flatK (Enc.enc (α := Cell)) 2 l.toArray)[j]! = ((encs l)[j]?).getD default := by
 rw [get_flatK _ _ _ _ (by simpa using hj)]
 have h := encs_get l (j / 2) (j % 2) (by omega) (by show j % 2 < 2; omega)
 rw [show Enc.sz Cell = 2 from rfl, show j / 2 * 2 + j % 2 = j by omega] at h
 rw [h]
 have e1 : l.toArray[j / 2]! = l.getD (j / 2) default := by
  rw [getElem!_def]
  simp [List.getD_eq_getElem?_getD]
  cases l[j / 2]? <;> rfl
 rw [e1, getElem!_def]
 cases (Enc.enc (l.getD (j / 2) default))[j % 2]? <;> rfl
/-- Sorted by 'by(place.order)': the closure's one captured variable is the box b. -/
theorem fnc_sort (L : SlLaysF0.n6 P ρ) (aE : ∀ w, (isAgg (ρ.t 24)).run P w = .ok true w) (zE : ∀ w, (Go.sizeOf (ρ.t 24)).run P w = .ok 2 w) {g b : Nat} {fv : Value} {Tb E : TypeId} {l : List Cell} {a : Option Addr} {cap : Nat} (eg : ∀ args w, (callFunc g args).run P w = .ok (.enter g args) w)
  (hc : ∀ (J : List Chunk), (b, Obj.cells #[fv] Tb (0, 0)) ∈ J → ∀ x y : Cell, FnC P g #[cellV x, cellV y, pt b 0] [] J (fun v A' I' => v = .int .i64 (R1.cmpC x y) ∧ [] = A' ∧ J ⊆ I')) (hn : l.length ≤ 1000000000) :
  FnC P (ρ.f 6) #[.slice a l.length cap, .func (.func g) #[] #[pt b 0]] (Row a cap l.length E 2 (encs l) :: Box b [fv] Tb :: A) I (fun v A' I' => ∃ m, v = .tuple #[] ∧ m.Perm l ∧ m.Pairwise (fun x y => ¬ R1.less y x) ∧ A' = Row a cap m.length E 2 (encs m) :: Box b [fv] Tb :: A ∧ I = I') := by
 intro w0 w hs
 cases l with
 | nil => exact (AnyF.slices_SortFunc_none L a cap _ w).mono fun e w' ⟨he, hw⟩ => ⟨_, _, _, he, ⟨[], rfl, .refl _, .nil, rfl, rfl⟩, hw ▸ hs⟩
 | cons l0 lr =>
  generalize hl : l0 :: lr = l at *
  have hne : 0 < l.length := by rw [← hl]; simp
  clear hl
  obtain ⟨cs, h1, h2⟩ := hs
  obtain ⟨c, cs', rfl, ⟨hlen, hrow⟩, hr⟩ := h1.cons_inv
  obtain ⟨c2, cs2, rfl, hbox, hr2⟩ := hr.cons_inv
  have hbox : c2 = [(b, .cells #[fv] Tb (0, 0))] := hbox
  subst hbox
  rcases hrow with ⟨_, _, h0, _⟩ | ⟨blk, cur, rfl, rfl, hsz, hle, htk⟩
  ·omega
  have hblk : w.heap[blk]? = some (.cells cur E (0, 0)) := h2.has (blk, _) (by simp)
  have hbb : w.heap[b]? = some (.cells #[fv] Tb (0, 0)) := h2.has (b, _) (by simp)
  have hlt : blk < w.heap.size := (Array.getElem?_eq_some_iff.1 hblk).1
  have hltb : b < w.heap.size := (Array.getElem?_eq_some_iff.1 hbb).1
  have hbne : b ≠ blk := by
   have := h2.nd
   simp only [List.cons_append, List.nil_append, List.map_cons, List.nodup_cons, List.mem_cons, not_or] at this
   exact fun e => this.1.1 e.symm
  have hcur : l.length * 2 ≤ cur.size := by rw [hsz]; omega
  have hget : ∀ j, j < l.length * 2 → cur[j]? = some (((encs l)[j]?).getD default) := fun j hj => by
   have e : (encs l)[j]? = cur[j]? := by
    rw [← htk, List.getElem?_take_of_lt hj]
    simp
   have : j < cur.size := by omega
   rw [e, Array.getElem?_eq_getElem this]
   rfl
  have hother : ∀ (m : Nat) (dk : Array Cell) (os : Array Obj) (k : Nat) (o : Obj), k ≠ blk → w.heap[k]? = some o → (sortWorldK (Enc.enc (α := Cell)) 2 w blk 0 m dk os).heap[k]? = some o := fun m dk os k o hk hko => by
   have hk1 : k < w.heap.size := (Array.getElem?_eq_some_iff.1 hko).1
   show ((w.heap.modify blk _) ++ os)[k]? = some o
   rw [Array.getElem?_append_left (by simpa using hk1), Array.getElem?_modify, if_neg (fun e => hk e.symm)]
   exact hko
  have hcmp : CmpLays P g #[pt b 0] (Enc.enc (α := Cell)) 2 R1.cmpC blk 0 l.toArray.size w := fun m os dk _ x y => by
   have hm : (b, Obj.cells #[fv] Tb (0, 0)) ∈ worldI (sortWorldK (Enc.enc (α := Cell)) 2 w blk 0 m dk os) := mem_worldI.2 (hother m dk os b _ hbne hbb)
   exact (hc _ hm x y _ _ (st_world _)).mono fun e w' ⟨v, A', I', he, ⟨hv, _, hI⟩, hS⟩ => ⟨hv ▸ he, grow_of_st hS hI⟩
  have hH : HoldsK (Enc.enc (α := Cell)) 2 w blk 0 l.toArray := fun j hj => by
   have hj2 : j < l.length * 2 := by simpa using hj
   rw [flat_cells l j hj2, Nat.zero_add]
   refine ⟨?_, ?_⟩
   ·rw [cell_at hblk]; exact hget j hj2
   ·simp [World.frozen?, hblk]
  refine (AnyQ.slices_SortFunc_total L 2 aE zE (Enc.enc (α := Cell)) (fun _ => rfl) (fun x v hv => by have := Enc.one x; exact List.all_eq_true.1 this v hv) R1.cmpC swo_cells g #[pt b 0] blk 0 cap l.toArray w eg hcmp hH hlt (by simp; omega) (fun x y h1 h2 => ?_)).mono ?_
  ·have a := of_decide_eq_false h1
   have b := of_decide_eq_false h2
   rw [R1.cmpC_lt] at a b
   exact Decidable.byContradiction fun e => (R1.less_total e).elim a b
  rintro e w' ⟨rfl, n, os, rfl⟩
  obtain ⟨m, hm⟩ : ∃ m, l.toArray.toList.mergeSort (fun x y => !(ltOf R1.cmpC) y x) = m := ⟨_, rfl⟩
  rw [hm]
  have hperm : m.Perm l := by rw [← hm]; exact List.mergeSort_perm _ _
  have hml : m.length = l.length := hperm.length_eq
  have hsrt : m.Pairwise (fun x y => ¬ R1.less y x) := by
   have hle : ∀ x y : Cell, (!(ltOf R1.cmpC) y x) = true ↔ ¬ R1.less y x := fun x y => by
    unfold ltOf
    rw [Bool.not_eq_true', decide_eq_false_iff_not, R1.cmpC_lt]
   have := List.pairwise_mergeSort (le := fun x y => !(ltOf R1.cmpC) y x) (fun x y z h1 h2 => by
    rw [hle] at *
    unfold R1.less at *
    omega) (fun x y => by
    rw [Bool.or_eq_true, hle, hle]
    unfold R1.less
    omega) l.toArray.toList
   rw [hm] at this
   exact this.imp fun h => (hle _ _).1 h
  refine ⟨_, _, _, rfl, ⟨m, rfl, hperm, hsrt, rfl, rfl⟩, ?_⟩
  -- the world behind the sort
  obtain ⟨cur', hcur'⟩ : ∃ cur', putCells id 0 (flatK (Enc.enc (α := Cell)) 2 m.toArray) cur = cur' := ⟨_, rfl⟩
  have hsz' : cur'.size = cur.size := by rw [← hcur']; simp [putCells]
  have htk' : cur'.toList.take (m.length * 2) = encs m := by
   apply List.ext_getElem?
   intro j
   by_cases hj : j < m.length * 2
   ·rw [List.getElem?_take_of_lt hj, ← hcur']
    have hj2 : j < cur.size := by omega
    simp only [Array.getElem?_toList]
    unfold putCells
    rw [Array.getElem?_mapIdx, Array.getElem?_eq_getElem hj2, Option.map_some, if_pos ⟨Nat.zero_le _, by simp; omega⟩, Nat.sub_zero, flat_cells m j hj]
    have hlt2 : j < (encs m).length := by rw [encs_length]; exact hj
    rw [List.getElem?_eq_getElem hlt2]
    rfl
   ·rw [List.getElem?_eq_none (by rw [List.length_take]; omega), List.getElem?_eq_none (by rw [encs_length]; exact Nat.le_of_not_lt hj)]
  have hw := Wd.setObj (by simpa using h2) (.cells cur' E (0, 0)) (w.heap.modify blk (onCells (putCells id 0 (flatK (Enc.enc (α := Cell)) 2 m.toArray)))) (by simp) (by
   rw [Array.getElem?_modify, if_pos rfl, hblk]
   show some (Obj.cells (putCells id 0 _ cur) E (0, 0)) = _
   rw [hcur']) (fun k hk => by rw [Array.getElem?_modify, if_neg (fun e => hk e.symm)])
  have hw2 := (hw.drawn (w.drawn + n) (Nat.le_add_right _ _)).grow os
  have hw3 : Wd w0 (sortWorldK (Enc.enc (α := Cell)) 2 w blk 0 n m.toArray os) _ := hw2
  exact ⟨[(blk, .cells cur' E (0, 0))] ++ ([(b, .cells #[fv] Tb (0, 0))] ++ cs2), .cons ⟨by rw [encs_length]; rfl, .inr ⟨blk, cur', rfl, rfl, by rw [hsz', hsz], by omega, htk'⟩⟩ hr, by simpa using hw3⟩
end
end Go.GL


set_option linter.unusedVariables false
namespace Go.GL
open Go.Proofs Go.Shelf
/-! ### slices.SortFunc at cells: the kit's laying (lay-plain.mjs wrote it) -/
def lays40_ren : Go.Shelf.Ren := ⟨fun | 6 => 40 | 15 => 48 | 14 => 47 | 28 => 59 | 29 => 60 | 20 => 51 | 21 => 52 | 22 => 53 | 23 => 54 | 24 => 55 | 25 => 56 | 26 => 57 | 27 => 58 | 46 => 61 | 47 => 62 | 48 => 63 | 49 => 64 | 50 => 65 | 57 => 66 | n => n, fun | 22 => 23 | 24 => 40 | 25 => 64 | 3 => 3 | 39 => 71 | 0 => 0 | 53 => 83 | 55 => 85 | 4 => 4 | 46 => 76 | 45 => 75 | 50 => 80 | 5 => 5 | 9 => 9 | 66 => 86 | 70 => 90 | 76 => 92 | 77 => 93 | n => n, fun | n => n⟩
theorem lays40 : Go.Proofs.SlLaysF0.n6 Try.prog lays40_ren := {
 mixed := by kernel_rfl
 f6 := ⟨Try.f40.name, by decide, Try.func40.trans (congrArg some (by kernel_rfl))⟩
 f14 := ⟨Try.f47.name, by decide, Try.func47.trans (congrArg some (by kernel_rfl))⟩
 f15 := Try.func48.trans (congrArg some (by kernel_rfl))
 f20 := ⟨Try.f51.name, by decide, Try.func51.trans (congrArg some (by kernel_rfl))⟩
 f21 := ⟨Try.f52.name, by decide, Try.func52.trans (congrArg some (by kernel_rfl))⟩
 f22 := ⟨Try.f53.name, by decide, Try.func53.trans (congrArg some (by kernel_rfl))⟩
 f23 := ⟨Try.f54.name, by decide, Try.func54.trans (congrArg some (by kernel_rfl))⟩
 f24 := ⟨Try.f55.name, by decide, Try.func55.trans (congrArg some (by kernel_rfl))⟩
 f25 := ⟨Try.f56.name, by decide, Try.func56.trans (congrArg some (by kernel_rfl))⟩
 f26 := ⟨Try.f57.name, by decide, Try.func57.trans (congrArg some (by kernel_rfl))⟩
 f27 := ⟨Try.f58.name, by decide, Try.func58.trans (congrArg some (by kernel_rfl))⟩
 f28 := Try.func59.trans (congrArg some (by kernel_rfl))
 f29 := Try.func60.trans (congrArg some (by kernel_rfl))
 f46 := ⟨Try.f61.name, by decide, Try.func61.trans (congrArg some (by kernel_rfl))⟩
 f47 := Try.func62.trans (congrArg some (by kernel_rfl))
 f48 := Try.func63.trans (congrArg some (by kernel_rfl))
 f49 := ⟨Try.f64.name, by decide, Try.func64.trans (congrArg some (by kernel_rfl))⟩
 f50 := ⟨Try.f65.name, by decide, Try.func65.trans (congrArg some (by kernel_rfl))⟩
 f57 := ⟨Try.f66.name, by decide, Try.func66.trans (congrArg some (by kernel_rfl))⟩
 t0 := Try.underlying0
 a0 := Try.isAgg0
 z0 := Try.sizeOf0
 v0 := Try.zeroValue0
 t3 := Try.underlying3
 a3 := Try.isAgg3
 z3 := Try.sizeOf3
 v3 := Try.zeroValue3
 t4 := Try.underlying4
 a4 := Try.isAgg4
 z4 := Try.sizeOf4
 v4 := Try.zeroValue4
 t5 := Try.underlying5
 a5 := Try.isAgg5
 z5 := Try.sizeOf5
 v5 := Try.zeroValue5
 t9 := Try.underlying9
 a9 := Try.isAgg9
 z9 := Try.sizeOf9
 v9 := Try.zeroValue9
 t22 := Try.underlying23
 a22 := Try.isAgg23
 z22 := Try.sizeOf23
 v22 := Try.zeroValue23
 t25 := Try.underlying64
 a25 := Try.isAgg64
 z25 := Try.sizeOf64
 v25 := Try.zeroValue64
 t39 := Try.underlying71
 a39 := Try.isAgg71
 z39 := Try.sizeOf71
 v39 := Try.zeroValue71
 t45 := Try.underlying75
 a45 := Try.isAgg75
 z45 := Try.sizeOf75
 v45 := Try.zeroValue75
 t46 := Try.underlying76
 a46 := Try.isAgg76
 z46 := Try.sizeOf76
 v46 := Try.zeroValue76
 t50 := Try.underlying80
 a50 := Try.isAgg80
 z50 := Try.sizeOf80
 v50 := Try.zeroValue80
 t53 := Try.underlying83
 a53 := Try.isAgg83
 z53 := Try.sizeOf83
 v53 := Try.zeroValue83
 t55 := Try.underlying85
 a55 := Try.isAgg85
 z55 := Try.sizeOf85
 v55 := Try.zeroValue85
 t66 := Try.underlying86
 a66 := Try.isAgg86
 z66 := Try.sizeOf86
 v66 := Try.zeroValue86
 t70 := Try.underlying90
 a70 := Try.isAgg90
 z70 := Try.sizeOf90
 v70 := Try.zeroValue90
 t76 := Try.underlying92
 a76 := Try.isAgg92
 z76 := Try.sizeOf92
 v76 := Try.zeroValue92
 t77 := Try.underlying93
 a77 := Try.isAgg93
 z77 := Try.sizeOf93
 v77 := Try.zeroValue93 }
end Go.GL


set_option linter.unusedVariables false
namespace Go.GL
open Go.Proofs
attribute [local irreducible] wpList Code.wp Exit.then Exit.inBlock Ends Tri TriH OpV OpG FnC epf wpAnyH
variable {A : List Asrt} {I : List Chunk}
theorem cells_sort {l : List Cell} {a : Option Addr} {cap b : Nat} {Tb : TypeId} (hn : l.length ≤ 1000000000) :
  FnC Try.prog 40 #[.slice a l.length cap, .func (.func 49) #[] #[pt b 0]] (Row a cap l.length 40 2 (encs l) :: Box b [.func (.func 37) #[] #[]] Tb :: A) I (fun v A' I' => ∃ m, v = .tuple #[] ∧ m.Perm l ∧ m.Pairwise (fun x y => ¬ R1.less y x) ∧ A' = Row a cap m.length 40 2 (encs m) :: Box b [.func (.func 37) #[] #[]] Tb :: A ∧ I = I') :=
 fnc_sort lays40 (fun w => run_isA (P := Try.prog) (t := 40) w) (fun w => run_size (P := Try.prog) (t := 40) w) (enters_of (f := 49)) (fun J hJ x y => cells_by1 hJ) hn
end Go.GL


set_option linter.unusedVariables false
namespace Go.GL
open Go.Proofs
attribute [local irreducible] wpList Code.wp Exit.then Exit.inBlock Ends Tri TriH OpV OpG FnC epf wpAnyH
variable {A : List Asrt} {I : List Chunk}
theorem SlAt.none0 {α : Type} [Enc α] {xs : List α} {a : Option Addr} (h : SlAt I a xs) (e : a = none) : xs = [] := by
 rcases h with h | ⟨b, off, h, _⟩
 ·exact h
 ·rw [e] at h; cases h
theorem few_tuple {l : List Cell} {a : Option Addr} {cap : Nat} :
  FnC Try.prog 42 [.slice a l.length cap].toArray A I (fun v A' I' => v = .tuple [.slice (if 2000 < l.length then none else a) (if 2000 < l.length then 0 else l.length) (if 2000 < l.length then 0 else cap), .int .i64 (if 2000 < l.length then 3 else 0)].toArray ∧ A = A' ∧ I = I') :=
 cells_few.mono fun v A' I' ⟨h1, h2, h3⟩ => ⟨by
  rw [h1]
  split
  ·rfl
  ·rfl, h2, h3⟩
set_option maxHeartbeats 1000000 in
set_option maxRecDepth 100000 in
theorem cells_of {l : List Cell} {a : Option Addr} {cap : Nat} (hs : SlAt I a l) (hn : l.length ≤ 1000000000) :
  FnC Try.prog 30 [.slice a l.length cap].toArray A I (fun v A' I' => ∃ a' cap', v = .tuple [.slice a' (R1.of l).1.length cap', .int .i64 (R1.of l).2].toArray ∧ SlAt I' a' (R1.of l).1 ∧ A = A' ∧ I ⊆ I') := by
 skip
 skip
 refine fn_enter1 Try.func30 rfl Try.ntmps30 rfl fun w0 => ?_
 refine tS (tR (tA rfl rfl (tA rfl rfl (tN (tT (tS (tS ?_)))))))
 refine tR (tM rfl rfl ?_)
 refine tri_g (opg_call (xs := [_, _]) rfl (cells_containsFunc (p := fun c => decide (¬ R1.inB c)) (ca := []) (fun x _ => of1) hs hn)) rfl ?_
 rintro _ _ _ ⟨rfl, rfl, rfl⟩
 refine tN (tT ?_)
 refine tri_cond rfl (fun h1 => ?_) (fun h1 => ?_)
 ·have h1 : (l.any fun c => decide (¬ R1.inB c)) = true := h1
  refine tS (tR (tA rfl rfl (tA rfl rfl (tN (tT (tri_ret (tri_then_ret ?_)))))))
  refine tri_end A Suf.h rfl (.cons (rv_tmp rfl) (.cons (rv_tmp rfl) .nil)) ?_
  obtain ⟨d, hd, hd2⟩ := List.any_eq_true.1 h1
  rw [show R1.of l = ([], 2) from if_neg fun h2 => (of_decide_eq_true hd2) (R1.inB_iff.1 h2 d hd)]
  exact ⟨none, 0, rfl, SlAt.nil, rfl, fun _ h => h⟩
 ·have h1 : (l.any fun c => decide (¬ R1.inB c)) = false := h1
  have hin : ∀ d ∈ l, R1.inB d := fun d hd => Decidable.byContradiction fun e => by
   have := List.any_eq_false.1 h1 d hd
   exact this (decide_eq_true e)
  have hof : R1.of l = if 2000 < (R1.puts l).length then ([], 3) else (R1.puts l, 0) := if_pos (R1.inB_iff.2 hin)
  refine tri_skip (tT (tS (tR (tM rfl rfl ?_))))
  refine tri_g (opg_call (xs := [_]) rfl (clone_cells hs hn hs.none0)) rfl ?_
  rintro _ _ _ ⟨a2, cap2, rfl, rfl, rfl⟩
  refine tA rfl rfl (tN (tT (tS (tR (tM rfl rfl ?_)))))
  refine tri_g (opg_call (xs := [_]) rfl (cells_by)) rfl ?_
  rintro _ _ _ ⟨bo, rfl, rfl, rfl⟩
  skip
  refine tri_perm (A := ?a1_0 :: ?a1_1 :: ?T1) (B := ?a1_1 :: ?a1_0 :: ?T1) (by exact permL [1, 0] [?a1_0, ?a1_1] ?T1 (by decide) rfl) ?_
  refine tri_g (opg_call (xs := [_, _]) rfl (cells_sort hn)) rfl ?_
  rintro _ _ _ ⟨m, rfl, hperm, hsort, rfl, rfl⟩
  have hml : m.length = l.length := hperm.length_eq
  rw [← hml]
  refine tN (tT (tS (tR (tM rfl rfl ?_))))
  refine tri_g (opg_call (xs := [_]) rfl (cells_compact (by omega))) rfl ?_
  rintro _ _ _ ⟨rfl, rfl, rfl⟩
  rw [R1.compact_sort hperm hsort]
  skip
  refine tri_g (opg_call (xs := [_]) rfl (few_tuple)) rfl ?_
  rintro _ _ _ ⟨rfl, rfl, rfl⟩
  refine tri_v (opv_extract rfl rfl) rfl ?_
  refine tri_v (opv_extract rfl rfl) rfl ?_
  refine tA rfl rfl (tA rfl rfl (tN (tT (tri_ret ?_))))
  refine tri_freezeRow (α := Cell) rfl fun J hJ hs2 => ?_
  refine tri_end A Suf.h rfl (.cons (rv_tmp rfl) (.cons (rv_tmp rfl) .nil)) ?_
  rw [hof]
  by_cases h2 : 2000 < (R1.puts l).length
  ·rw [if_pos h2, if_pos h2, if_pos h2, if_pos h2, if_pos h2]
   exact ⟨none, 0, rfl, SlAt.nil, rfl, hJ⟩
  ·rw [if_neg h2, if_neg h2, if_neg h2, if_neg h2, if_neg h2]
   exact ⟨a2, cap2, rfl, hs2, rfl, hJ⟩
end Go.GL


set_option linter.unusedVariables false
namespace Go.GL
open Go.Proofs
attribute [local irreducible] wpList Code.wp Exit.then Exit.inBlock Ends Tri TriH OpV OpG FnC epf wpAnyH
variable {A : List Asrt} {I : List Chunk}
section
variable {w0 : World} {n : Nat} {F : Frm} {dst : Option Tmp} {ty : TypeId} {pos : String} {af : Array Edge} {gd : Option (Nat × Bool)} {x : Operand} {b r : Nat} {es rem : KVs}
theorem opv_entryC {c : Cell} {k : Int} (hx : ev F x = some (pt r 0)) : OpV Try.prog w0 n ⟨dst, .entry x, ty, pos, af, gd⟩ F (MapJ Try.prog 40 b r es rem (some (R2.keyOf c, .int .i64 k)) :: A) I (.tuple [cellV c, .int .i64 k].toArray) := by
 have := opv_entry (P := Try.prog) (w0 := w0) (n := n) (A := A) (I := I) (kt := 40) (b := b) (es := es) (rem := rem) (dst := dst) (ty := ty) (pos := pos) (af := af) (gd := gd) (p := (R2.keyOf c, .int .i64 k)) hx
 rw [show (R2.keyOf c, Value.int .i64 k).1 = [c.x, c.y] from rfl, ← keyC] at this
 exact this
end
namespace R2
theorem kv_of {l : List Cell} {dn rem rest : KVs} {p : List Int × Value} (h : (dn ++ rem).Perm (kvs (counts l))) (hp : rem.Perm (p :: rest)) : ∃ c k, p = (keyOf c, .int .i64 k) ∧ 0 ≤ k ∧ (dn ++ [p] ++ rest).Perm (kvs (counts l)) := by
 have hmem : p ∈ kvs (counts l) := h.mem_iff.1 (List.mem_append_right _ (hp.mem_iff.2 List.mem_cons_self))
 obtain ⟨q, hq, e⟩ := List.mem_map.1 hmem
 refine ⟨q.1, q.2, e.symm, ?_, ?_⟩
 ·rw [← get_mem (counts_nodup l) q hq]
  exact counts_ge l q.1
 ·rw [List.append_assoc]
  exact (List.Perm.append_left dn hp.symm).trans h
theorem out_snoc (dn : KVs) (c : Cell) (k : Int) : (dn ++ [(keyOf c, Value.int .i64 k)]).filterMap outOf = dn.filterMap outOf ++ if lives (decide (10 ≤ k)) (k % 10) then [c] else [] := by
 rw [List.filterMap_append, List.filterMap_cons, outOf_kv]
 split <;> simp_all
theorem dn_len {l : List Cell} (hl : l.length ≤ 2000) {dn rem : KVs} (h : (dn ++ rem).Perm (kvs (counts l))) : (dn.filterMap outOf).length ≤ 20000 := by
 have h1 := List.length_filterMap_le outOf dn
 have h2 := h.length_eq
 have h3 := len_counts l []
 rw [List.length_append] at h2
 unfold kvs counts at h2
 rw [List.length_map] at h2
 simp only [List.length_nil] at h3
 omega
end R2
set_option maxHeartbeats 2000000 in
set_option maxRecDepth 100000 in
theorem life_next {l : List Cell} {a : Option Addr} {cap : Nat} (hs : SlAt I a l) (hn : l.length ≤ 1000000000) :
  FnC Try.prog 14 [.slice a l.length cap].toArray A I (fun v A' I' => ∃ a' cap', v = .tuple [.slice a' (R2.next l).1.length cap', .int .i64 (R2.next l).2].toArray ∧ SlAt I' a' (R2.next l).1 ∧ A = A' ∧ I ⊆ I') := by
 skip
 skip
 refine fn_enter1 Try.func14 rfl Try.ntmps14 rfl fun w0 => ?_
 refine tS (tR (tA rfl rfl (tA rfl rfl (tN (tT (tS (tS ?_)))))))
 refine tR (tM rfl rfl ?_)
 refine tri_g (opg_call (xs := [_]) rfl (cells_right hs hn)) rfl ?_
 rintro _ _ I2 ⟨rfl, rfl, hI2⟩
 refine tri_v (by first | exact opv_notD rfl | exact opv_not rfl) rfl ?_
 refine tN (tT ?_)
 refine tri_cond_dec rfl (fun h1 => ?_) (fun h1 => ?_)
 ·refine tS (tR (tA rfl rfl (tA rfl rfl (tN (tT (tri_ret (tri_then_ret ?_)))))))
  refine tri_end A Suf.h rfl (.cons (rv_tmp rfl) (.cons (rv_tmp rfl) .nil)) ?_
  rw [show R2.next l = ([], 1) from if_neg h1]
  exact ⟨none, 0, rfl, SlAt.nil, rfl, hI2⟩
 ·have hr : R1.right l := Decidable.not_not.1 h1
  have hl2 := hr.2
  have hbd : ∀ d ∈ l, R2.bd d := fun d hd => by
   have := R1.right_inB hr d hd
   unfold R1.inB at this
   unfold R2.bd
   omega
  refine tri_skip (tT (tS (tR (tA rfl rfl (tN (tT (tS ?_)))))))
  refine tS (tR (tM rfl rfl ?_))
  refine tri_g (opg_call (xs := [_]) rfl (life_counts (hs.mono hI2) (by omega) hbd)) rfl ?_
  rintro _ _ _ ⟨mb, rfl, rfl, rfl⟩
  skip
  refine tri_g (opg_range rfl) rfl ?_
  rintro _ _ _ ⟨r, rfl, rfl, rfl⟩
  refine tN (tT (tri_block ?_))
  refine tri_nilRow (E := 40) (sz := 2) ?_
  refine tri_perm (A := ?a1_0 :: ?a1_1 :: ?T1) (B := ?a1_1 :: ?a1_0 :: ?T1) (by exact permL [1, 0] [?a1_0, ?a1_1] ?T1 (by decide) rfl) ?_
  refine tri_sub (F' := [(4, .slice none 0 0), (12, pt r 0)]) ⟨rfl, rfl, trivial⟩ ?_
  refine loop_ind (G := KVs × KVs × Option Addr × Nat) (fun g => g.1.length) (fun g => (g.2.1 ++ g.1).Perm (R2.kvs (R2.counts l))) (fun g => [(4, .slice g.2.2.1 (g.2.1.filterMap R2.outOf).length g.2.2.2), (12, pt r 0)]) (fun g => MapIt Try.prog 40 mb r (R2.kvs (R2.counts l)) g.1 :: Row g.2.2.1 g.2.2.2 (g.2.1.filterMap R2.outOf).length 40 2 (encs (g.2.1.filterMap R2.outOf)) :: A) (fun _ => I2) ?_ (R2.kvs (R2.counts l), [], none, 0) (.refl _)
  rintro ⟨rem, dn, a1, cap1⟩ hperm K hK
  simp only at hperm hK ⊢
  have hdl := R2.dn_len hl2 hperm
  skip
  refine tS (tR ?_)
  refine tri_g (opg_nextU rfl) rfl ?_
  rintro _ _ _ ⟨more, tl, rest, cur, rfl, rfl, rfl, hm⟩
  refine tri_v (opv_extract rfl rfl) rfl ?_
  refine tN (tT (tS ?_))
  refine tri_cond rfl (fun hmore => ?_) (fun hmore => ?_)
  ·have hmore : more = true := hmore
   subst hmore
   rcases hm with ⟨h, _⟩ | ⟨_, p, rfl, hp⟩
   ·cases h
   obtain ⟨c, k, rfl, hk0, hperm2⟩ := R2.kv_of hperm hp
   have hrl := hp.length_eq
   rw [List.length_cons] at hrl
   have hsn := R2.out_snoc dn c k
   generalize hacc : dn.filterMap R2.outOf = acc at *
   refine tri_skip (tT (tri_block (tS (tR ?_))))
   refine tri_v (opv_entryC rfl) rfl ?_
   refine tri_v (opv_extract rfl rfl) rfl ?_
   refine tri_v (opv_extract rfl rfl) rfl ?_
   refine tri_g opg_alloc rfl ?_
   rintro _ _ _ ⟨b5, rfl, rfl, rfl⟩
   refine tri_g (opg_store rfl rfl rfl rfl rfl rfl) rfl ?_
   rintro _ _ _ ⟨rfl, rfl⟩
   refine tA rfl rfl (tN (tT (tS (tR (tM rfl rfl ?_)))))
   refine tri_v (opv_geq rfl rfl) rfl ?_
   refine tM rfl rfl ?_
   refine tri_v (by first | exact opv_remE rfl rfl (by omega) (by omega) | exact opv_rem rfl rfl (by omega) rfl) rfl ?_
   refine tri_g (opg_call (xs := [_, _]) rfl (life_lives)) rfl ?_
   rintro _ _ _ ⟨rfl, rfl, rfl⟩
   refine tN (tT ?_)
   refine tri_cond rfl (fun hlv => ?_) (fun hlv => ?_)
   ·have hlv : R2.lives (decide (10 ≤ k)) (k % 10) = true := hlv
    rw [if_pos hlv] at hsn
    refine tR (tM rfl rfl ?_)
    refine tri_v (by first | exact opv_load1 rfl rfl rfl | exact opv_loadA rfl rfl rfl | exact opv_loadE1 rfl (by assumption) rfl (by omega) rfl rfl | exact opv_loadEA rfl (by assumption) rfl (by omega) rfl rfl | exact opv_loadRX1 rfl rfl (by omega) rfl rfl | exact opv_loadRXA rfl rfl (by omega) rfl rfl rfl | exact opv_loadIX rfl rfl (by omega) | exact opv_loadR1 rfl rfl rfl | exact opv_loadRA rfl rfl rfl rfl) rfl ?_
    refine tri_g (opg_buildSlice rfl rfl rfl rfl) rfl ?_
    rintro _ _ _ ⟨b25, rfl, rfl, rfl⟩
    refine tri_g (opg_appendB rfl rfl rfl rfl (by omega) rfl) rfl ?_
    rintro _ _ _ ⟨a2, cap2, rfl, rfl, rfl⟩
    refine tA rfl rfl (tN ?_)
    refine tri_inBlock ?_
    refine tT ?_
    refine tri_drop (tri_drop (tri_weaken (fun c hc => MapJ.a hc) ?_))
    refine tri_perm (A := ?a2_0 :: ?a2_1 :: ?T2) (B := ?a2_1 :: ?a2_0 :: ?T2) (by exact permL [1, 0] [?a2_0, ?a2_1] ?T2 (by decide) rfl) ?_
    refine tri_rowEq (len' := (acc ++ [c]).length) (cells' := encs (acc ++ [c])) (by simp) (by rw [encs_append]; rfl) ?_
    refine tri_perm (A := ?a3_0 :: ?a3_1 :: ?T3) (B := ?a3_1 :: ?a3_0 :: ?T3) (by exact permL [1, 0] [?a3_0, ?a3_1] ?T3 (by decide) rfl) ?_
    have := hK (rest, dn ++ [(R2.keyOf c, .int .i64 k)], a2, cap2) hperm2 (by simp only; omega)
    simp only [hsn] at this
    refine tri_sub ?_ this
    rw [List.length_append]
    exact ⟨rfl, rfl, trivial⟩
   ·have hlv : R2.lives (decide (10 ≤ k)) (k % 10) = false := hlv
    rw [if_neg (by rw [hlv]; decide), List.append_nil] at hsn
    refine tri_skip ?_
    refine tri_inBlock ?_
    refine tT ?_
    refine tri_drop (tri_weaken (fun c hc => MapJ.a hc) ?_)
    have := hK (rest, dn ++ [(R2.keyOf c, .int .i64 k)], a1, cap1) hperm2 (by simp only; omega)
    simp only [hsn] at this
    refine tri_sub ?_ this
    exact ⟨rfl, rfl, trivial⟩
  ·have hmore : more = false := hmore
   rcases hm with ⟨_, rfl⟩ | ⟨h, _⟩
   ·rw [List.append_nil] at hperm
    subst hmore
    have hout := R2.next_out hr hperm
    generalize dn.filterMap R2.outOf = acc at *
    refine tri_exit ?_
    refine tri_then_exit ?_
    refine tri_then_exit ?_
    refine tri_inBlock_hit rfl ?_
    refine tT (tS (tR (tM rfl rfl ?_)))
    refine tri_drop ?_
    refine tri_freezeRow (α := Cell) rfl fun J hJ hs2 => ?_
    refine tri_g (opg_call (xs := [_]) rfl (cells_of hs2 (by omega))) rfl ?_
    rintro _ _ J2 ⟨a3, cap3, rfl, hs3, rfl, hJ2⟩
    refine tri_v (opv_extract rfl rfl) rfl ?_
    refine tri_v (opv_extract rfl rfl) rfl ?_
    refine tA rfl rfl (tA rfl rfl (tN (tT (tri_ret ?_))))
    refine tri_end A Suf.h rfl (.cons (rv_tmp rfl) (.cons (rv_tmp rfl) .nil)) ?_
    rw [show R2.next l = R1.of (R2.cands l) from if_pos hr, ← hout]
    exact ⟨a3, cap3, rfl, hs3, rfl, fun _ h => hJ2 (hJ (hI2 h))⟩
   ·rw [hmore] at h; cases h
end Go.GL


set_option linter.unusedVariables false
namespace Go.GL
open Go.Proofs
attribute [local irreducible] wpList Code.wp Exit.then Exit.inBlock Ends Tri TriH OpV OpG FnC epf wpAnyH
variable {A : List Asrt} {I : List Chunk}
theorem R2.next_len (l : List Cell) : (R2.next l).1.length ≤ 2000 := by
 unfold R2.next R1.of
 split
 ·split
  ·split
   ·simp
   ·simp only; omega
  ·simp
 ·simp
theorem R2.iter_err {n : Nat} {l : List Cell} (h : (R2.next l).2 ≠ 0) : R2.iter (n + 1) l = ([], (R2.next l).2) := by
 rw [R2.iter, if_pos h]
theorem R2.iter_ok {n : Nat} {l : List Cell} (h : ¬ (R2.next l).2 ≠ 0) : R2.iter (n + 1) l = R2.iter n (R2.next l).1 := by
 rw [R2.iter, if_neg h]
set_option maxHeartbeats 1000000 in
set_option maxRecDepth 100000 in
theorem life_run {l : List Cell} {a : Option Addr} {cap : Nat} {n : Int} (hs : SlAt I a l) (hn : l.length ≤ 1000000000) :
  FnC Try.prog 16 [.slice a l.length cap, .int .i64 n].toArray A I (fun v A' I' => ∃ a' cap', v = .tuple [.slice a' (R2.run l n).1.length cap', .int .i64 (R2.run l n).2].toArray ∧ SlAt I' a' (R2.run l n).1 ∧ A = A' ∧ I ⊆ I') := by
 skip
 skip
 refine fn_enter2 Try.func16 rfl Try.ntmps16 rfl fun w0 => ?_
 refine tS (tR (tA rfl rfl (tA rfl rfl (tN (tT (tS (tS ?_)))))))
 refine tR (tM rfl rfl ?_)
 refine tri_g (opg_call (xs := [_]) rfl (cells_right hs hn)) rfl ?_
 rintro _ _ I2 ⟨rfl, rfl, hI2⟩
 refine tri_v (by first | exact opv_notD rfl | exact opv_not rfl) rfl ?_
 refine tM rfl rfl ?_
 have bad : ∀ J : List Chunk, I ⊆ J → ¬ (R1.right l ∧ 0 ≤ n ∧ n ≤ 1000) → ∃ a' cap', Value.tuple [.slice none 0 0, .int .i64 1].toArray = .tuple [.slice a' (R2.run l n).1.length cap', .int .i64 (R2.run l n).2].toArray ∧ SlAt J a' (R2.run l n).1 ∧ A = A ∧ I ⊆ J := fun J hJ h => by
  rw [show R2.run l n = ([], 1) from if_neg h]
  exact ⟨none, 0, rfl, SlAt.nil, rfl, hJ⟩
 refine tri_split rfl rfl (fun h1 => ?_) (fun h1 => ?_)
 ·refine tri_guard_skip rfl rfl rfl rfl (tri_guard_skip rfl rfl rfl rfl ?_)
  refine tri_v (by first | exact opv_pick_t rfl rfl | exact opv_pick_f rfl rfl | exact opv_pick_bool rfl rfl rfl | exact opv_pick rfl rfl rfl) rfl ?_
  refine tM rfl rfl (tri_guard_skip rfl rfl rfl rfl (tri_guard_skip rfl rfl rfl rfl ?_))
  refine tri_v (by first | exact opv_pick_t rfl rfl | exact opv_pick_f rfl rfl | exact opv_pick_bool rfl rfl rfl | exact opv_pick rfl rfl rfl) rfl ?_
  refine tN (tT ?_)
  refine tri_cond_true rfl ?_
  refine tS (tR (tA rfl rfl (tA rfl rfl (tN (tT (tri_ret (tri_then_ret ?_)))))))
  refine tri_end A Suf.h rfl (.cons (rv_tmp rfl) (.cons (rv_tmp rfl) .nil)) (bad _ hI2 fun h => h1 h.1)
 ·refine tri_guard_run rfl rfl rfl (tM rfl rfl (tri_guard_run rfl rfl rfl ?_))
  refine tri_v (opv_lss rfl rfl) rfl ?_
  refine tri_v (by first | exact opv_pick_t rfl rfl | exact opv_pick_f rfl rfl | exact opv_pick_bool rfl rfl rfl | exact opv_pick rfl rfl rfl) rfl ?_
  refine tM rfl rfl ?_
  refine tri_split rfl rfl (fun h2 => ?_) (fun h2 => ?_)
  ·refine tri_guard_skip rfl rfl rfl rfl (tri_guard_skip rfl rfl rfl rfl ?_)
   refine tri_v (by first | exact opv_pick_t rfl rfl | exact opv_pick_f rfl rfl | exact opv_pick_bool rfl rfl rfl | exact opv_pick rfl rfl rfl) rfl ?_
   refine tN (tT ?_)
   refine tri_cond_true rfl ?_
   refine tS (tR (tA rfl rfl (tA rfl rfl (tN (tT (tri_ret (tri_then_ret ?_)))))))
   refine tri_end A Suf.h rfl (.cons (rv_tmp rfl) (.cons (rv_tmp rfl) .nil)) (bad _ hI2 fun h => by omega)
  ·refine tri_guard_run rfl rfl rfl (tM rfl rfl (tri_guard_run rfl rfl rfl ?_))
   refine tri_v (opv_gtr rfl rfl) rfl ?_
   refine tri_v (by first | exact opv_pick_t rfl rfl | exact opv_pick_f rfl rfl | exact opv_pick_bool rfl rfl rfl | exact opv_pick rfl rfl rfl) rfl ?_
   refine tN (tT ?_)
   refine tri_cond_dec rfl (fun h3 => ?_) (fun h3 => ?_)
   ·refine tS (tR (tA rfl rfl (tA rfl rfl (tN (tT (tri_ret (tri_then_ret ?_)))))))
    refine tri_end A Suf.h rfl (.cons (rv_tmp rfl) (.cons (rv_tmp rfl) .nil)) (bad _ hI2 fun h => by omega)
   ·have hr : R1.right l := Decidable.not_not.1 h1
    have hrun : R2.run l n = R2.iter n.toNat l := if_pos ⟨hr, by omega, by omega⟩
    refine tri_skip (tT (tS (tR (tM rfl rfl ?_))))
    refine tri_g (opg_call (xs := [_]) rfl (clone_cells (hs.mono hI2) hn (hs.none0))) rfl ?_
    rintro _ _ _ ⟨a2, cap2, rfl, rfl, rfl⟩
    refine tri_freezeRow (α := Cell) rfl fun J hJ hs2 => ?_
    refine tA rfl rfl (tN (tT (tS (tS (tR (tM rfl rfl (tM rfl rfl ?_)))))))
    refine tN (tT (tri_block ?_))
    refine tri_sub (F' := [(0, .slice a2 l.length cap2), (20, .int .i64 n), (21, .int .i64 (0 : Nat))]) ⟨rfl, rfl, rfl, trivial⟩ ?_
    refine loop_ind (G := Nat × List Cell × Option Addr × Nat × List Chunk) (fun g => n.toNat - g.1) (fun g => g.1 ≤ n.toNat ∧ R2.iter (n.toNat - g.1) g.2.1 = R2.iter n.toNat l ∧ SlAt g.2.2.2.2 g.2.2.1 g.2.1 ∧ g.2.1.length ≤ 1000000000 ∧ I ⊆ g.2.2.2.2) (fun g => [(0, .slice g.2.2.1 g.2.1.length g.2.2.2.1), (20, .int .i64 n), (21, .int .i64 (g.1 : Nat))]) (fun _ => A) (fun g => g.2.2.2.2) ?_ (0, l, a2, cap2, J) ⟨by simp only; omega, rfl, hs2, hn, fun _ h => hJ (hI2 h)⟩
    rintro ⟨k, m, a3, cap3, I3⟩ ⟨hk, hit, hs3, hm, hI3⟩ K hK
    simp only at hk hit hs3 hm hI3 hK ⊢
    skip
    refine tS (tR ?_)
    refine tri_v (opv_lss rfl rfl) rfl ?_
    refine tN (tT (tS ?_))
    refine tri_cond_dec rfl (fun h4 => ?_) (fun h4 => ?_)
    ·have e : n.toNat - k = (n.toNat - (k + 1)) + 1 := by omega
     rw [e] at hit
     refine tri_skip (tT (tS (tri_block (tS (tR (tA rfl rfl (tN ?_)))))))
     refine tT (tS (tR (tM rfl rfl ?_)))
     refine tri_g (opg_call (xs := [_]) rfl (life_next hs3 hm)) rfl ?_
     rintro _ _ I4 ⟨a4, cap4, rfl, hs4, rfl, hI4⟩
     refine tM rfl rfl ?_
     refine tri_v (opv_extract rfl rfl) rfl ?_
     refine tri_v (opv_extract rfl rfl) rfl ?_
     refine tA rfl rfl (tA rfl rfl (tN (tT (tS (tR (tM rfl rfl ?_))))))
     refine tri_v (by first | exact opv_neq rfl rfl | exact opv_neqI rfl rfl rfl rfl rfl rfl | exact opv_neqB rfl rfl) rfl ?_
     refine tN (tT ?_)
     refine tri_cond_dec rfl (fun h5 => ?_) (fun h5 => ?_)
     ·have h5 : (R2.next m).2 ≠ 0 := h5
      refine tS (tR (tM rfl rfl (tA rfl rfl (tA rfl rfl (tN (tT (tri_ret ?_)))))))
      refine tri_inBlock_ret ?_
      refine tri_then_ret (tri_then_ret ?_)
      refine tri_inBlock_ret ?_
      refine tri_then_ret ?_
      refine tri_end A Suf.h rfl (.cons (rv_tmp rfl) (.cons (rv_tmp rfl) .nil)) ?_
      rw [hrun, ← hit, R2.iter_err h5]
      exact ⟨none, 0, rfl, SlAt.nil, rfl, fun _ h => hI4 (hI3 h)⟩
     ·have h5 : ¬ (R2.next m).2 ≠ 0 := h5
      rw [R2.iter_ok h5] at hit
      have hlen := R2.next_len m
      refine tri_skip ?_
      refine tri_inBlock ?_
      refine tT (tR ?_)
      refine tri_v (by first | exact opv_add rfl rfl (w64 (by omega) (by omega))) rfl ?_
      refine tM rfl rfl (tN (tT ?_))
      refine tri_sub ?_ (hK (k + 1, (R2.next m).1, a4, cap4, I4) ⟨by simp only; omega, hit, hs4, by simp only; omega, fun _ h => hI4 (hI3 h)⟩ (by simp only; omega))
      exact ⟨rfl, rfl, rfl, trivial⟩
    ·have e : n.toNat - k = 0 := by omega
     rw [e] at hit
     refine tri_exit ?_
     refine tri_then_exit ?_
     refine tri_then_exit ?_
     refine tri_inBlock_hit rfl ?_
     refine tT (tS (tR (tM rfl rfl (tA rfl rfl (tA rfl rfl (tN (tT ?_)))))))
     refine tri_ret ?_
     refine tri_end A Suf.h rfl (.cons (rv_tmp rfl) (.cons (rv_tmp rfl) .nil)) ?_
     rw [hrun, ← hit]
     exact ⟨a3, cap3, rfl, hs3, rfl, hI3⟩
end Go.GL


set_option linter.unusedVariables false
namespace Go.GL
open Go.Proofs
attribute [local irreducible] wpList Code.wp Exit.then Exit.inBlock Ends Tri TriH OpV OpG FnC epf wpAnyH
variable {A : List Asrt} {I : List Chunk}
set_option maxRecDepth 100000 in
theorem ref01_less {a b : Cell} : FnC Try.prog 35 [cellV a, cellV b].toArray A I (fun v A' I' => v = .bool (decide (R1.less a b)) ∧ A = A' ∧ I = I') := by
 refine fn_enter2 Try.func35 rfl Try.ntmps35 rfl fun w0 => ?_
 refine tS (tR ?_)
 refine tri_g (opg_box_agg rfl) rfl ?_
 rintro _ _ _ ⟨b, rfl, rfl, rfl⟩
 refine tri_g (opg_box_agg rfl) rfl ?_
 rintro _ _ _ ⟨b, rfl, rfl, rfl⟩
 refine tA rfl rfl (tN (tT (tS (tR ?_))))
 refine tri_v (opv_fieldAddr rfl rfl) rfl ?_
 refine tri_v (opv_load1 rfl rfl rfl) rfl ?_
 refine tri_v (opv_fieldAddr rfl rfl) rfl ?_
 refine tri_v (opv_load1 rfl rfl rfl) rfl ?_
 refine tri_v (opv_lss rfl rfl) rfl ?_
 refine tM rfl rfl ?_
 refine tri_split rfl rfl (fun h1 => ?_) (fun h1 => ?_)
 ·refine tri_guard_skip rfl rfl rfl rfl (tri_guard_skip rfl rfl rfl rfl (tri_guard_skip rfl rfl rfl rfl (tri_guard_skip rfl rfl rfl rfl (tri_guard_skip rfl rfl rfl rfl (tri_guard_skip rfl rfl rfl rfl ?_)))))
  refine tri_guard_skip_u rfl rfl rfl ?_
  refine tri_guard_skip_u rfl rfl rfl ?_
  refine tri_guard_skip_u rfl rfl rfl ?_
  refine tri_guard_skip_u rfl rfl rfl ?_
  refine tri_guard_skip_u rfl rfl rfl ?_
  refine tri_guard_skip rfl rfl rfl rfl ?_
  refine tri_v (opv_pick_t rfl rfl) rfl ?_
  refine tA rfl rfl (tN (tT (tri_ret ?_)))
  refine tri_end A Suf.h rfl (.cons (rv_tmp rfl) .nil) ⟨congrArg Value.bool ?_, rfl, rfl⟩
  unfold R1.less; simp [h1]
 ·refine tri_guard_run rfl rfl rfl ?_
  refine tri_v (opv_fieldAddr rfl rfl) rfl ?_
  refine tri_guard_run rfl rfl rfl ?_
  refine tri_v (opv_load1 rfl rfl rfl) rfl ?_
  refine tri_guard_run rfl rfl rfl ?_
  refine tri_v (opv_fieldAddr rfl rfl) rfl ?_
  refine tri_guard_run rfl rfl rfl ?_
  refine tri_v (opv_load1 rfl rfl rfl) rfl ?_
  refine tri_guard_run rfl rfl rfl ?_
  refine tri_v (opv_eql rfl rfl) rfl ?_
  refine tri_guard_run rfl rfl rfl (tM rfl rfl ?_)
  refine tri_split rfl rfl (fun h2 => ?_) (fun h2 => ?_)
  ·refine tri_guard_run rfl rfl rfl ?_
   refine tri_v (opv_fieldAddr rfl rfl) rfl ?_
   refine tri_guard_run rfl rfl rfl ?_
   refine tri_v (opv_load1 rfl rfl rfl) rfl ?_
   refine tri_guard_run rfl rfl rfl ?_
   refine tri_v (opv_fieldAddr rfl rfl) rfl ?_
   refine tri_guard_run rfl rfl rfl ?_
   refine tri_v (opv_load1 rfl rfl rfl) rfl ?_
   refine tri_guard_run rfl rfl rfl ?_
   refine tri_v (opv_lss rfl rfl) rfl ?_
   refine tri_guard_run rfl rfl rfl ?_
   refine tri_v (opv_pick_t rfl rfl) rfl ?_
   refine tri_v (opv_pick_f rfl rfl) rfl ?_
   refine tA rfl rfl (tN (tT (tri_ret ?_)))
   refine tri_end A Suf.h rfl (.cons (rv_tmp rfl) .nil) ⟨congrArg Value.bool ?_, rfl, rfl⟩
   unfold R1.less; simp [h2]
  ·refine tri_guard_skip rfl rfl rfl rfl (tri_guard_skip rfl rfl rfl rfl (tri_guard_skip rfl rfl rfl rfl (tri_guard_skip rfl rfl rfl rfl (tri_guard_skip rfl rfl rfl rfl (tri_guard_run rfl rfl rfl ?_)))))
   refine tri_v (opv_pick_f rfl rfl) rfl ?_
   refine tri_v (opv_pick_f rfl rfl) rfl ?_
   refine tA rfl rfl (tN (tT (tri_ret ?_)))
   refine tri_end A Suf.h rfl (.cons (rv_tmp rfl) .nil) ⟨congrArg Value.bool ?_, rfl, rfl⟩
   unfold R1.less; simp [h1, h2]
end Go.GL


set_option linter.unusedVariables false
namespace Go.GL
open Go.Proofs
attribute [local irreducible] wpList Code.wp Exit.then Exit.inBlock Ends Tri TriH OpV OpG FnC epf wpAnyH
variable {A : List Asrt} {I : List Chunk}
set_option maxRecDepth 100000 in
theorem ref01_has {l : List Cell} {a : Option Addr} {cap : Nat} {c : Cell} (hs : SlAt I a l) (hn : l.length ≤ 1000000000) :
  FnC Try.prog 25 [.slice a l.length cap, cellV c].toArray A I (fun v A' I' => v = .bool (decide (c ∈ l)) ∧ A = A' ∧ I = I') := by
 refine fn_enter2 Try.func25 rfl Try.ntmps25 rfl fun w0 => ?_
 refine tS (tR ?_)
 refine tri_g (opg_box_agg rfl) rfl ?_
 rintro _ _ _ ⟨b, rfl, rfl, rfl⟩
 refine tA rfl rfl (tN (tT (tS (tS (tR (tA rfl rfl (tN ?_)))))))
 refine tT (tri_block ?_)
 refine tri_sub (F' := [(0, .slice a l.length cap), (3, pt b 0), (5, .int .i64 (0 : Nat))]) ⟨rfl, rfl, rfl, trivial⟩ ?_
 refine loop_ind (G := Nat) (fun i => l.length - i) (fun i => i ≤ l.length ∧ (c ∈ l ↔ c ∈ l.drop i)) (fun i => [(0, .slice a l.length cap), (3, pt b 0), (5, .int .i64 (i : Nat))]) (fun _ => _) (fun _ => _) ?_ 0 ⟨by omega, by simp⟩
 rintro i ⟨hi, hok⟩ K hK
 skip
 refine tS (tS (tR (tM rfl rfl (tM rfl rfl ?_))))
 refine tri_v (opv_len rfl) rfl ?_
 refine tri_v (opv_lss rfl rfl) rfl ?_
 refine tN (tT ?_)
 refine tri_cond_dec rfl (fun h => ?_) (fun h => ?_)
 ·refine tri_skip (tT (tS (tri_block (tS ?_))))
  refine tri_draw [0, 1, 2, 3, 4, 5] rfl [] rfl mixed ?_
  refine th_take rfl rfl (by kernel_rfl)  (opv_move rfl) ?_
  refine th_take rfl rfl (by kernel_rfl)  (opv_move rfl) ?_
  refine th_take rfl rfl (by kernel_rfl)  (opv_indexAddrSN rfl rfl (by omega) (by assumption) rfl) ?_
  refine th_take rfl rfl (by kernel_rfl)  (opv_loadEA rfl (by assumption) rfl (by omega) rfl rfl) ?_
  refine th_take rfl rfl (by kernel_rfl)  (opv_loadA rfl rfl rfl) ?_
  refine th_take rfl rfl (by kernel_rfl)  (opv_eqlI rfl rfl rfl rfl rfl rfl) ?_
  refine th_done (by kernel_rfl) ?_
  refine tT ?_
  have hlt : i < l.length := by omega
  have e : l.getD i default = l[i] := by simp [hlt]
  refine tri_cond_dec rfl (fun h1 => ?_) (fun h1 => ?_)
  ·refine tS (tR (tA rfl rfl (tN (tT (tri_ret ?_)))))
   refine tri_inBlock_ret ?_
   refine tri_then_ret (tri_then_ret ?_)
   refine tri_inBlock_ret ?_
   refine tri_then_ret ?_
   refine tri_end A Suf.h rfl (.cons (rv_tmp rfl) .nil) ⟨congrArg Value.bool ?_, rfl, rfl⟩
   have h2 : l.getD i default = c := Cell.ext_iff'.2 h1
   rw [e] at h2
   exact (decide_eq_true (h2 ▸ List.getElem_mem hlt)).symm
  ·refine tri_skip ?_
   refine tri_inBlock ?_
   refine tT (tR (tM rfl rfl ?_))
   refine tU rfl rfl (by omega) (by omega) rfl ?_
   refine tA rfl rfl (tN (tT ?_))
   refine tri_sub ?_ (hK (i + 1) ⟨by omega, ?_⟩ (by omega))
   ·exact ⟨rfl, rfl, rfl, trivial⟩
   ·have h2 : l.getD i default ≠ c := fun h3 => h1 (Cell.ext_iff'.1 h3)
    rw [e] at h2
    refine hok.trans ?_
    have e2 : l.drop i = l[i] :: l.drop (i + 1) := List.drop_eq_getElem_cons hlt
    rw [e2, List.mem_cons]
    exact ⟨fun h => h.resolve_left (Ne.symm h2), .inr⟩
 ·refine tri_exit ?_
  refine tri_then_exit ?_
  refine tri_then_exit ?_
  refine tri_inBlock_hit rfl ?_
  refine tT (tS (tR (tA rfl rfl (tN (tT (tri_ret ?_))))))
  refine tri_end A Suf.h rfl (.cons (rv_tmp rfl) .nil) ⟨congrArg Value.bool ?_, rfl, rfl⟩
  refine (decide_eq_false fun h3 => ?_).symm
  have := hok.1 h3
  rw [List.drop_of_length_le (by omega)] at this
  simp at this
end Go.GL


set_option linter.unusedVariables false
namespace Go.GL
open Go.Proofs
attribute [local irreducible] wpList Code.wp Exit.then Exit.inBlock Ends Tri TriH OpV OpG FnC epf wpAnyH
variable {A : List Asrt} {I : List Chunk}
set_option maxHeartbeats 1000000 in
set_option maxRecDepth 100000 in
theorem ref01_putA {l : List Cell} {a : Option Addr} {cap : Nat} {c : Cell} (hs : SlAt I a l) (hn : l.length ≤ 1000000000) :
  FnC Try.prog 22 [.slice a l.length cap, cellV c].toArray A I (fun v A' I' => ∃ a' cap', v = .slice a' (R1.put l c).length cap' ∧ StA I' a' cap' (R1.put l c) ∧ A = A' ∧ I ⊆ I') := by
 refine fn_enter2 Try.func22 rfl Try.ntmps22 rfl fun w0 => ?_
 refine tS (tR ?_)
 first | refine tri_g (opg_box_agg rfl) rfl ?_ | refine tri_g (opg_box1 rfl rfl) rfl ?_
 rintro _ _ _ ⟨b, rfl, rfl, rfl⟩
 refine tA rfl rfl (tN (tT (tS (tR (tA rfl rfl (tN (tT ?_)))))))
 refine tS (tR (tA rfl rfl (tN (tT (tS (tS (tR ?_)))))))
 refine tA rfl rfl (tN (tT (tri_block ?_)))
 refine tri_nilRow (E := 40) (sz := 2) ?_
 refine tri_sub (F' := [(0, .slice a l.length cap), (3, pt b 0), (5, .slice none 0 0), (6, .bool false), (7, .int .i64 (0 : Nat))]) ⟨rfl, rfl, rfl, rfl, rfl, trivial⟩ ?_
 refine loop_ind (G := Nat × List Cell × Bool × Option Addr × Nat) (fun g => l.length - g.1) (fun g => g.1 ≤ l.length ∧ g.2.1.length ≤ 2 * g.1 ∧ R1.put l c = g.2.1 ++ R1.putF c g.2.2.1 (l.drop g.1)) (fun g => [(0, .slice a l.length cap), (3, pt b 0), (5, .slice g.2.2.2.1 g.2.1.length g.2.2.2.2), (6, .bool g.2.2.1), (7, .int .i64 (g.1 : Nat))]) (fun g => Row g.2.2.2.1 g.2.2.2.2 g.2.1.length 40 2 (encs g.2.1) :: Box b [.int .i64 c.x, .int .i64 c.y] 40 :: A) (fun _ => I) ?_ (0, [], false, none, 0) ⟨by omega, by simp, rfl⟩
 rintro ⟨i, acc, dn, a1, cap1⟩ ⟨hi, hal, hp⟩ K hK
 simp only at hi hal hp hK ⊢
 skip
 refine tS (tS (tR (tM rfl rfl (tM rfl rfl ?_))))
 refine tri_v (opv_len rfl) rfl ?_
 refine tri_v (opv_lss rfl rfl) rfl ?_
 refine tN (tT ?_)
 refine tri_cond_dec rfl (fun h => ?_) (fun h => ?_)
 ·refine tri_skip (tT (tS (tri_block (tS (tS ?_)))))
  refine tri_draw [0, 1, 2, 3, 4, 5, 6, 7, 8, 9, 10, 11, 12, 13, 14, 15, 16, 17] rfl [] rfl mixed ?_
  refine th_take rfl rfl (by kernel_rfl)  (opv_move rfl) ?_
  refine th_take rfl rfl (by kernel_rfl)  (by first | exact opv_notD rfl | exact opv_not rfl) ?_
  refine th_take rfl rfl (by kernel_rfl)  (opv_move rfl) ?_
  have hlt : i < l.length := by omega
  have hd : l.drop i = l.getD i default :: l.drop (i + 1) := by rw [List.drop_eq_getElem_cons hlt]; simp [hlt]
  rw [hd] at hp
  refine th_bool 16 rfl (fun hd1 => ?_) (fun hd1 => ?_)
  ·have dn0 : dn = false := by simpa using hd1
   subst dn0
   refine th_take_g rfl rfl rfl rfl rfl (by kernel_rfl)  (opv_move rfl) ?_
   refine th_take_g rfl rfl rfl rfl rfl (by kernel_rfl)  (opv_move rfl) ?_
   refine th_take_g rfl rfl rfl rfl rfl (by kernel_rfl)  (by first | exact opv_indexAddrA rfl rfl (by first | decide | omega) (by first | decide | omega) | exact opv_indexAddrSN rfl rfl (by omega) (by assumption) rfl | exact opv_indexAddrS rfl rfl (by omega) (by omega) (by assumption) rfl | exact opv_indexAddrE rfl (by assumption) (by omega) rfl (by first | decide | omega) (by first | decide | omega) | exact opv_indexAddrRN rfl rfl (by omega) | exact opv_indexAddrR rfl rfl (by omega) (by omega) | exact opv_indexAddrRA rfl (by omega) rfl (by first | decide | omega) (by first | decide | omega) | exact opv_indexAddrSP rfl rfl (by omega) (by omega) | exact opv_indexAddrSN rfl rfl (by omega) (by assumption) (by omega) | exact opv_indexAddrS rfl rfl (by omega) (by omega) (by assumption) (by omega)) ?_
   refine th_take_g rfl rfl rfl rfl rfl (by kernel_rfl)  (by first | exact opv_load1 rfl rfl rfl | exact opv_loadA rfl rfl rfl | exact opv_loadE1 rfl (by assumption) rfl (by omega) rfl rfl | exact opv_loadEA rfl (by assumption) rfl (by omega) rfl rfl | exact opv_loadRX1 rfl rfl (by omega) rfl rfl | exact opv_loadRXA rfl rfl (by omega) rfl rfl rfl | exact opv_loadIX rfl rfl (by omega) | exact opv_loadR1 rfl rfl rfl | exact opv_loadRA rfl rfl rfl rfl) ?_
   refine th_take_g rfl rfl rfl rfl rfl (by kernel_rfl)  (by first | exact opv_load1 rfl rfl rfl | exact opv_loadA rfl rfl rfl | exact opv_loadE1 rfl (by assumption) rfl (by omega) rfl rfl | exact opv_loadEA rfl (by assumption) rfl (by omega) rfl rfl | exact opv_loadRX1 rfl rfl (by omega) rfl rfl | exact opv_loadRXA rfl rfl (by omega) rfl rfl rfl | exact opv_loadIX rfl rfl (by omega) | exact opv_loadR1 rfl rfl rfl | exact opv_loadRA rfl rfl rfl rfl) ?_
   refine th_take_g rfl rfl rfl rfl rfl (by kernel_rfl)  (by first | exact opv_eql rfl rfl | exact opv_eqlI rfl rfl rfl rfl rfl rfl | exact opv_eqlB rfl rfl | exact opv_eqlNil rfl rfl) ?_
   refine th_take_g rfl rfl rfl rfl rfl (by kernel_rfl)  (opv_move rfl) ?_
   refine th_split rfl rfl rfl (fun h1 => ?_) (fun h1 => ?_)
   ·have e1 : l.getD i default = c := Cell.ext_iff'.2 h1
    refine th_skip rfl rfl rfl rfl rfl (by kernel_rfl)  ?_
    refine th_skip rfl rfl rfl rfl rfl (by kernel_rfl)  ?_
    refine th_skip rfl rfl rfl rfl rfl (by kernel_rfl)  ?_
    refine th_skip rfl rfl rfl rfl rfl (by kernel_rfl)  ?_
    refine th_skip rfl rfl rfl rfl rfl (by kernel_rfl)  ?_
    refine th_one (by kernel_rfl) (step_skip rfl rfl rfl rfl rfl ?_)
    refine th_take_g rfl rfl rfl rfl rfl (by kernel_rfl)  (by first | exact opv_pick_t rfl rfl | exact opv_pick_f rfl rfl | exact opv_pick_bool rfl rfl rfl | exact opv_pick rfl rfl rfl) ?_
    refine th_take rfl rfl (by kernel_rfl)  (by first | exact opv_pick_t rfl rfl | exact opv_pick_f rfl rfl | exact opv_pick_bool rfl rfl rfl | exact opv_pick rfl rfl rfl) ?_
    refine th_done (by kernel_rfl) ?_
    refine tT ?_
    refine tri_cond_true rfl ?_
    refine tS (tR (tM rfl rfl ?_))
    refine tri_v (by first | exact opv_load1 rfl rfl rfl | exact opv_loadA rfl rfl rfl | exact opv_loadE1 rfl (by assumption) rfl (by omega) rfl rfl | exact opv_loadEA rfl (by assumption) rfl (by omega) rfl rfl | exact opv_loadRX1 rfl rfl (by omega) rfl rfl | exact opv_loadRXA rfl rfl (by omega) rfl rfl rfl | exact opv_loadIX rfl rfl (by omega) | exact opv_loadR1 rfl rfl rfl | exact opv_loadRA rfl rfl rfl rfl) rfl ?_
    refine tri_g (opg_buildSlice rfl rfl rfl rfl) rfl ?_
    rintro _ _ _ ⟨b, rfl, rfl, rfl⟩
    refine tri_g (opg_appendB rfl rfl rfl rfl (by omega) rfl) rfl ?_
    rintro _ _ _ ⟨a2, cap2, rfl, rfl, rfl⟩
    refine tA rfl rfl (tN (tT (tR (tA rfl rfl (tN (tT (tS ?_)))))))
    refine tri_draw [0, 1, 2, 3, 4, 5] rfl [] rfl mixed ?_
    refine th_take rfl rfl (by kernel_rfl)  (opv_move rfl) ?_
    refine th_take rfl rfl (by kernel_rfl)  (opv_move rfl) ?_
    refine th_take rfl rfl (by kernel_rfl)  (by first | exact opv_indexAddrA rfl rfl (by first | decide | omega) (by first | decide | omega) | exact opv_indexAddrSN rfl rfl (by omega) (by assumption) rfl | exact opv_indexAddrS rfl rfl (by omega) (by omega) (by assumption) rfl | exact opv_indexAddrE rfl (by assumption) (by omega) rfl (by first | decide | omega) (by first | decide | omega) | exact opv_indexAddrRN rfl rfl (by omega) | exact opv_indexAddrR rfl rfl (by omega) (by omega) | exact opv_indexAddrRA rfl (by omega) rfl (by first | decide | omega) (by first | decide | omega) | exact opv_indexAddrSP rfl rfl (by omega) (by omega) | exact opv_indexAddrSN rfl rfl (by omega) (by assumption) (by omega) | exact opv_indexAddrS rfl rfl (by omega) (by omega) (by assumption) (by omega)) ?_
    refine th_take rfl rfl (by kernel_rfl)  (by first | exact opv_load1 rfl rfl rfl | exact opv_loadA rfl rfl rfl | exact opv_loadE1 rfl (by assumption) rfl (by omega) rfl rfl | exact opv_loadEA rfl (by assumption) rfl (by omega) rfl rfl | exact opv_loadRX1 rfl rfl (by omega) rfl rfl | exact opv_loadRXA rfl rfl (by omega) rfl rfl rfl | exact opv_loadIX rfl rfl (by omega) | exact opv_loadR1 rfl rfl rfl | exact opv_loadRA rfl rfl rfl rfl) ?_
    refine th_take rfl rfl (by kernel_rfl)  (by first | exact opv_load1 rfl rfl rfl | exact opv_loadA rfl rfl rfl | exact opv_loadE1 rfl (by assumption) rfl (by omega) rfl rfl | exact opv_loadEA rfl (by assumption) rfl (by omega) rfl rfl | exact opv_loadRX1 rfl rfl (by omega) rfl rfl | exact opv_loadRXA rfl rfl (by omega) rfl rfl rfl | exact opv_loadIX rfl rfl (by omega) | exact opv_loadR1 rfl rfl rfl | exact opv_loadRA rfl rfl rfl rfl) ?_
    refine th_take rfl rfl (by kernel_rfl)  (by first | exact opv_neq rfl rfl | exact opv_neqI rfl rfl rfl rfl rfl rfl | exact opv_neqB rfl rfl) ?_
    refine th_done (by kernel_rfl) ?_
    refine tT ?_
    refine tri_cond_not rfl ((fun h2 => h2 h1)) ?_
    refine tri_skip ?_
    refine tri_inBlock ?_
    refine tT (tR (tM rfl rfl ?_))
    refine tri_v (by first | exact opv_add rfl rfl (w64 (by omega) (by omega))) rfl ?_
    refine tA rfl rfl (tN (tT ?_))
    refine tri_drop ?_
    refine tri_rowEq (len' := (acc ++ [c]).length) (cells' := encs (acc ++ [c])) (by simp) (by rw [encs_append]; rfl) ?_
    refine tri_sub ?_ (hK (i + 1, acc ++ [c], true, a2, cap2) ⟨by simp only; omega, by simp only [List.length_append, List.length_singleton]; omega, ?_⟩ (by simp only; omega))
    ·exact ⟨rfl, rfl, by rw [List.length_append]; rfl, rfl, rfl, trivial⟩
    ·simp only [R1.putF, e1] at hp
     simpa using hp
   ·have e1 : l.getD i default ≠ c := fun h => h1 (Cell.ext_iff'.1 h)
    refine th_take_g rfl rfl rfl rfl rfl (by kernel_rfl)  (by first | exact opv_load1 rfl rfl rfl | exact opv_loadA rfl rfl rfl | exact opv_loadE1 rfl (by assumption) rfl (by omega) rfl rfl | exact opv_loadEA rfl (by assumption) rfl (by omega) rfl rfl | exact opv_loadRX1 rfl rfl (by omega) rfl rfl | exact opv_loadRXA rfl rfl (by omega) rfl rfl rfl | exact opv_loadIX rfl rfl (by omega) | exact opv_loadR1 rfl rfl rfl | exact opv_loadRA rfl rfl rfl rfl) ?_
    refine th_take_g rfl rfl rfl rfl rfl (by kernel_rfl)  (opv_move rfl) ?_
    refine th_take_g rfl rfl rfl rfl rfl (by kernel_rfl)  (opv_move rfl) ?_
    refine th_take_g rfl rfl rfl rfl rfl (by kernel_rfl)  (by first | exact opv_indexAddrA rfl rfl (by first | decide | omega) (by first | decide | omega) | exact opv_indexAddrSN rfl rfl (by omega) (by assumption) rfl | exact opv_indexAddrS rfl rfl (by omega) (by omega) (by assumption) rfl | exact opv_indexAddrE rfl (by assumption) (by omega) rfl (by first | decide | omega) (by first | decide | omega) | exact opv_indexAddrRN rfl rfl (by omega) | exact opv_indexAddrR rfl rfl (by omega) (by omega) | exact opv_indexAddrRA rfl (by omega) rfl (by first | decide | omega) (by first | decide | omega) | exact opv_indexAddrSP rfl rfl (by omega) (by omega) | exact opv_indexAddrSN rfl rfl (by omega) (by assumption) (by omega) | exact opv_indexAddrS rfl rfl (by omega) (by omega) (by assumption) (by omega)) ?_
    refine th_take_g rfl rfl rfl rfl rfl (by kernel_rfl)  (by first | exact opv_load1 rfl rfl rfl | exact opv_loadA rfl rfl rfl | exact opv_loadE1 rfl (by assumption) rfl (by omega) rfl rfl | exact opv_loadEA rfl (by assumption) rfl (by omega) rfl rfl | exact opv_loadRX1 rfl rfl (by omega) rfl rfl | exact opv_loadRXA rfl rfl (by omega) rfl rfl rfl | exact opv_loadIX rfl rfl (by omega) | exact opv_loadR1 rfl rfl rfl | exact opv_loadRA rfl rfl rfl rfl) ?_
    refine th_one (by kernel_rfl) (step_mg rfl rfl rfl rfl rfl (opg_call (xs := [_, _]) rfl (ref01_less (a := c) (b := R1.g l i))) ?_)
    rintro _ _ _ ⟨rfl, rfl, rfl⟩
    refine ⟨Suf.h, (by first | exact fun _ h => h | assumption | exact fun _ h => (by assumption : _ ⊆ _) ((by assumption : _ ⊆ _) h)), ?_⟩
    refine th_take_g rfl rfl rfl rfl rfl (by kernel_rfl)  (by first | exact opv_pick_t rfl rfl | exact opv_pick_f rfl rfl | exact opv_pick_bool rfl rfl rfl | exact opv_pick rfl rfl rfl) ?_
    refine th_take rfl rfl (by kernel_rfl)  (by first | exact opv_pick_t rfl rfl | exact opv_pick_f rfl rfl | exact opv_pick_bool rfl rfl rfl | exact opv_pick rfl rfl rfl) ?_
    refine th_done (by kernel_rfl) ?_
    refine tT ?_
    refine tri_cond_dec rfl (fun h2 => ?_) (fun h2 => ?_)
    ·have h2' : R1.less c (l.getD i default) := h2
     refine tS (tR (tM rfl rfl ?_))
     refine tri_v (by first | exact opv_load1 rfl rfl rfl | exact opv_loadA rfl rfl rfl | exact opv_loadE1 rfl (by assumption) rfl (by omega) rfl rfl | exact opv_loadEA rfl (by assumption) rfl (by omega) rfl rfl | exact opv_loadRX1 rfl rfl (by omega) rfl rfl | exact opv_loadRXA rfl rfl (by omega) rfl rfl rfl | exact opv_loadIX rfl rfl (by omega) | exact opv_loadR1 rfl rfl rfl | exact opv_loadRA rfl rfl rfl rfl) rfl ?_
     refine tri_g (opg_buildSlice rfl rfl rfl rfl) rfl ?_
     rintro _ _ _ ⟨b, rfl, rfl, rfl⟩
     refine tri_g (opg_appendB rfl rfl rfl rfl (by omega) rfl) rfl ?_
     rintro _ _ _ ⟨a2, cap2, rfl, rfl, rfl⟩
     refine tA rfl rfl (tN (tT (tR (tA rfl rfl (tN (tT (tS ?_)))))))
     refine tri_draw [0, 1, 2, 3, 4, 5] rfl [] rfl mixed ?_
     refine th_take rfl rfl (by kernel_rfl)  (opv_move rfl) ?_
     refine th_take rfl rfl (by kernel_rfl)  (opv_move rfl) ?_
     refine th_take rfl rfl (by kernel_rfl)  (by first | exact opv_indexAddrA rfl rfl (by first | decide | omega) (by first | decide | omega) | exact opv_indexAddrSN rfl rfl (by omega) (by assumption) rfl | exact opv_indexAddrS rfl rfl (by omega) (by omega) (by assumption) rfl | exact opv_indexAddrE rfl (by assumption) (by omega) rfl (by first | decide | omega) (by first | decide | omega) | exact opv_indexAddrRN rfl rfl (by omega) | exact opv_indexAddrR rfl rfl (by omega) (by omega) | exact opv_indexAddrRA rfl (by omega) rfl (by first | decide | omega) (by first | decide | omega) | exact opv_indexAddrSP rfl rfl (by omega) (by omega) | exact opv_indexAddrSN rfl rfl (by omega) (by assumption) (by omega) | exact opv_indexAddrS rfl rfl (by omega) (by omega) (by assumption) (by omega)) ?_
     refine th_take rfl rfl (by kernel_rfl)  (by first | exact opv_load1 rfl rfl rfl | exact opv_loadA rfl rfl rfl | exact opv_loadE1 rfl (by assumption) rfl (by omega) rfl rfl | exact opv_loadEA rfl (by assumption) rfl (by omega) rfl rfl | exact opv_loadRX1 rfl rfl (by omega) rfl rfl | exact opv_loadRXA rfl rfl (by omega) rfl rfl rfl | exact opv_loadIX rfl rfl (by omega) | exact opv_loadR1 rfl rfl rfl | exact opv_loadRA rfl rfl rfl rfl) ?_
     refine th_take rfl rfl (by kernel_rfl)  (by first | exact opv_load1 rfl rfl rfl | exact opv_loadA rfl rfl rfl | exact opv_loadE1 rfl (by assumption) rfl (by omega) rfl rfl | exact opv_loadEA rfl (by assumption) rfl (by omega) rfl rfl | exact opv_loadRX1 rfl rfl (by omega) rfl rfl | exact opv_loadRXA rfl rfl (by omega) rfl rfl rfl | exact opv_loadIX rfl rfl (by omega) | exact opv_loadR1 rfl rfl rfl | exact opv_loadRA rfl rfl rfl rfl) ?_
     refine th_take rfl rfl (by kernel_rfl)  (by first | exact opv_neq rfl rfl | exact opv_neqI rfl rfl rfl rfl rfl rfl | exact opv_neqB rfl rfl) ?_
     refine th_done (by kernel_rfl) ?_
     refine tT ?_
     refine tri_cond_is rfl (h1) ?_
     refine tR (tM rfl rfl (tM rfl rfl (tM rfl rfl ?_)))
     refine tri_v (by first | exact opv_indexAddrA rfl rfl (by first | decide | omega) (by first | decide | omega) | exact opv_indexAddrSN rfl rfl (by omega) (by assumption) rfl | exact opv_indexAddrS rfl rfl (by omega) (by omega) (by assumption) rfl | exact opv_indexAddrE rfl (by assumption) (by omega) rfl (by first | decide | omega) (by first | decide | omega) | exact opv_indexAddrRN rfl rfl (by omega) | exact opv_indexAddrR rfl rfl (by omega) (by omega) | exact opv_indexAddrRA rfl (by omega) rfl (by first | decide | omega) (by first | decide | omega) | exact opv_indexAddrSP rfl rfl (by omega) (by omega) | exact opv_indexAddrSN rfl rfl (by omega) (by assumption) (by omega) | exact opv_indexAddrS rfl rfl (by omega) (by omega) (by assumption) (by omega)) rfl ?_
     refine tri_v (by first | exact opv_load1 rfl rfl rfl | exact opv_loadA rfl rfl rfl | exact opv_loadE1 rfl (by assumption) rfl (by omega) rfl rfl | exact opv_loadEA rfl (by assumption) rfl (by omega) rfl rfl | exact opv_loadRX1 rfl rfl (by omega) rfl rfl | exact opv_loadRXA rfl rfl (by omega) rfl rfl rfl | exact opv_loadIX rfl rfl (by omega) | exact opv_loadR1 rfl rfl rfl | exact opv_loadRA rfl rfl rfl rfl) rfl ?_
     refine tri_g (opg_buildSlice rfl rfl rfl rfl) rfl ?_
     rintro _ _ _ ⟨b, rfl, rfl, rfl⟩
     refine tri_g (opg_appendB rfl rfl rfl rfl (by omega) rfl) rfl ?_
     rintro _ _ _ ⟨a3, cap3, rfl, rfl, rfl⟩
     refine tA rfl rfl (tN ?_)
     refine tri_inBlock ?_
     refine tT (tR (tM rfl rfl ?_))
     refine tri_v (by first | exact opv_add rfl rfl (w64 (by omega) (by omega))) rfl ?_
     refine tA rfl rfl (tN (tT ?_))
     refine tri_drop ?_
     refine tri_drop ?_
     refine tri_rowEq (len' := (acc ++ [c, l.getD i default]).length) (cells' := encs (acc ++ [c, l.getD i default])) (by simp) (by rw [encs_append, List.append_assoc]; rfl) ?_
     refine tri_sub ?_ (hK (i + 1, acc ++ [c, l.getD i default], true, a3, cap3) ⟨by simp only; omega, by simp only [List.length_append, List.length_cons, List.length_nil]; omega, ?_⟩ (by simp only; omega))
     ·exact ⟨rfl, rfl, by rw [List.length_append]; rfl, rfl, rfl, trivial⟩
     ·simp only [R1.putF, e1, h2', or_true, and_self, if_true, ne_eq, not_false_eq_true] at hp
      simpa using hp
    ·have h2' : ¬ R1.less c (l.getD i default) := h2
     refine tri_skip (tT (tS ?_))
     refine tri_draw [0, 1, 2, 3, 4, 5] rfl [] rfl mixed ?_
     refine th_take rfl rfl (by kernel_rfl)  (opv_move rfl) ?_
     refine th_take rfl rfl (by kernel_rfl)  (opv_move rfl) ?_
     refine th_take rfl rfl (by kernel_rfl)  (by first | exact opv_indexAddrA rfl rfl (by first | decide | omega) (by first | decide | omega) | exact opv_indexAddrSN rfl rfl (by omega) (by assumption) rfl | exact opv_indexAddrS rfl rfl (by omega) (by omega) (by assumption) rfl | exact opv_indexAddrE rfl (by assumption) (by omega) rfl (by first | decide | omega) (by first | decide | omega) | exact opv_indexAddrRN rfl rfl (by omega) | exact opv_indexAddrR rfl rfl (by omega) (by omega) | exact opv_indexAddrRA rfl (by omega) rfl (by first | decide | omega) (by first | decide | omega) | exact opv_indexAddrSP rfl rfl (by omega) (by omega) | exact opv_indexAddrSN rfl rfl (by omega) (by assumption) (by omega) | exact opv_indexAddrS rfl rfl (by omega) (by omega) (by assumption) (by omega)) ?_
     refine th_take rfl rfl (by kernel_rfl)  (by first | exact opv_load1 rfl rfl rfl | exact opv_loadA rfl rfl rfl | exact opv_loadE1 rfl (by assumption) rfl (by omega) rfl rfl | exact opv_loadEA rfl (by assumption) rfl (by omega) rfl rfl | exact opv_loadRX1 rfl rfl (by omega) rfl rfl | exact opv_loadRXA rfl rfl (by omega) rfl rfl rfl | exact opv_loadIX rfl rfl (by omega) | exact opv_loadR1 rfl rfl rfl | exact opv_loadRA rfl rfl rfl rfl) ?_
     refine th_take rfl rfl (by kernel_rfl)  (by first | exact opv_load1 rfl rfl rfl | exact opv_loadA rfl rfl rfl | exact opv_loadE1 rfl (by assumption) rfl (by omega) rfl rfl | exact opv_loadEA rfl (by assumption) rfl (by omega) rfl rfl | exact opv_loadRX1 rfl rfl (by omega) rfl rfl | exact opv_loadRXA rfl rfl (by omega) rfl rfl rfl | exact opv_loadIX rfl rfl (by omega) | exact opv_loadR1 rfl rfl rfl | exact opv_loadRA rfl rfl rfl rfl) ?_
     refine th_take rfl rfl (by kernel_rfl)  (by first | exact opv_neq rfl rfl | exact opv_neqI rfl rfl rfl rfl rfl rfl | exact opv_neqB rfl rfl) ?_
     refine th_done (by kernel_rfl) ?_
     refine tT ?_
     refine tri_cond_is rfl (h1) ?_
     refine tR (tM rfl rfl (tM rfl rfl (tM rfl rfl ?_)))
     refine tri_v (by first | exact opv_indexAddrA rfl rfl (by first | decide | omega) (by first | decide | omega) | exact opv_indexAddrSN rfl rfl (by omega) (by assumption) rfl | exact opv_indexAddrS rfl rfl (by omega) (by omega) (by assumption) rfl | exact opv_indexAddrE rfl (by assumption) (by omega) rfl (by first | decide | omega) (by first | decide | omega) | exact opv_indexAddrRN rfl rfl (by omega) | exact opv_indexAddrR rfl rfl (by omega) (by omega) | exact opv_indexAddrRA rfl (by omega) rfl (by first | decide | omega) (by first | decide | omega) | exact opv_indexAddrSP rfl rfl (by omega) (by omega) | exact opv_indexAddrSN rfl rfl (by omega) (by assumption) (by omega) | exact opv_indexAddrS rfl rfl (by omega) (by omega) (by assumption) (by omega)) rfl ?_
     refine tri_v (by first | exact opv_load1 rfl rfl rfl | exact opv_loadA rfl rfl rfl | exact opv_loadE1 rfl (by assumption) rfl (by omega) rfl rfl | exact opv_loadEA rfl (by assumption) rfl (by omega) rfl rfl | exact opv_loadRX1 rfl rfl (by omega) rfl rfl | exact opv_loadRXA rfl rfl (by omega) rfl rfl rfl | exact opv_loadIX rfl rfl (by omega) | exact opv_loadR1 rfl rfl rfl | exact opv_loadRA rfl rfl rfl rfl) rfl ?_
     refine tri_g (opg_buildSlice rfl rfl rfl rfl) rfl ?_
     rintro _ _ _ ⟨b, rfl, rfl, rfl⟩
     refine tri_g (opg_appendB rfl rfl rfl rfl (by omega) rfl) rfl ?_
     rintro _ _ _ ⟨a3, cap3, rfl, rfl, rfl⟩
     refine tA rfl rfl (tN ?_)
     refine tri_inBlock ?_
     refine tT (tR (tM rfl rfl ?_))
     refine tri_v (by first | exact opv_add rfl rfl (w64 (by omega) (by omega))) rfl ?_
     refine tA rfl rfl (tN (tT ?_))
     refine tri_drop ?_
     refine tri_rowEq (len' := (acc ++ [l.getD i default]).length) (cells' := encs (acc ++ [l.getD i default])) (by simp) (by rw [encs_append]; rfl) ?_
     refine tri_sub ?_ (hK (i + 1, acc ++ [l.getD i default], false, a3, cap3) ⟨by simp only; omega, by simp only [List.length_append, List.length_cons, List.length_nil]; omega, ?_⟩ (by simp only; omega))
     ·exact ⟨rfl, rfl, by rw [List.length_append]; rfl, rfl, rfl, trivial⟩
     ·simp only [R1.putF, e1, h2', or_false, and_false, if_false, ne_eq, not_false_eq_true, if_true] at hp
      simpa using hp
  ·have dn1 : dn = true := by simpa using hd1
   subst dn1
   refine th_skip rfl rfl rfl rfl rfl (by kernel_rfl)  ?_
   refine th_skip rfl rfl rfl rfl rfl (by kernel_rfl)  ?_
   refine th_skip rfl rfl rfl rfl rfl (by kernel_rfl)  ?_
   refine th_skip rfl rfl rfl rfl rfl (by kernel_rfl)  ?_
   refine th_skip rfl rfl rfl rfl rfl (by kernel_rfl)  ?_
   refine th_skip rfl rfl rfl rfl rfl (by kernel_rfl)  ?_
   refine th_skip rfl rfl rfl rfl rfl (by kernel_rfl)  ?_
   refine th_skip_u rfl rfl rfl rfl (by kernel_rfl)  ?_
   refine th_skip_u rfl rfl rfl rfl (by kernel_rfl)  ?_
   refine th_skip_u rfl rfl rfl rfl (by kernel_rfl)  ?_
   refine th_skip_u rfl rfl rfl rfl (by kernel_rfl)  ?_
   refine th_skip_u rfl rfl rfl rfl (by kernel_rfl)  ?_
   refine th_one (by kernel_rfl) (step_skip_u rfl rfl rfl rfl ?_)
   refine th_skip rfl rfl rfl rfl rfl (by kernel_rfl)  ?_
   refine th_take rfl rfl (by kernel_rfl)  (by first | exact opv_pick_t rfl rfl | exact opv_pick_f rfl rfl | exact opv_pick_bool rfl rfl rfl | exact opv_pick rfl rfl rfl) ?_
   refine th_done (by kernel_rfl) ?_
   refine tT ?_
   refine tri_cond_false rfl ?_
   refine tri_skip (tT (tS ?_))
   refine tri_draw [0, 1, 2, 3, 4, 5] rfl [] rfl mixed ?_
   refine th_take rfl rfl (by kernel_rfl)  (opv_move rfl) ?_
   refine th_take rfl rfl (by kernel_rfl)  (opv_move rfl) ?_
   refine th_take rfl rfl (by kernel_rfl)  (by first | exact opv_indexAddrA rfl rfl (by first | decide | omega) (by first | decide | omega) | exact opv_indexAddrSN rfl rfl (by omega) (by assumption) rfl | exact opv_indexAddrS rfl rfl (by omega) (by omega) (by assumption) rfl | exact opv_indexAddrE rfl (by assumption) (by omega) rfl (by first | decide | omega) (by first | decide | omega) | exact opv_indexAddrRN rfl rfl (by omega) | exact opv_indexAddrR rfl rfl (by omega) (by omega) | exact opv_indexAddrRA rfl (by omega) rfl (by first | decide | omega) (by first | decide | omega) | exact opv_indexAddrSP rfl rfl (by omega) (by omega) | exact opv_indexAddrSN rfl rfl (by omega) (by assumption) (by omega) | exact opv_indexAddrS rfl rfl (by omega) (by omega) (by assumption) (by omega)) ?_
   refine th_take rfl rfl (by kernel_rfl)  (by first | exact opv_load1 rfl rfl rfl | exact opv_loadA rfl rfl rfl | exact opv_loadE1 rfl (by assumption) rfl (by omega) rfl rfl | exact opv_loadEA rfl (by assumption) rfl (by omega) rfl rfl | exact opv_loadRX1 rfl rfl (by omega) rfl rfl | exact opv_loadRXA rfl rfl (by omega) rfl rfl rfl | exact opv_loadIX rfl rfl (by omega) | exact opv_loadR1 rfl rfl rfl | exact opv_loadRA rfl rfl rfl rfl) ?_
   refine th_take rfl rfl (by kernel_rfl)  (by first | exact opv_load1 rfl rfl rfl | exact opv_loadA rfl rfl rfl | exact opv_loadE1 rfl (by assumption) rfl (by omega) rfl rfl | exact opv_loadEA rfl (by assumption) rfl (by omega) rfl rfl | exact opv_loadRX1 rfl rfl (by omega) rfl rfl | exact opv_loadRXA rfl rfl (by omega) rfl rfl rfl | exact opv_loadIX rfl rfl (by omega) | exact opv_loadR1 rfl rfl rfl | exact opv_loadRA rfl rfl rfl rfl) ?_
   refine th_take rfl rfl (by kernel_rfl)  (by first | exact opv_neq rfl rfl | exact opv_neqI rfl rfl rfl rfl rfl rfl | exact opv_neqB rfl rfl) ?_
   refine th_done (by kernel_rfl) ?_
   refine tT ?_
   refine tri_cond_dec rfl (fun h2 => ?_) (fun h2 => ?_)
   ·have e1 : l.getD i default ≠ c := Cell.ne_iff'.2 h2
    refine tR (tM rfl rfl (tM rfl rfl (tM rfl rfl ?_)))
    refine tri_v (by first | exact opv_indexAddrA rfl rfl (by first | decide | omega) (by first | decide | omega) | exact opv_indexAddrSN rfl rfl (by omega) (by assumption) rfl | exact opv_indexAddrS rfl rfl (by omega) (by omega) (by assumption) rfl | exact opv_indexAddrE rfl (by assumption) (by omega) rfl (by first | decide | omega) (by first | decide | omega) | exact opv_indexAddrRN rfl rfl (by omega) | exact opv_indexAddrR rfl rfl (by omega) (by omega) | exact opv_indexAddrRA rfl (by omega) rfl (by first | decide | omega) (by first | decide | omega) | exact opv_indexAddrSP rfl rfl (by omega) (by omega) | exact opv_indexAddrSN rfl rfl (by omega) (by assumption) (by omega) | exact opv_indexAddrS rfl rfl (by omega) (by omega) (by assumption) (by omega)) rfl ?_
    refine tri_v (by first | exact opv_load1 rfl rfl rfl | exact opv_loadA rfl rfl rfl | exact opv_loadE1 rfl (by assumption) rfl (by omega) rfl rfl | exact opv_loadEA rfl (by assumption) rfl (by omega) rfl rfl | exact opv_loadRX1 rfl rfl (by omega) rfl rfl | exact opv_loadRXA rfl rfl (by omega) rfl rfl rfl | exact opv_loadIX rfl rfl (by omega) | exact opv_loadR1 rfl rfl rfl | exact opv_loadRA rfl rfl rfl rfl) rfl ?_
    refine tri_g (opg_buildSlice rfl rfl rfl rfl) rfl ?_
    rintro _ _ _ ⟨b, rfl, rfl, rfl⟩
    refine tri_g (opg_appendB rfl rfl rfl rfl (by omega) rfl) rfl ?_
    rintro _ _ _ ⟨a3, cap3, rfl, rfl, rfl⟩
    refine tA rfl rfl (tN ?_)
    refine tri_inBlock ?_
    refine tT (tR (tM rfl rfl ?_))
    refine tri_v (by first | exact opv_add rfl rfl (w64 (by omega) (by omega))) rfl ?_
    refine tA rfl rfl (tN (tT ?_))
    refine tri_drop ?_
    refine tri_rowEq (len' := (acc ++ [l.getD i default]).length) (cells' := encs (acc ++ [l.getD i default])) (by simp) (by rw [encs_append]; rfl) ?_
    refine tri_sub ?_ (hK (i + 1, acc ++ [l.getD i default], true, a3, cap3) ⟨by simp only; omega, by simp only [List.length_append, List.length_cons, List.length_nil]; omega, ?_⟩ (by simp only; omega))
    ·exact ⟨rfl, rfl, by rw [List.length_append]; rfl, rfl, rfl, trivial⟩
    ·simp only [R1.putF, e1, Bool.true_eq_false, false_and, if_false, ne_eq, not_false_eq_true, if_true] at hp
     simpa using hp
   ·have e1 : l.getD i default = c := Decidable.not_not.1 fun h => h2 (Cell.ne_iff'.1 h)
    refine tri_skip ?_
    refine tri_inBlock ?_
    refine tT (tR (tM rfl rfl ?_))
    refine tri_v (by first | exact opv_add rfl rfl (w64 (by omega) (by omega))) rfl ?_
    refine tA rfl rfl (tN (tT ?_))
    refine tri_sub ?_ (hK (i + 1, acc, true, a1, cap1) ⟨by simp only; omega, by simp only; omega, ?_⟩ (by simp only; omega))
    ·exact ⟨rfl, rfl, rfl, rfl, rfl, trivial⟩
    ·simp only [R1.putF, e1, Bool.true_eq_false, false_and, if_false, ne_eq, not_true_eq_false] at hp
     simpa using hp
 ·refine tri_exit ?_
  refine tri_then_exit ?_
  refine tri_then_exit ?_
  refine tri_inBlock_hit rfl ?_
  refine tT (tS (tS (tR (tM rfl rfl ?_))))
  refine tri_v (by first | exact opv_notD rfl | exact opv_not rfl) rfl ?_
  refine tN (tT ?_)
  have hd : l.drop i = [] := List.drop_of_length_le (by omega)
  rw [hd] at hp
  refine tri_cond rfl (fun hd1 => ?_) (fun hd1 => ?_)
  ·have dn0 : dn = false := by simpa using hd1
   subst dn0
   refine tR (tM rfl rfl ?_)
   refine tri_v (by first | exact opv_load1 rfl rfl rfl | exact opv_loadA rfl rfl rfl | exact opv_loadE1 rfl (by assumption) rfl (by omega) rfl rfl | exact opv_loadEA rfl (by assumption) rfl (by omega) rfl rfl | exact opv_loadRX1 rfl rfl (by omega) rfl rfl | exact opv_loadRXA rfl rfl (by omega) rfl rfl rfl | exact opv_loadIX rfl rfl (by omega) | exact opv_loadR1 rfl rfl rfl | exact opv_loadRA rfl rfl rfl rfl) rfl ?_
   refine tri_g (opg_buildSlice rfl rfl rfl rfl) rfl ?_
   rintro _ _ _ ⟨b, rfl, rfl, rfl⟩
   refine tri_g (opg_appendB rfl rfl rfl rfl (by omega) rfl) rfl ?_
   rintro _ _ _ ⟨a3, cap3, rfl, rfl, rfl⟩
   refine tA rfl rfl (tN (tT (tS (tR (tM rfl rfl (tA rfl rfl (tN ?_)))))))
   refine tT (tri_ret ?_)
   have hp' : R1.put l c = acc ++ [c] := by simpa [R1.putF] using hp
   refine tri_drop ?_
   refine tri_rowEq (len' := (R1.put l c).length) (cells' := encs (R1.put l c)) (by rw [hp']; simp) (by rw [hp', encs_append]; rfl) ?_
   refine tri_freezeRowC rfl fun I' hI hs' => ?_
   refine tri_end A Suf.h rfl (.cons (rv_tmp rfl) .nil) ⟨a3, cap3, ?_, hs', rfl, hI⟩
   rw [hp', List.length_append]; rfl
  ·have dn1 : dn = true := by simpa using hd1
   subst dn1
   refine tri_skip (tT (tS (tR (tM rfl rfl (tA rfl rfl (tN (tT ?_)))))))
   refine tri_ret ?_
   have hp' : R1.put l c = acc := by simpa [R1.putF] using hp
   refine tri_rowEq (len' := (R1.put l c).length) (cells' := encs (R1.put l c)) (by rw [hp']) (by rw [hp']) ?_
   refine tri_freezeRowC rfl fun I' hI hs' => ?_
   refine tri_end A Suf.h rfl (.cons (rv_tmp rfl) .nil) ⟨a1, cap1, ?_, hs', rfl, hI⟩
   rw [hp']; rfl
end Go.GL


set_option linter.unusedVariables false
namespace Go.GL
open Go.Proofs
attribute [local irreducible] wpList Code.wp Exit.then Exit.inBlock Ends Tri TriH OpV OpG FnC epf wpAnyH
variable {A : List Asrt} {I : List Chunk}
theorem R1.puts_snoc (l : List Cell) (c : Cell) : R1.puts (l ++ [c]) = R1.put (R1.puts l) c := by simp [R1.puts]
theorem R1.puts_len (l : List Cell) : (R1.puts l).length ≤ l.length := by
 have key : ∀ (l acc : List Cell), (l.foldl R1.put acc).length ≤ acc.length + l.length := by
  intro l
  induction l with
  | nil => intro acc; simp
  | cons c l ih =>
   intro acc
   have h1 := ih (R1.put acc c)
   have h2 := R1.put_len acc c
   simp only [List.foldl_cons, List.length_cons]
   omega
 have := key l []
 simpa [R1.puts] using this
end Go.GL


set_option linter.unusedVariables false
namespace Go.GL
open Go.Proofs
attribute [local irreducible] wpList Code.wp Exit.then Exit.inBlock Ends Tri TriH OpV OpG FnC epf wpAnyH
variable {A : List Asrt} {I : List Chunk}
end Go.GL


set_option linter.unusedVariables false
namespace Go.GL
open Go.Proofs
attribute [local irreducible] wpList Code.wp Exit.then Exit.inBlock Ends Tri TriH OpV OpG FnC epf wpAnyH
variable {A : List Asrt} {I : List Chunk}
def R2.acc (l : List Cell) (i : Nat) : List Cell := (l.take i).flatMap (R2.about l)
def R2.part (l : List Cell) (i k : Nat) : List Cell := R2.acc l i ++ ((List.range k).map (R2.nb (l.getD i default))).filter (R2.livesAt l)
end Go.GL


set_option linter.unusedVariables false
namespace Go.GL
open Go.Proofs
attribute [local irreducible] wpList Code.wp Exit.then Exit.inBlock Ends Tri TriH OpV OpG FnC epf wpAnyH
variable {A : List Asrt} {I : List Chunk}
end Go.GL


set_option linter.unusedVariables false
namespace Go.GL
open Go.Proofs
attribute [local irreducible] wpList Code.wp Exit.then Exit.inBlock Ends Tri TriH OpV OpG FnC epf wpAnyH
variable {A : List Asrt} {I : List Chunk}
set_option maxRecDepth 100000 in
theorem law01_pick {c n : Int} (h0 : -9223372036854775808 ≤ c) (h1 : c ≤ 9223372036854775807) (hn : 0 < n) : FnC Try.prog 26 [.int .i64 c, .int .i64 n].toArray A I (fun v A' I' => v = .int .i64 (pk c n) ∧ A = A' ∧ I = I') := by
 refine fn_enter2 Try.func26 rfl Try.ntmps26 rfl fun w0 => ?_
 refine tS (tR (tA rfl rfl (tN (tT (tS (tS (tR ?_)))))))
 refine tM rfl rfl ?_
 refine tri_v (opv_lss rfl rfl) rfl ?_
 refine tN (tT ?_)
 refine tri_cond_dec rfl (fun h => ?_) (fun h => ?_)
 ·refine tR (tM rfl rfl ?_)
  refine tri_v (by first | exact opv_add rfl rfl (w64 (by omega) (by omega))) rfl ?_
  refine tri_v (by first | exact opv_negE rfl (by omega) (by omega)) rfl ?_
  refine tA rfl rfl (tN (tT (tS (tR (tM rfl rfl (tM rfl rfl ?_))))))
  refine tri_v (by first | exact opv_remE rfl rfl (by omega) (by omega) | exact opv_rem rfl rfl (by omega) rfl) rfl ?_
  refine tA rfl rfl (tN (tT (tri_ret ?_)))
  refine tri_end A Suf.h rfl (.cons (rv_tmp rfl) .nil) ⟨?_, rfl, rfl⟩
  rw [pk, if_pos h]; rfl
 ·refine tri_skip (tT (tS (tR (tM rfl rfl (tM rfl rfl ?_)))))
  refine tri_v (by first | exact opv_remE rfl rfl (by omega) (by omega) | exact opv_rem rfl rfl (by omega) rfl) rfl ?_
  refine tA rfl rfl (tN (tT (tri_ret ?_)))
  refine tri_end A Suf.h rfl (.cons (rv_tmp rfl) .nil) ⟨?_, rfl, rfl⟩
  rw [pk, if_neg h]; rfl
set_option maxRecDepth 100000 in
theorem law01_setA {l : List Cell} {a : Option Addr} {cap : Nat} (hs : SlAt I a l) (hc : RL.Cs l) :
  FnC Try.prog 11 [.slice a l.length cap].toArray A I (fun v A' I' => ∃ a' cap', v = .slice a' (RL.set l).length cap' ∧ StA I' a' cap' (RL.set l) ∧ A = A' ∧ I ⊆ I') := by
 refine fn_enter1 Try.func11 rfl Try.ntmps11 rfl fun w0 => ?_
 refine tS (tR (tA rfl rfl (tN (tT (tS (tR (tA rfl rfl ?_)))))))
 refine tN (tT (tS (tS (tR (tA rfl rfl (tN (tT ?_)))))))
 refine tri_block ?_
 refine tri_sub (F' := [(0, .slice a l.length cap), (3, .slice none 0 0), (4, .int .i64 (0 : Nat))]) ⟨rfl, rfl, rfl, trivial⟩ ?_
 refine loop_ind (G := Nat × Option Addr × Nat × List Chunk) (fun g => 60 - g.1) (fun g => g.1 ≤ l.length ∧ g.1 ≤ 60 ∧ StA g.2.2.2 g.2.1 g.2.2.1 (R1.puts ((l.take g.1).map RL.cell16)) ∧ I ⊆ g.2.2.2) (fun g => [(0, .slice a l.length cap), (3, .slice g.2.1 (R1.puts ((l.take g.1).map RL.cell16)).length g.2.2.1), (4, .int .i64 (g.1 : Nat))]) (fun _ => A) (fun g => g.2.2.2) ?_ (0, none, 0, I) ⟨by omega, by omega, StA.nil, fun _ h => h⟩
 rintro ⟨i, a1, cap1, I1⟩ ⟨hi, hi6, hs1, hI1⟩ K hK
 simp only at hi hi6 hs1 hI1 hK ⊢
 have hsm : SlAt I1 a l := hs.mono hI1
 have fin : i = l.length ∨ i = 60 → RL.set l = R1.puts ((l.take i).map RL.cell16) := by
  rintro (rfl | rfl)
  ·unfold RL.set
   rw [List.take_length, List.take_of_length_le (by omega)]
  ·rfl
 skip
 refine tS (tS (tR (tM rfl rfl (tM rfl rfl ?_))))
 refine tri_v (opv_len rfl) rfl ?_
 refine tri_v (opv_lss rfl rfl) rfl ?_
 refine tM rfl rfl ?_
 refine tri_split rfl rfl (fun h => ?_) (fun h => ?_)
 ·refine tri_guard_run rfl rfl rfl (tM rfl rfl (tri_guard_run rfl rfl rfl ?_))
  refine tri_v (opv_lss rfl rfl) rfl ?_
  refine tri_v (by first | exact opv_pick_t rfl rfl | exact opv_pick_f rfl rfl | exact opv_pick_bool rfl rfl rfl | exact opv_pick rfl rfl rfl) rfl ?_
  refine tN (tT ?_)
  refine tri_cond_dec rfl (fun h2 => ?_) (fun h2 => ?_)
  ·refine tri_skip (tT (tS (tri_block ?_)))
   refine tri_draw [0, 1, 2, 3, 4, 5, 8, 9, 10, 11, 12, 6, 7, 13, 14, 15, 16, 17] rfl [] rfl mixed ?_
   refine th_take rfl rfl (by kernel_rfl)  (opv_move rfl) ?_
   refine th_take rfl rfl (by kernel_rfl)  (opv_move rfl) ?_
   refine th_take rfl rfl (by kernel_rfl)  (opv_move rfl) ?_
   refine th_take rfl rfl (by kernel_rfl)  (by first | exact opv_indexAddrA rfl rfl (by first | decide | omega) (by first | decide | omega) | exact opv_indexAddrSN rfl rfl (by omega) (by assumption) rfl | exact opv_indexAddrS rfl rfl (by omega) (by omega) (by assumption) rfl | exact opv_indexAddrE rfl (by assumption) (by omega) rfl (by first | decide | omega) (by first | decide | omega) | exact opv_indexAddrRN rfl rfl (by omega) | exact opv_indexAddrR rfl rfl (by omega) (by omega) | exact opv_indexAddrRA rfl (by omega) rfl (by first | decide | omega) (by first | decide | omega) | exact opv_indexAddrSP rfl rfl (by omega) (by omega) | exact opv_indexAddrSN rfl rfl (by omega) (by assumption) (by omega) | exact opv_indexAddrS rfl rfl (by omega) (by omega) (by assumption) (by omega)) ?_
   refine th_take rfl rfl (by kernel_rfl)  (by first | exact opv_indexAddrA rfl rfl (by first | decide | omega) (by first | decide | omega) | exact opv_indexAddrSN rfl rfl (by omega) (by assumption) rfl | exact opv_indexAddrS rfl rfl (by omega) (by omega) (by assumption) rfl | exact opv_indexAddrE rfl (by assumption) (by omega) rfl (by first | decide | omega) (by first | decide | omega) | exact opv_indexAddrRN rfl rfl (by omega) | exact opv_indexAddrR rfl rfl (by omega) (by omega) | exact opv_indexAddrRA rfl (by omega) rfl (by first | decide | omega) (by first | decide | omega) | exact opv_indexAddrSP rfl rfl (by omega) (by omega) | exact opv_indexAddrSN rfl rfl (by omega) (by assumption) (by omega) | exact opv_indexAddrS rfl rfl (by omega) (by omega) (by assumption) (by omega)) ?_
   refine th_take rfl rfl (by kernel_rfl)  (by first | exact opv_load1 rfl rfl rfl | exact opv_loadA rfl rfl rfl | exact opv_loadE1 rfl (by assumption) rfl (by omega) rfl rfl | exact opv_loadEA rfl (by assumption) rfl (by omega) rfl rfl | exact opv_loadRX1 rfl rfl (by omega) rfl rfl | exact opv_loadRXA rfl rfl (by omega) rfl rfl rfl | exact opv_loadIX rfl rfl (by omega) | exact opv_loadR1 rfl rfl rfl | exact opv_loadRA rfl rfl rfl rfl) ?_
   refine th_take rfl rfl (by kernel_rfl)  (opv_move rfl) ?_
   refine th_take rfl rfl (by kernel_rfl)  (opv_move rfl) ?_
   refine th_take rfl rfl (by kernel_rfl)  (by first | exact opv_indexAddrA rfl rfl (by first | decide | omega) (by first | decide | omega) | exact opv_indexAddrSN rfl rfl (by omega) (by assumption) rfl | exact opv_indexAddrS rfl rfl (by omega) (by omega) (by assumption) rfl | exact opv_indexAddrE rfl (by assumption) (by omega) rfl (by first | decide | omega) (by first | decide | omega) | exact opv_indexAddrRN rfl rfl (by omega) | exact opv_indexAddrR rfl rfl (by omega) (by omega) | exact opv_indexAddrRA rfl (by omega) rfl (by first | decide | omega) (by first | decide | omega) | exact opv_indexAddrSP rfl rfl (by omega) (by omega) | exact opv_indexAddrSN rfl rfl (by omega) (by assumption) (by omega) | exact opv_indexAddrS rfl rfl (by omega) (by omega) (by assumption) (by omega)) ?_
   refine th_take rfl rfl (by kernel_rfl)  (by first | exact opv_indexAddrA rfl rfl (by first | decide | omega) (by first | decide | omega) | exact opv_indexAddrSN rfl rfl (by omega) (by assumption) rfl | exact opv_indexAddrS rfl rfl (by omega) (by omega) (by assumption) rfl | exact opv_indexAddrE rfl (by assumption) (by omega) rfl (by first | decide | omega) (by first | decide | omega) | exact opv_indexAddrRN rfl rfl (by omega) | exact opv_indexAddrR rfl rfl (by omega) (by omega) | exact opv_indexAddrRA rfl (by omega) rfl (by first | decide | omega) (by first | decide | omega) | exact opv_indexAddrSP rfl rfl (by omega) (by omega) | exact opv_indexAddrSN rfl rfl (by omega) (by assumption) (by omega) | exact opv_indexAddrS rfl rfl (by omega) (by omega) (by assumption) (by omega)) ?_
   refine th_take rfl rfl (by kernel_rfl)  (by first | exact opv_load1 rfl rfl rfl | exact opv_loadA rfl rfl rfl | exact opv_loadE1 rfl (by assumption) rfl (by omega) rfl rfl | exact opv_loadEA rfl (by assumption) rfl (by omega) rfl rfl | exact opv_loadRX1 rfl rfl (by omega) rfl rfl | exact opv_loadRXA rfl rfl (by omega) rfl rfl rfl | exact opv_loadIX rfl rfl (by omega) | exact opv_loadR1 rfl rfl rfl | exact opv_loadRA rfl rfl rfl rfl) ?_
   have hlt : i < l.length := by omega
   have hci := hc i hlt
   have hcx := hci.1
   have hcy := hci.2
   have px := pk_bd (c := (l.getD i default).x) (n := 16) (by omega)
   have py := pk_bd (c := (l.getD i default).y) (n := 16) (by omega)
   have hl1 := R1.puts_len ((l.take i).map RL.cell16)
   rw [List.length_map, List.length_take] at hl1
   refine th_one (by kernel_rfl) (step_m rfl rfl (opg_call (xs := [_, _]) rfl (law01_pick (c := (l.getD i default).x) hcx.1 hcx.2 (by decide))) ?_)
   rintro _ _ _ ⟨rfl, rfl, rfl⟩
   refine ⟨Suf.h, (by first | exact fun _ h => h | assumption | exact fun _ h => (by assumption : _ ⊆ _) ((by assumption : _ ⊆ _) h)), ?_⟩
   refine th_take rfl rfl (by kernel_rfl)  (by first | exact opv_sub rfl rfl (w64 (by omega) (by omega)) | exact opv_sub rfl rfl rfl) ?_
   refine th_one (by kernel_rfl) (step_m rfl rfl (opg_call (xs := [_, _]) rfl (law01_pick (c := (l.getD i default).y) hcy.1 hcy.2 (by decide))) ?_)
   rintro _ _ _ ⟨rfl, rfl, rfl⟩
   refine ⟨Suf.h, (by first | exact fun _ h => h | assumption | exact fun _ h => (by assumption : _ ⊆ _) ((by assumption : _ ⊆ _) h)), ?_⟩
   refine th_take rfl rfl (by kernel_rfl)  (by first | exact opv_sub rfl rfl (w64 (by omega) (by omega)) | exact opv_sub rfl rfl rfl) ?_
   refine th_take rfl rfl (by kernel_rfl)  (by first | exact opv_buildS rfl rfl | exact opv_buildA rfl rfl) ?_
   refine th_one (by kernel_rfl) (step_m rfl rfl (opg_call (xs := [_, _]) rfl (ref01_putA (c := RL.cell16 (l.getD i default)) hs1.sl (by omega))) ?_)
   rintro _ _ I2 ⟨a2, cap2, rfl, hs2, rfl, hI2⟩
   refine ⟨Suf.h, (by first | exact fun _ h => h | assumption | exact fun _ h => (by assumption : _ ⊆ _) ((by assumption : _ ⊆ _) h)), ?_⟩
   refine th_take rfl rfl (by kernel_rfl)  (opv_assign rfl) ?_
   refine th_done (by kernel_rfl) ?_
   refine tri_inBlock ?_
   refine tT (tR (tM rfl rfl ?_))
   refine tri_v (by first | exact opv_add rfl rfl (w64 (by omega) (by omega))) rfl ?_
   refine tA rfl rfl (tN (tT ?_))
   have e : R1.puts ((l.take (i + 1)).map RL.cell16) = R1.put (R1.puts ((l.take i).map RL.cell16)) (RL.cell16 (l.getD i default)) := by
    rw [← R1.puts_snoc, List.take_succ_eq_append_getElem hlt, List.map_append, show l.getD i default = l[i] by simp [hlt]]; rfl
   refine tri_sub ?_ (hK (i + 1, a2, cap2, I2) ⟨by simp only; omega, by simp only; omega, by simp only [e]; exact hs2, fun _ h => hI2 (hI1 h)⟩ (by simp only; omega))
   simp only [e]
   exact ⟨rfl, rfl, rfl, trivial⟩
  ·refine tri_exit ?_
   refine tri_then_exit ?_
   refine tri_then_exit ?_
   refine tri_inBlock_hit rfl ?_
   refine tT (tS (tR (tM rfl rfl (tA rfl rfl (tN (tT (tri_ret ?_)))))))
   refine tri_end A Suf.h rfl (.cons (rv_tmp rfl) .nil) ⟨a1, cap1, ?_, ?_, rfl, hI1⟩
   ·rw [fin (by omega)]; rfl
   ·rw [fin (by omega)]; exact hs1
 ·refine tri_guard_skip rfl rfl rfl rfl (tri_guard_skip rfl rfl rfl rfl ?_)
  refine tri_v (by first | exact opv_pick_t rfl rfl | exact opv_pick_f rfl rfl | exact opv_pick_bool rfl rfl rfl | exact opv_pick rfl rfl rfl) rfl ?_
  refine tN (tT ?_)
  refine tri_cond_false rfl ?_
  refine tri_exit ?_
  refine tri_then_exit ?_
  refine tri_then_exit ?_
  refine tri_inBlock_hit rfl ?_
  refine tT (tS (tR (tM rfl rfl (tA rfl rfl (tN (tT (tri_ret ?_)))))))
  refine tri_end A Suf.h rfl (.cons (rv_tmp rfl) .nil) ⟨a1, cap1, ?_, ?_, rfl, hI1⟩
  ·rw [fin (by omega)]; rfl
  ·rw [fin (by omega)]; exact hs1
theorem law01_set {l : List Cell} {a : Option Addr} {cap : Nat} (hs : SlAt I a l) (hc : RL.Cs l) :
  FnC Try.prog 11 [.slice a l.length cap].toArray A I (fun v A' I' => ∃ a' cap', v = .slice a' (RL.set l).length cap' ∧ SlAt I' a' (RL.set l) ∧ A = A' ∧ I ⊆ I') :=
 (law01_setA hs hc).mono fun v A' I' ⟨a', c', h1, h2, h3, h4⟩ => ⟨a', c', h1, h2.sl, h3, h4⟩
end Go.GL


set_option linter.unusedVariables false
namespace Go.GL
/-! ### What chapter 2's laws do with sets -/
namespace R2
def rot (c : Cell) : Cell := ⟨-c.y, c.x⟩
def rotN : Nat → Cell → Cell
 | 0, c => c
 | n + 1, c => rot (rotN n c)
def flipC (k : Int) (c : Cell) : Cell := if 4 ≤ k then ⟨-c.x, c.y⟩ else c
def turnC (way : Int) (c : Cell) : Cell := rotN ((pk way 8).toNat % 4) (flipC (pk way 8) c)
def turned (way : Int) (l : List Cell) : List Cell := R1.puts (l.map (turnC way))
end R2
end Go.GL


set_option linter.unusedVariables false
namespace Go.GL
open Go.Proofs
attribute [local irreducible] wpList Code.wp Exit.then Exit.inBlock Ends Tri TriH OpV OpG FnC epf wpAnyH
variable {A : List Asrt} {I : List Chunk}
end Go.GL


set_option linter.unusedVariables false
namespace Go.GL
open Go.Proofs
attribute [local irreducible] wpList Code.wp Exit.then Exit.inBlock Ends Tri TriH OpV OpG FnC epf wpAnyH
variable {A : List Asrt} {I : List Chunk}
set_option maxHeartbeats 2000000 in
set_option maxRecDepth 100000 in
theorem law02_awake : FnC Try.prog 10 [].toArray A I (fun v A' I' => v = .bool true ∧ A = A' ∧ I ⊆ I') := by
 have e1 : (R2.next [⟨0, 0⟩, ⟨1, 0⟩, ⟨2, 0⟩]).2 = 0 ∧ (R2.next [⟨0, 0⟩, ⟨1, 0⟩, ⟨2, 0⟩]).1.length = 3 ∧ (R2.next [⟨0, 0⟩, ⟨1, 0⟩, ⟨2, 0⟩]).1.getD 0 default = ⟨1, -1⟩ := by decide +kernel
 have e2 : (R2.run [⟨0, 0⟩, ⟨1, 0⟩, ⟨2, 0⟩] 4).2 = 0 ∧ (R2.run [⟨0, 0⟩, ⟨1, 0⟩, ⟨2, 0⟩] 4).1.length = 3 ∧ (R2.run [⟨0, 0⟩, ⟨1, 0⟩, ⟨2, 0⟩] 4).1.getD 2 default = ⟨2, 0⟩ := by decide +kernel
 have e3 : (R2.next [⟨0, 0⟩, ⟨0, 0⟩]).2 = 1 := by decide +kernel
 have e4 : (R2.run [] 1001).2 = 1 := by decide +kernel
 skip
 skip
 refine fn_enter0 Try.func10 rfl Try.ntmps10 rfl fun w0 => ?_
 refine tS (tR (tA rfl rfl (tN (tT (tS (tR ?_))))))
 refine tri_v (by first | exact opv_buildS rfl rfl | exact opv_buildA rfl rfl) rfl ?_
 refine tri_v (by first | exact opv_buildS rfl rfl | exact opv_buildA rfl rfl) rfl ?_
 refine tri_v (by first | exact opv_buildS rfl rfl | exact opv_buildA rfl rfl) rfl ?_
 refine tri_g (opg_buildSlice rfl rfl rfl rfl) rfl ?_
 rintro _ _ _ ⟨b13, rfl, rfl, rfl⟩
 refine tri_freezeBoxS ([⟨0, 0⟩, ⟨1, 0⟩, ⟨2, 0⟩] : List Cell) rfl fun J1 hJ1 hs1 => ?_
 refine tri_g (opg_call (xs := [_]) rfl (life_next hs1 (by decide))) rfl ?_
 rintro _ _ I1 ⟨a1, c1, rfl, hr1, rfl, hI1⟩
 generalize R2.next [⟨0, 0⟩, ⟨1, 0⟩, ⟨2, 0⟩] = n1 at *
 obtain ⟨e1, e1b, e1c⟩ := e1
 rw [e1]
 refine tM rfl rfl ?_
 refine tri_v (opv_extract rfl rfl) rfl ?_
 refine tri_v (opv_extract rfl rfl) rfl ?_
 refine tA rfl rfl (tA rfl rfl (tN (tT (tS (tR ?_)))))
 refine tri_v (by first | exact opv_buildS rfl rfl | exact opv_buildA rfl rfl) rfl ?_
 refine tri_v (by first | exact opv_buildS rfl rfl | exact opv_buildA rfl rfl) rfl ?_
 refine tri_v (by first | exact opv_buildS rfl rfl | exact opv_buildA rfl rfl) rfl ?_
 refine tri_g (opg_buildSlice rfl rfl rfl rfl) rfl ?_
 rintro _ _ _ ⟨b21, rfl, rfl, rfl⟩
 refine tri_freezeBoxS ([⟨0, 0⟩, ⟨1, 0⟩, ⟨2, 0⟩] : List Cell) rfl fun J2 hJ2 hs2 => ?_
 refine tri_g (opg_call (xs := [_, _]) rfl (life_run hs2 (by decide))) rfl ?_
 rintro _ _ I2 ⟨a2, c2, rfl, hr2, rfl, hI2⟩
 generalize R2.run [⟨0, 0⟩, ⟨1, 0⟩, ⟨2, 0⟩] 4 = n2 at *
 obtain ⟨e2, e2b, e2c⟩ := e2
 rw [e2]
 refine tM rfl rfl ?_
 refine tri_v (opv_extract rfl rfl) rfl ?_
 refine tri_v (opv_extract rfl rfl) rfl ?_
 refine tA rfl rfl (tA rfl rfl (tN (tT (tS (tR ?_)))))
 refine tri_v (by first | exact opv_buildS rfl rfl | exact opv_buildA rfl rfl) rfl ?_
 refine tri_v (by first | exact opv_buildS rfl rfl | exact opv_buildA rfl rfl) rfl ?_
 refine tri_g (opg_buildSlice rfl rfl rfl rfl) rfl ?_
 rintro _ _ _ ⟨b28, rfl, rfl, rfl⟩
 refine tri_freezeBoxS ([⟨0, 0⟩, ⟨0, 0⟩] : List Cell) rfl fun J3 hJ3 hs3 => ?_
 refine tri_g (opg_call (xs := [_]) rfl (life_next hs3 (by decide))) rfl ?_
 rintro _ _ I3 ⟨a3, c3, rfl, hr3, rfl, hI3⟩
 rw [e3]
 refine tM rfl rfl ?_
 refine tri_v (opv_extract rfl rfl) rfl ?_
 refine tri_v (opv_extract rfl rfl) rfl ?_
 refine tA rfl rfl (tA rfl rfl (tN (tT (tS (tR ?_)))))
 refine tri_g (opg_call (xs := [_, _]) rfl (life_run (l := []) SlAt.nil (by decide))) rfl ?_
 rintro _ _ I4 ⟨a4, c4, rfl, hr4, rfl, hI4⟩
 rw [e4]
 have q1 := hr1.mono (fun _ h => hI4 (hI3 (hJ3 (hI2 (hJ2 h)))))
 have q2 := hr2.mono (fun _ h => hI4 (hI3 (hJ3 h)))
 have l1 : R2.lives true 2 = true := by decide
 have l2 : R2.lives false 2 = false := by decide
 have l3 : R2.lives false 3 = true := by decide
 have l4 : R2.lives true 4 = false := by decide
 refine tM rfl rfl ?_
 refine tri_v (opv_extract rfl rfl) rfl ?_
 refine tri_v (opv_extract rfl rfl) rfl ?_
 refine tA rfl rfl (tA rfl rfl (tN (tT (tS (tS (tR (tM rfl rfl ?_)))))))
 refine tri_v (opv_len rfl) rfl ?_
 refine tri_v (by first | exact opv_neq rfl rfl | exact opv_neqI rfl rfl rfl rfl rfl rfl | exact opv_neqB rfl rfl) rfl ?_
 refine tM rfl rfl ?_
 refine tri_false rfl rfl ((by omega)) ?_
 refine tri_guard_run rfl rfl rfl (tM rfl rfl (tri_guard_run rfl rfl rfl ?_))
 refine tri_v (opv_len rfl) rfl ?_
 refine tri_guard_run rfl rfl rfl ?_
 refine tri_v (by first | exact opv_neq rfl rfl | exact opv_neqI rfl rfl rfl rfl rfl rfl | exact opv_neqB rfl rfl) rfl ?_
 refine tri_v (by first | exact opv_pick_t rfl rfl | exact opv_pick_f rfl rfl | exact opv_pick_bool rfl rfl rfl | exact opv_pick rfl rfl rfl) rfl ?_
 refine tN (tT ?_)
 refine tri_cond_not rfl ((by omega)) ?_
 refine tri_skip (tT (tS (tR (tM rfl rfl ?_))))
 refine tri_v (by first | exact opv_eql rfl rfl | exact opv_eqlI rfl rfl rfl rfl rfl rfl | exact opv_eqlB rfl rfl | exact opv_eqlNil rfl rfl) rfl ?_
 refine tM rfl rfl ?_
 refine tri_true rfl rfl ((by decide)) ?_
 refine tri_guard_run rfl rfl rfl (tM rfl rfl (tri_guard_run rfl rfl rfl ?_))
 refine tri_v (by first | exact opv_indexAddrA rfl rfl (by first | decide | omega) (by first | decide | omega) | exact opv_indexAddrSN rfl rfl (by omega) (by assumption) rfl | exact opv_indexAddrS rfl rfl (by omega) (by omega) (by assumption) rfl | exact opv_indexAddrE rfl (by assumption) (by omega) rfl (by first | decide | omega) (by first | decide | omega) | exact opv_indexAddrRN rfl rfl (by omega) | exact opv_indexAddrR rfl rfl (by omega) (by omega) | exact opv_indexAddrRA rfl (by omega) rfl (by first | decide | omega) (by first | decide | omega) | exact opv_indexAddrSP rfl rfl (by omega) (by omega) | exact opv_indexAddrSN rfl rfl (by omega) (by assumption) (by omega) | exact opv_indexAddrS rfl rfl (by omega) (by omega) (by assumption) (by omega)) rfl ?_
 refine tri_guard_run rfl rfl rfl ?_
 refine tri_v (by first | exact opv_load1 rfl rfl rfl | exact opv_loadA rfl rfl rfl | exact opv_loadE1 rfl (by assumption) rfl (by omega) rfl rfl | exact opv_loadEA rfl (by assumption) rfl (by omega) rfl rfl | exact opv_loadRX1 rfl rfl (by omega) rfl rfl | exact opv_loadRXA rfl rfl (by omega) rfl rfl rfl | exact opv_loadIX rfl rfl (by omega) | exact opv_loadR1 rfl rfl rfl | exact opv_loadRA rfl rfl rfl rfl) rfl ?_
 refine tri_guard_run rfl rfl rfl ?_
 refine tri_v (by first | exact opv_buildS rfl rfl | exact opv_buildA rfl rfl) rfl ?_
 refine tri_guard_run rfl rfl rfl ?_
 refine tri_v (by first | exact opv_eql rfl rfl | exact opv_eqlI rfl rfl rfl rfl rfl rfl | exact opv_eqlB rfl rfl | exact opv_eqlNil rfl rfl) rfl ?_
 refine tri_v (by first | exact opv_pick_t rfl rfl | exact opv_pick_f rfl rfl | exact opv_pick_bool rfl rfl rfl | exact opv_pick rfl rfl rfl) rfl ?_
 refine tM rfl rfl ?_
 refine tri_true rfl rfl ((by show [(n1.1.getD 0 default).x, (n1.1.getD 0 default).y] = _; rw [e1c])) ?_
 refine tri_guard_run rfl rfl rfl (tM rfl rfl (tri_guard_run rfl rfl rfl ?_))
 refine tri_v (by first | exact opv_eql rfl rfl | exact opv_eqlI rfl rfl rfl rfl rfl rfl | exact opv_eqlB rfl rfl | exact opv_eqlNil rfl rfl) rfl ?_
 refine tri_v (by first | exact opv_pick_t rfl rfl | exact opv_pick_f rfl rfl | exact opv_pick_bool rfl rfl rfl | exact opv_pick rfl rfl rfl) rfl ?_
 refine tM rfl rfl ?_
 refine tri_true rfl rfl ((by decide)) ?_
 refine tri_guard_run rfl rfl rfl (tM rfl rfl (tri_guard_run rfl rfl rfl ?_))
 refine tri_v (by first | exact opv_indexAddrA rfl rfl (by first | decide | omega) (by first | decide | omega) | exact opv_indexAddrSN rfl rfl (by omega) (by assumption) rfl | exact opv_indexAddrS rfl rfl (by omega) (by omega) (by assumption) rfl | exact opv_indexAddrE rfl (by assumption) (by omega) rfl (by first | decide | omega) (by first | decide | omega) | exact opv_indexAddrRN rfl rfl (by omega) | exact opv_indexAddrR rfl rfl (by omega) (by omega) | exact opv_indexAddrRA rfl (by omega) rfl (by first | decide | omega) (by first | decide | omega) | exact opv_indexAddrSP rfl rfl (by omega) (by omega) | exact opv_indexAddrSN rfl rfl (by omega) (by assumption) (by omega) | exact opv_indexAddrS rfl rfl (by omega) (by omega) (by assumption) (by omega)) rfl ?_
 refine tri_guard_run rfl rfl rfl ?_
 refine tri_v (by first | exact opv_load1 rfl rfl rfl | exact opv_loadA rfl rfl rfl | exact opv_loadE1 rfl (by assumption) rfl (by omega) rfl rfl | exact opv_loadEA rfl (by assumption) rfl (by omega) rfl rfl | exact opv_loadRX1 rfl rfl (by omega) rfl rfl | exact opv_loadRXA rfl rfl (by omega) rfl rfl rfl | exact opv_loadIX rfl rfl (by omega) | exact opv_loadR1 rfl rfl rfl | exact opv_loadRA rfl rfl rfl rfl) rfl ?_
 refine tri_guard_run rfl rfl rfl ?_
 refine tri_v (by first | exact opv_buildS rfl rfl | exact opv_buildA rfl rfl) rfl ?_
 refine tri_guard_run rfl rfl rfl ?_
 refine tri_v (by first | exact opv_eql rfl rfl | exact opv_eqlI rfl rfl rfl rfl rfl rfl | exact opv_eqlB rfl rfl | exact opv_eqlNil rfl rfl) rfl ?_
 refine tri_v (by first | exact opv_pick_t rfl rfl | exact opv_pick_f rfl rfl | exact opv_pick_bool rfl rfl rfl | exact opv_pick rfl rfl rfl) rfl ?_
 refine tM rfl rfl ?_
 refine tri_true rfl rfl ((by show [(n2.1.getD 2 default).x, (n2.1.getD 2 default).y] = _; rw [e2c])) ?_
 refine tri_guard_run rfl rfl rfl (tM rfl rfl (tri_guard_run rfl rfl rfl ?_))
 refine tri_v (by first | exact opv_eql rfl rfl | exact opv_eqlI rfl rfl rfl rfl rfl rfl | exact opv_eqlB rfl rfl | exact opv_eqlNil rfl rfl) rfl ?_
 refine tri_v (by first | exact opv_pick_t rfl rfl | exact opv_pick_f rfl rfl | exact opv_pick_bool rfl rfl rfl | exact opv_pick rfl rfl rfl) rfl ?_
 refine tM rfl rfl ?_
 refine tri_true rfl rfl ((by decide)) ?_
 refine tri_guard_run rfl rfl rfl (tM rfl rfl (tri_guard_run rfl rfl rfl ?_))
 refine tri_v (by first | exact opv_eql rfl rfl | exact opv_eqlI rfl rfl rfl rfl rfl rfl | exact opv_eqlB rfl rfl | exact opv_eqlNil rfl rfl) rfl ?_
 refine tri_v (by first | exact opv_pick_t rfl rfl | exact opv_pick_f rfl rfl | exact opv_pick_bool rfl rfl rfl | exact opv_pick rfl rfl rfl) rfl ?_
 refine tM rfl rfl ?_
 refine tri_true rfl rfl ((by decide)) ?_
 skip
 refine tri_guard_run rfl rfl rfl ?_
 refine tri_g (opg_call (xs := [_, _]) rfl (life_lives)) rfl ?_
 rintro _ _ _ ⟨rfl, rfl, rfl⟩
 rw [l1]
 refine tri_v (by first | exact opv_pick_t rfl rfl | exact opv_pick_f rfl rfl | exact opv_pick_bool rfl rfl rfl | exact opv_pick rfl rfl rfl) rfl ?_
 refine tM rfl rfl ?_
 refine tri_bool 75 rfl (fun _ => ?_) (fun h => absurd h (by decide))
 skip
 refine tri_guard_run rfl rfl rfl ?_
 refine tri_g (opg_call (xs := [_, _]) rfl (life_lives)) rfl ?_
 rintro _ _ _ ⟨rfl, rfl, rfl⟩
 rw [l2]
 refine tri_guard_run rfl rfl rfl ?_
 refine tri_v (by first | exact opv_notD rfl | exact opv_not rfl) rfl ?_
 refine tri_v (by first | exact opv_pick_t rfl rfl | exact opv_pick_f rfl rfl | exact opv_pick_bool rfl rfl rfl | exact opv_pick rfl rfl rfl) rfl ?_
 refine tM rfl rfl ?_
 refine tri_bool 79 rfl (fun _ => ?_) (fun h => absurd h (by decide))
 skip
 refine tri_guard_run rfl rfl rfl ?_
 refine tri_g (opg_call (xs := [_, _]) rfl (life_lives)) rfl ?_
 rintro _ _ _ ⟨rfl, rfl, rfl⟩
 rw [l3]
 refine tri_v (by first | exact opv_pick_t rfl rfl | exact opv_pick_f rfl rfl | exact opv_pick_bool rfl rfl rfl | exact opv_pick rfl rfl rfl) rfl ?_
 refine tM rfl rfl ?_
 refine tri_bool 82 rfl (fun _ => ?_) (fun h => absurd h (by decide))
 skip
 refine tri_guard_run rfl rfl rfl ?_
 refine tri_g (opg_call (xs := [_, _]) rfl (life_lives)) rfl ?_
 rintro _ _ _ ⟨rfl, rfl, rfl⟩
 rw [l4]
 refine tri_guard_run rfl rfl rfl ?_
 refine tri_v (by first | exact opv_notD rfl | exact opv_not rfl) rfl ?_
 refine tri_v (by first | exact opv_pick_t rfl rfl | exact opv_pick_f rfl rfl | exact opv_pick_bool rfl rfl rfl | exact opv_pick rfl rfl rfl) rfl ?_
 refine tA rfl rfl (tN (tT (tri_ret ?_)))
 refine tri_end A Suf.h rfl (.cons (rv_tmp rfl) .nil) ⟨rfl, rfl, fun _ h => hI4 (hI3 (hJ3 (hI2 (hJ2 (hI1 (hJ1 h))))))⟩
end Go.GL


set_option linter.unusedVariables false
namespace Go.GL
/-! ### Shift and Box, as the document has them -/
namespace R1
def mv (dx dy : Int) (c : Cell) : Cell := ⟨c.x + dx, c.y + dy⟩
def shift (l : List Cell) (dx dy : Int) : List Cell × Int :=
 if right l then (if ∀ i, i < l.length → inB (mv dx dy (g l i)) then (l.map (mv dx dy), 0) else ([], 2)) else ([], 1)
def mnC (a b : Cell) : Cell := ⟨if b.x < a.x then b.x else a.x, if b.y < a.y then b.y else a.y⟩
def mxC (a b : Cell) : Cell := ⟨if a.x < b.x then b.x else a.x, if a.y < b.y then b.y else a.y⟩
def lo (l : List Cell) (c : Cell) : Cell := l.foldl mnC c
def hi (l : List Cell) (c : Cell) : Cell := l.foldl mxC c
structure Rect where
 x : Int
 y : Int
 w : Int
 h : Int
 deriving DecidableEq, Inhabited
def box (l : List Cell) : Rect × Bool :=
 if l.length = 0 ∨ ¬ right l then (⟨0, 0, 0, 0⟩, false)
 else (⟨(lo l (g l 0)).x, (lo l (g l 0)).y, (hi l (g l 0)).x - (lo l (g l 0)).x + 1, (hi l (g l 0)).y - (lo l (g l 0)).y + 1⟩, true)
/-- Where the least and greatest are. -/
def bdC (c : Cell) : Prop := -1099511627776 ≤ c.x ∧ c.x ≤ 1099511627776 ∧ -1099511627776 ≤ c.y ∧ c.y ≤ 1099511627776
end R1
end Go.GL


set_option linter.unusedVariables false
namespace Go.GL
open Go.Proofs
attribute [local irreducible] wpList Code.wp Exit.then Exit.inBlock Ends Tri TriH OpV OpG FnC epf wpAnyH
variable {A : List Asrt} {I : List Chunk}
end Go.GL


set_option linter.unusedVariables false
namespace Go.GL
namespace R6
/-- A store behind what was made in it, or as it was. -/
def told (ns : List Node) (room : Int) (r : List Node × Int × Int) : List Node × Int × Int := if right ns room then (if r.2.2 ≠ 0 then (ns, 0, r.2.2) else r) else (ns, 0, 1)
def emptyT (ns : List Node) (room lv : Int) : List Node × Int × Int := if lv < 0 ∨ 42 < lv then (ns, 0, 1) else told ns room (R7.empty ns room lv.toNat)
/-! #### what is live -/
def keepKids (keep : List Bool) (x : Node) : List Bool := (((keep.set x.k0.toNat true).set x.k1.toNat true).set x.k2.toNat true).set x.k3.toNat true
/-- From the node m + 1 down. -/
def keepDown (ns : List Node) : Nat → List Bool → List Bool
 | 0, keep => keep
 | m + 1, keep => keepDown ns m (if keep.getD (m + 2) default = true then keepKids keep (ns.getD (m + 2) default) else keep)
def keepRoots (n : Nat) (roots : List Int) : List Bool := roots.foldl (fun keep r => keep.set r.toNat true) (((List.replicate n false).set 0 true).set 1 true)
def kept (ns : List Node) (roots : List Int) : List Bool := keepDown ns (ns.length - 2) (keepRoots ns.length roots)
def mapKids (to : List Int) (x : Node) : Node := ⟨x.lv, to.getD x.k0.toNat default, to.getD x.k1.toNat default, to.getD x.k2.toNat default, to.getD x.k3.toNat default, x.pop⟩
def liveStep (ns : List Node) (keep : List Bool) (s : List Int × List Node) (i : Nat) : List Int × List Node := if keep.getD i default = true then (s.1.set i (s.2.length : Nat), s.2 ++ [mapKids s.1 (ns.getD i default)]) else s
def liveAll (ns : List Node) (keep : List Bool) : List Int × List Node := (List.range ns.length).foldl (liveStep ns keep) (List.replicate ns.length 0, [])
/-- A store, places, an error. -/
def live (ns : List Node) (room : Int) (roots : List Int) : List Node × List Int × Int :=
 if right ns room ∧ ∀ i, i < roots.length → inS ns (roots.getD i default) then ((liveAll ns (kept ns roots)).2, roots.map fun r => (liveAll ns (kept ns roots)).1.getD r.toNat default, 0) else (ns, [], 1)
end R6
end Go.GL
namespace Go.GL
namespace R6
theorem right.kid {ns : List Node} {room : Int} (h : right ns room) {i : Nat} (hi : i < ns.length) :
  (0 ≤ (ns.getD i default).k0 ∧ (ns.getD i default).k0 < ns.length ∧ (2 ≤ i → (ns.getD i default).k0 < i)) ∧ (0 ≤ (ns.getD i default).k1 ∧ (ns.getD i default).k1 < ns.length ∧ (2 ≤ i → (ns.getD i default).k1 < i)) ∧
  (0 ≤ (ns.getD i default).k2 ∧ (ns.getD i default).k2 < ns.length ∧ (2 ≤ i → (ns.getD i default).k2 < i)) ∧ (0 ≤ (ns.getD i default).k3 ∧ (ns.getD i default).k3 < ns.length ∧ (2 ≤ i → (ns.getD i default).k3 < i)) := by
 have h2 := h.1.2.2.1
 by_cases hi2 : 2 ≤ i
 ·obtain ⟨⟨a0, b0, _⟩, ⟨a1, b1, _⟩, ⟨a2, b2, _⟩, ⟨a3, b3, _⟩, _⟩ := h.2 i hi hi2
  refine ⟨⟨a0, by omega, fun _ => b0⟩, ⟨a1, by omega, fun _ => b1⟩, ⟨a2, by omega, fun _ => b2⟩, ⟨a3, by omega, fun _ => b3⟩⟩
 ·rcases (by omega : i = 0 ∨ i = 1) with rfl | rfl
  ·rw [h.1.2.2.2.2.1]
   refine ⟨⟨?_, ?_, ?_⟩, ⟨?_, ?_, ?_⟩, ⟨?_, ?_, ?_⟩, ⟨?_, ?_, ?_⟩⟩ <;> simp [n0] <;> omega
  ·rw [h.1.2.2.2.2.2]
   refine ⟨⟨?_, ?_, ?_⟩, ⟨?_, ?_, ?_⟩, ⟨?_, ?_, ?_⟩, ⟨?_, ?_, ?_⟩⟩ <;> simp [n1] <;> omega
end R6
/-- What a function that tells a store, places and an error comes to. -/
def LiveR (r : List Node × List Int × Int) (room : Int) (A : List Asrt) (I : List Chunk) : Value → List Asrt → List Chunk → Prop :=
 fun v A' I' => ∃ a' c' a2 c2, v = .tuple [storeV a' r.1.length c' room, .slice a2 r.2.1.length c2, .int .i64 r.2.2].toArray ∧ StA I' a' c' r.1 ∧ SlAt I' a2 r.2.1 ∧ A = A' ∧ I ⊆ I'
end Go.GL


set_option linter.unusedVariables false
namespace Go.GL
/-- A store's head. -/
structure Sto where
 a : Option Addr
 len : Nat
 cap : Nat
 room : Int
 deriving Inhabited
instance : Enc Sto := ⟨fun s => [.slice s.a s.len s.cap, .int .i64 s.room], 2, fun _ => rfl, fun _ => rfl⟩
/-- A slice's head. -/
structure Sl where
 a : Option Addr
 len : Nat
 cap : Nat
 deriving Inhabited
instance : Enc Sl := ⟨fun s => [.slice s.a s.len s.cap], 1, fun _ => rfl, fun _ => rfl⟩
/-- Four numbers. -/
structure Four where
 r0 : Int
 r1 : Int
 r2 : Int
 r3 : Int
 deriving DecidableEq, Inhabited
instance : Enc Four := ⟨fun x => [.int .i64 x.r0, .int .i64 x.r1, .int .i64 x.r2, .int .i64 x.r3], 4, fun _ => rfl, fun _ => rfl⟩
instance : Dec Four := ⟨fun xs => ⟨xs.getD 0 0, xs.getD 1 0, xs.getD 2 0, xs.getD 3 0⟩, fun xs h => by
 match xs, h with
 | [a, b, c, d], _ => rfl⟩
namespace R6
end R6
end Go.GL


set_option linter.unusedVariables false
namespace Go.GL
/-- Slices that are read, side by side. -/
def SlsG {α : Type} [Enc α] (I : List Chunk) (LS : List Sl) (LL : List (List α)) : Prop := LS.length = LL.length ∧ ∀ i, i < LL.length → SlAt I (LS.getD i default).a (LL.getD i []) ∧ (LS.getD i default).len = (LL.getD i []).length
section
variable {α : Type} [Enc α] {I J : List Chunk} {LS : List Sl} {LL : List (List α)}
theorem SlsG.mono (h : SlsG I LS LL) (hI : I ⊆ J) : SlsG J LS LL := ⟨h.1, fun i hi => ⟨(h.2 i hi).1.mono hI, (h.2 i hi).2⟩⟩
theorem SlsG.nil : SlsG I [] ([] : List (List α)) := ⟨rfl, fun i hi => absurd hi (Nat.not_lt_zero _)⟩
theorem SlsG.cons {s : Sl} {l : List α} (h : SlsG I LS LL) (hs : SlAt I s.a l) (hl : s.len = l.length) : SlsG I (s :: LS) (l :: LL) := by
 refine ⟨by rw [List.length_cons, List.length_cons, h.1], fun i hi => ?_⟩
 cases i with
 | zero => exact ⟨hs, hl⟩
 | succ i => exact h.2 i (by rw [List.length_cons] at hi; omega)
end
end Go.GL


set_option linter.unusedVariables false
namespace Go.GL
open Go.Proofs
attribute [local irreducible] wpList Code.wp Exit.then Exit.inBlock Ends Tri TriH OpV OpG FnC epf wpAnyH
variable {A : List Asrt} {I : List Chunk}
end Go.GL


set_option linter.unusedVariables false
namespace Go.GL
/-! ### Layer 19, as the document has it -/
namespace R19
/-- The i-th task's parent is one. -/
def okAt (l : List Int) (i : Nat) : Prop := (i = 0 → l.getD i default = -1) ∧ (0 < i → 0 ≤ l.getD i default ∧ l.getD i default < i)
instance (l : List Int) (i : Nat) : Decidable (okAt l i) := inferInstanceAs (Decidable (_ ∧ _))
def right (l : List Int) : Prop := (1 ≤ l.length ∧ l.length ≤ 300) ∧ ∀ i, i < l.length → okAt l i
instance (l : List Int) : Decidable (right l) := inferInstanceAs (Decidable (_ ∧ _))
end R19
end Go.GL
namespace Go.GL
namespace R19
/-! ### What the laws make of raw numbers -/
def treeF (raw : List Int) (i : Nat) : List Int := -1 :: (List.range i).map fun j => pk (raw.getD j default) ((j : Int) + 1)
def tree (raw : List Int) : List Int := treeF raw (if raw.length < 39 then raw.length else 39)
def valAt (raw : List Int) (j : Nat) : Int := if j < raw.length then pk (raw.getD j default) 1000 - 300 else j
def vals (raw : List Int) (n : Nat) : List Int := (List.range n).map (valAt raw)
end R19
end Go.GL
namespace Go.GL
/-- How far a task is. -/
structure Frame where
 par : Int
 a : Option Addr
 len : Nat
 cap : Nat
 sum : Int
 left : Int
 deriving Inhabited
instance : Enc Frame := ⟨fun s => [.int .i64 s.par, .slice s.a s.len s.cap, .int .i64 s.sum, .int .i64 s.left], 4, fun _ => rfl, fun _ => rfl⟩
namespace R19
/-- The kids of t among the first i tasks. -/
def kidsTo (p : List Int) (i : Nat) (t : Nat) : List Int := ((List.range i).filter fun j => decide (p.getD j default = (t : Int))).map fun (j : Nat) => (j : Int)
def kids (p : List Int) (t : Nat) : List Int := kidsTo p p.length t
end R19
end Go.GL
namespace Go.GL
namespace R19
def add1 (fs : List Frame) (p t : Nat) : List Frame := fs.set p { fs.getD p default with sum := IntKind.i64.wrap ((fs.getD p default).sum + (fs.getD t default).sum) }
def less1 (fs : List Frame) (p : Nat) : List Frame := fs.set p { fs.getD p default with left := IntKind.i64.wrap ((fs.getD p default).left - 1) }
/-- A task is done: its parent is told; is the first one done? -/
def joinM : Nat → List Frame → Nat → List Frame × Bool
 | 0, fs, _ => (fs, false)
 | f + 1, fs, t =>
  if (fs.getD t default).par < 0 then (fs, true) else
  if ((less1 (add1 fs (fs.getD t default).par.toNat t) (fs.getD t default).par.toNat).getD (fs.getD t default).par.toNat default).left = 0 then joinM f (less1 (add1 fs (fs.getD t default).par.toNat t) (fs.getD t default).par.toNat) (fs.getD t default).par.toNat
  else (less1 (add1 fs (fs.getD t default).par.toNat t) (fs.getD t default).par.toNat, false)
end R19
end Go.GL
namespace Go.GL
namespace R19
/-! ### Deques -/
/-- Where the first deque is that is not empty, from the j-th one behind w on. -/
def findF (D : List (List Int)) (w : Nat) : Nat → Nat → Option Nat
 | 0, _ => none
 | f + 1, j => if (D.getD ((w + j) % D.length) default).length = 0 then findF D w f (j + 1) else some ((w + j) % D.length)
/-- The task that a worker takes, and what is left. -/
def takeM (D : List (List Int)) (w : Nat) : Int × List (List Int) :=
 if 0 < (D.getD w default).length then ((D.getD w default).getD ((D.getD w default).length - 1) default, D.set w ((D.getD w default).take ((D.getD w default).length - 1)))
 else match findF D w D.length 0 with
  | some k => ((D.getD k default).getD 0 default, D.set k ((D.getD k default).drop 1))
  | none => (-1, D)
end R19
end Go.GL


set_option linter.unusedVariables false
namespace Go.GL
/-! ### Layer 11, as the document has it -/
namespace R11
/-- Those that are left, from the i-th one on. -/
def allF : Nat → List Int → List Int
 | _, [] => []
 | i, n :: l => if 0 < n then (i : Int) :: allF (i + 1) l else allF (i + 1) l
def all (left : List Int) : List Int := allF 0 left
/-- Where the first one is of which p is true. -/
def idx (p : Int → Bool) (l : List Int) : Int := if l.findIdx p < l.length then (l.findIdx p : Int) else -1
def round (a : List Int) (last : Int) : Int := if 0 ≤ idx (fun i => decide (last < i)) a ∧ 0 ≤ last then a.getD (idx (fun i => decide (last < i)) a).toNat default else a.getD 0 default
def next (picks : List Int) (step : Int) (left : List Int) (last : Int) : Int :=
 if (all left).length = 0 then -1 else
 if 0 ≤ step ∧ step < picks.length then (all left).getD (pk (picks.getD step.toNat default) (all left).length).toNat default
 else round (all left) last
def dec (left : List Int) (i : Int) : List Int := left.set i.toNat (left.getD i.toNat default - 1)
def turnsF (picks : List Int) : Nat → Nat → List Int → Int → List Int
 | 0, _, _, _ => []
 | f + 1, s, left, last => if next picks s left last < 0 then [] else next picks s left last :: turnsF picks f (s + 1) (dec left (next picks s left last)) (next picks s left last)
def turns (picks left : List Int) : List Int := turnsF picks 100000 0 left (-1)
theorem allF_mem : ∀ {l : List Int} {i : Nat} {q : Int}, q ∈ allF i l ↔ ∃ j : Nat, j < l.length ∧ q = ((i + j : Nat) : Int) ∧ 0 < l.getD j default
 | [], i, q => by simp [allF]
 | n :: l, i, q => by
  have ih := allF_mem (l := l) (i := i + 1) (q := q)
  have key : (∃ j : Nat, j < (n :: l).length ∧ q = ((i + j : Nat) : Int) ∧ 0 < (n :: l).getD j default) ↔ (q = (i : Int) ∧ 0 < n) ∨ ∃ j : Nat, j < l.length ∧ q = ((i + 1 + j : Nat) : Int) ∧ 0 < l.getD j default := by
   constructor
   ·rintro ⟨j, h1, h2, h3⟩
    cases j with
    | zero => exact .inl ⟨by simpa using h2, by simpa using h3⟩
    | succ j => exact .inr ⟨j, by simpa using h1, by rw [h2]; omega, by simpa using h3⟩
   ·rintro (⟨h1, h2⟩ | ⟨j, h1, h2, h3⟩)
    ·exact ⟨0, by simp, by simpa using h1, by simpa using h2⟩
    ·exact ⟨j + 1, by simpa using h1, by rw [h2]; omega, by simpa using h3⟩
  rw [key, ← ih]
  simp only [allF]
  split
  ·rename_i h
   simp [h]
  ·rename_i h
   simp [h]
theorem mem_all {l : List Int} {q : Int} : q ∈ all l ↔ 0 ≤ q ∧ q < l.length ∧ 0 < l.getD q.toNat default := by
 unfold all
 rw [allF_mem]
 constructor
 ·rintro ⟨j, h1, rfl, h3⟩
  refine ⟨by omega, by omega, ?_⟩
  simpa using h3
 ·rintro ⟨h1, h2, h3⟩
  exact ⟨q.toNat, by omega, by omega, h3⟩
theorem allF_srt : ∀ (l : List Int) (i : Nat), (allF i l).Pairwise (· < ·) ∧ ∀ q ∈ allF i l, (i : Int) ≤ q
 | [], i => by simp [allF]
 | n :: l, i => by
  have ih := allF_srt l (i + 1)
  simp only [allF]
  split
  ·refine ⟨List.pairwise_cons.2 ⟨fun q hq => ?_, ih.1⟩, fun q hq => ?_⟩
   ·have := ih.2 q hq
    omega
   ·rcases List.mem_cons.1 hq with rfl | hq
    ·exact Int.le_refl _
    ·have := ih.2 q hq
     omega
  ·exact ⟨ih.1, fun q hq => by have := ih.2 q hq; omega⟩
theorem all_srt (l : List Int) : (all l).Pairwise (· < ·) := (allF_srt l 0).1
theorem dec_len (l : List Int) (i : Int) : (dec l i).length = l.length := by simp [dec]
theorem idx_some {p : Int → Bool} {l : List Int} (h : 0 ≤ idx p l) : (idx p l).toNat < l.length ∧ p (l.getD (idx p l).toNat default) = true ∧ ∀ j, j < (idx p l).toNat → p (l.getD j default) = false := by
 unfold idx at *
 split at h
 ·rename_i hl
  rw [if_pos hl]
  refine ⟨by simpa using hl, ?_, ?_⟩
  ·have := List.findIdx_getElem (w := hl)
   simpa [hl] using this
  ·intro j hj
   have hj' : j < l.findIdx p := by simpa using hj
   have := List.not_of_lt_findIdx hj'
   simpa [Nat.lt_trans hj' hl] using this
 ·omega
theorem idx_none {p : Int → Bool} {l : List Int} (h : ¬ 0 ≤ idx p l) : ∀ x ∈ l, p x = false := by
 unfold idx at h
 split at h
 ·omega
 ·rename_i hl
  intro x hx
  have := List.findIdx_eq_length.1 (Nat.le_antisymm List.findIdx_le_length (Nat.not_lt.1 hl)) x hx
  simpa using this
/-- The next one round. -/
theorem round_ok {a : List Int} {last : Int} (hs : a.Pairwise (· < ·)) (h0 : ∀ q ∈ a, 0 ≤ q) (hn : a ≠ []) (hl : -1 ≤ last) : round a last ∈ a ∧ ((last < round a last ∧ ∀ j ∈ a, last < j → round a last ≤ j) ∨ ((∀ j ∈ a, j ≤ last) ∧ ∀ j ∈ a, round a last ≤ j)) := by
 have hpos : 0 < a.length := List.length_pos_iff.2 hn
 have hle : ∀ i j, (hij : i ≤ j) → (hj : j < a.length) → a[i]'(by omega) ≤ a[j] := fun i j hij hj => by
  rcases Nat.lt_or_eq_of_le hij with h | rfl
  ·have := List.pairwise_iff_getElem.1 hs i j (by omega) hj h
   omega
  ·exact Int.le_refl _
 have first : ∀ j ∈ a, a.getD 0 default ≤ j := fun j hj => by
  obtain ⟨i, hi, rfl⟩ := List.getElem_of_mem hj
  have := hle 0 i (by omega) hi
  simpa [hpos] using this
 have m0 : a.getD 0 default ∈ a := by simp [hpos]
 unfold round
 split
 ·rename_i h
  obtain ⟨h1, h2, h3⟩ := idx_some h.1
  generalize (idx (fun i => decide (last < i)) a).toNat = k at *
  refine ⟨by simp [h1], .inl ⟨by simpa using h2, fun j hj hlt => ?_⟩⟩
  obtain ⟨i, hi, rfl⟩ := List.getElem_of_mem hj
  by_cases e : i < k
  ·have := h3 i e
   simp [hi] at this
   omega
  ·have := hle k i (by omega) hi
   simpa [h1] using this
 ·rename_i h
  refine ⟨m0, ?_⟩
  by_cases hlast : 0 ≤ last
  ·have hx := idx_none (fun x => h ⟨x, hlast⟩)
   exact .inr ⟨fun j hj => by have := hx j hj; simpa using this, first⟩
  ·exact .inl ⟨by have := h0 _ m0; omega, fun j hj _ => first j hj⟩
theorem getD_mem {l : List Int} {i : Nat} (h : i < l.length) : l.getD i default ∈ l := by
 rw [List.getD_eq_getElem?_getD, List.getElem?_eq_getElem h]
 exact List.getElem_mem h
theorem next_none {picks left : List Int} {step last : Int} (h : next picks step left last < 0) : all left = [] := by
 unfold next at h
 split at h
 ·rename_i hl; exact List.length_eq_zero_iff.1 hl
 ·rename_i hl
  exfalso
  have hmem : ∀ q ∈ all left, 0 ≤ q := fun q hq => (mem_all.1 hq).1
  have hpos : 0 < (all left).length := by omega
  split at h
  ·have := pk_bd (c := picks.getD step.toNat default) (n := (all left).length) (by omega)
   have hi : (pk (picks.getD step.toNat default) (all left).length).toNat < (all left).length := by omega
   have := hmem _ (getD_mem hi)
   omega
  ·unfold round at h
   split at h
   ·rename_i hk
    have hi := (idx_some hk.1).1
    have := hmem _ (getD_mem hi)
    omega
   ·have := hmem _ (getD_mem hpos)
    omega
theorem next_mem {picks left : List Int} {step last : Int} (h : ¬ next picks step left last < 0) : next picks step left last ∈ all left := by
 unfold next at *
 split at h
 ·exact absurd (by omega) h
 ·rename_i hl
  rw [if_neg hl]
  have hpos : 0 < (all left).length := by omega
  split
  ·have := pk_bd (c := picks.getD step.toNat default) (n := (all left).length) (by omega)
   have hi : (pk (picks.getD step.toNat default) (all left).length).toNat < (all left).length := by omega
   exact getD_mem hi
  ·unfold round
   split
   ·rename_i hk
    exact getD_mem (idx_some hk.1).1
   ·exact getD_mem hpos
theorem next_ok {picks left : List Int} {step last : Int} (h : ¬ next picks step left last < 0) : 0 ≤ next picks step left last ∧ next picks step left last < left.length ∧ 0 < left.getD (next picks step left last).toNat default := mem_all.1 (next_mem h)
end R11
end Go.GL

