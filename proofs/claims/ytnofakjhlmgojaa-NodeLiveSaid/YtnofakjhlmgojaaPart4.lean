/- Part 4: contracts of the functions that the law reaches: each answers as its model does. No condition beyond those that each theorem states. -/
import Derived.Test.YtnofakjhlmgojaaPart3
set_option linter.unusedVariables false
namespace Go.GL
open R6 R7
/-! ### What the laws' squares are -/
namespace RL
theorem new_wf : Wf [n0, n1] := ⟨by decide, rfl, rfl, fun i hi h2 => absurd hi (by simp; omega)⟩
theorem putRaw_ok {rm : Int} (h2 : 2 ≤ rm) (h3 : rm ≤ 100000) {ns : List Node} (h : Wf ns) (hl : (ns.length : Int) ≤ rm) (r : Five) : Wf (putRaw rm ns r) ∧ ((putRaw rm ns r).length : Int) ≤ rm ∧ ns <+: putRaw rm ns r := by
 unfold putRaw intern
 rw [if_pos (right_iff.2 ⟨⟨h2, h3, hl⟩, h⟩)]
 exact ⟨(put_wf h _ _ _ _ _).1, put_room hl _ _ _ _, (put_wf h _ _ _ _ _).2⟩
theorem foldl_ok {rm : Int} (h2 : 2 ≤ rm) (h3 : rm ≤ 100000) : ∀ (l : List Five) (ns : List Node), Wf ns → (ns.length : Int) ≤ rm → Wf (l.foldl (putRaw rm) ns) ∧ ((l.foldl (putRaw rm) ns).length : Int) ≤ rm
 | [], ns, h, hl => ⟨h, hl⟩
 | r :: l, ns, h, hl => by
  obtain ⟨a, b, _⟩ := putRaw_ok h2 h3 h hl r
  exact foldl_ok h2 h3 l _ a b
theorem store_ok {rm : Int} (h2 : 2 ≤ rm) (h3 : rm ≤ 100000) (l : List Five) : Wf (store rm l) ∧ ((store rm l).length : Int) ≤ rm := foldl_ok h2 h3 _ _ new_wf (by simpa using h2)
theorem cell16_bd (r : Cell) : -8 ≤ (cell16 r).x ∧ (cell16 r).x < 8 ∧ -8 ≤ (cell16 r).y ∧ (cell16 r).y < 8 := by
 have a := pk_bd (c := r.x) (n := 16) (by omega)
 have b := pk_bd (c := r.y) (n := 16) (by omega)
 unfold cell16
 simp only
 omega
theorem mem_set {raw : List Cell} {c : Cell} (h : c ∈ set raw) : -8 ≤ c.x ∧ c.x < 8 ∧ -8 ≤ c.y ∧ c.y < 8 := by
 unfold set at h
 rw [R1.mem_puts] at h
 obtain ⟨r, _, rfl⟩ := List.mem_map.1 h
 exact cell16_bd r
theorem set_le (raw : List Cell) : (set raw).length ≤ 60 := by
 have key : ∀ (l acc : List Cell), (l.foldl R1.put acc).length ≤ acc.length + l.length := by
  intro l
  induction l with
  | nil => intro acc; simp
  | cons c l ih =>
   intro acc
   have h1 := ih (R1.put acc c)
   have h2 := R1.put_len acc c
   simp only [List.foldl_cons, List.length_cons]
   omega
 have := key ((raw.take 60).map cell16) []
 rw [List.length_map, List.length_take] at this
 unfold set R1.puts
 simp only [List.length_nil] at this
 omega
theorem set_right (raw : List Cell) : R1.right (set raw) := R1.right_of (R1.puts_srt _) (fun c hc => by have := mem_set hc; unfold R1.inB; omega) (by have := set_le raw; omega)
theorem p8 {lv : Nat} (h : 3 ≤ lv) : (8:Int) ≤ 2 ^ lv := by
 have h2 : (2:Nat) ^ 3 ≤ 2 ^ lv := Nat.pow_le_pow_right (by omega) h
 have h3 : (2:Int) ^ lv = ((2 ^ lv : Nat) : Int) := by simp
 rw [h3]; omega
/-- The raw square: a node of the set's cells. -/
structure Sq (c : Int) (nodes : List Five) (raw : List Cell) (level : Int) (lv : Nat) (ms : List Node) (m : Int) : Prop where
 lv3 : 3 ≤ lv ∧ lv ≤ 6
 lve : ((lv + 1 : Nat) : Int) = 4 + pk level 4
 eq : square c nodes raw level = (ms, m, 0)
 wf : Wf ms
 is : IsN ms (lv + 1) m
 len : (ms.length : Int) ≤ room c + 427
 pre : store (room c) nodes <+: ms
 sem : ∀ d : Cell, inL ((lv + 1 : Nat) : Int) d → al ms (lv + 1) m (d.x + 2 ^ lv) (d.y + 2 ^ lv) = decide (d ∈ set raw)
theorem square_ok (c : Int) (nodes : List Five) (raw : List Cell) (level : Int) : ∃ lv ms m, Sq c nodes raw level lv ms m := by
 have hrm := room_bd c
 have hpk := pk_bd (c := level) (n := 4) (by omega)
 obtain ⟨hw, hl⟩ := store_ok (rm := room c) (by omega) (by omega) nodes
 obtain ⟨lv, hlv⟩ : ∃ lv : Nat, ((lv + 1 : Nat) : Int) = 4 + pk level 4 := ⟨(3 + pk level 4).toNat, by omega⟩
 have hs := side_succ lv
 have h8 := p8 (lv := lv) (by omega)
 have hlen := set_le raw
 have hE := E_le (store (room c) nodes) 7
 have hmul : (set raw).length * (lv + 1) ≤ 60 * 7 := Nat.mul_le_mul hlen (by omega)
 obtain ⟨ms, m, e, ok, sem⟩ := make_ok (room := room c + 500) (L := 7) (lv := lv) (by omega) (by omega) (right_iff.2 ⟨⟨by omega, by omega, by omega⟩, hw⟩) (set_right raw) (fun d hd => by have := mem_set hd; unfold inL; rw [hs]; omega) (by omega)
 refine ⟨lv, ms, m, ⟨by omega, hlv, ?_, ok.wf, ok.is, ?_, ok.pre, sem⟩⟩
 ·unfold square; rw [← hlv]; exact e
 ·have := ok.len; omega
end RL
/-! ### Sixteen and nine -/
namespace R8
theorem s16_is {ns : List Node} (h : Wf ns) {lv : Nat} {n : Int} (hn : IsN ns (lv + 2) n) : ∀ i : Int, 0 ≤ i → i < 16 → IsN ns lv (g (s16 ns n) i) := by
 obtain ⟨a, b, c, d⟩ := kids4 h hn
 obtain ⟨a0, a1, a2, a3⟩ := kids4 h a
 obtain ⟨b0, b1, b2, b3⟩ := kids4 h b
 obtain ⟨c0, c1, c2, c3⟩ := kids4 h c
 obtain ⟨d0, d1, d2, d3⟩ := kids4 h d
 intro i h0 h16
 obtain ⟨k, rfl⟩ : ∃ k : Nat, i = k := ⟨i.toNat, by omega⟩
 have hk : k < 16 := by omega
 unfold g s16
 rw [Int.toNat_natCast]
 match k, hk with
 | 0, _ => exact a0
 | 1, _ => exact a1
 | 2, _ => exact b0
 | 3, _ => exact b1
 | 4, _ => exact a2
 | 5, _ => exact a3
 | 6, _ => exact b2
 | 7, _ => exact b3
 | 8, _ => exact c0
 | 9, _ => exact c1
 | 10, _ => exact d0
 | 11, _ => exact d1
 | 12, _ => exact c2
 | 13, _ => exact c3
 | 14, _ => exact d2
 | 15, _ => exact d3
/-- A square of the sixteen. -/
def sqK (l : List Int) (y x : Int) : List Int := [g l (4 * y + x), g l (4 * y + x + 1), g l (4 * y + x + 4), g l (4 * y + x + 5)]
/-- A node that is a square of the sixteen. -/
structure IsSq (ms : List Node) (lv : Nat) (l : List Int) (y x m : Int) : Prop where
 is : IsN ms (lv + 1) m
 kids : (nd ms m).kids = sqK l y x
theorem IsSq.pre {ns ms : List Node} (hp : ns <+: ms) {lv : Nat} {l : List Int} {y x m : Int} (h : IsSq ns lv l y x m) : IsSq ms lv l y x m := ⟨h.is.pre hp, by rw [nd_pre hp h.is.1]; exact h.kids⟩
theorem putSq_ok {ns : List Node} {room : Int} {lv : Nat} (hl : lv + 1 ≤ 42) (h : Wf ns) {l : List Int} (hi : ∀ i : Int, 0 ≤ i → i < 16 → IsN ns lv (g l i)) {y x : Int} (hy : 0 ≤ y ∧ y ≤ 2) (hx : 0 ≤ x ∧ x ≤ 2) (hr : (ns.length : Int) < room) :
  ∃ ms m, putSq ns room l y x = (ms, m, 0) ∧ Wf ms ∧ ns <+: ms ∧ ms.length ≤ ns.length + 1 ∧ IsSq ms lv l y x m := by
 have i0 := hi (4 * y + x) (by omega) (by omega)
 obtain ⟨ms, m, e, ok⟩ := put_ok h (room := room) (fit4_of hl i0 (hi (4 * y + x + 1) (by omega) (by omega)) (hi (4 * y + x + 4) (by omega) (by omega)) (hi (4 * y + x + 5) (by omega) (by omega))) (.inr hr)
 exact ⟨ms, m, e, ok.wf, ok.pre, ok.len, ⟨ok.mem, by rw [ok.lv, i0.2]; omega⟩, ok.kids⟩
/-- Nine squares. -/
structure Nine9 (ns : List Node) (room : Int) (lv : Nat) (l : List Int) (ms : List Node) (q0 q1 q2 q3 q4 q5 q6 q7 q8 : Int) : Prop where
 wf : Wf ms
 pre : ns <+: ms
 len : ms.length ≤ ns.length + 9
 s0 : IsSq ms lv l 0 0 q0
 s1 : IsSq ms lv l 0 1 q1
 s2 : IsSq ms lv l 0 2 q2
 s3 : IsSq ms lv l 1 0 q3
 s4 : IsSq ms lv l 1 1 q4
 s5 : IsSq ms lv l 1 2 q5
 s6 : IsSq ms lv l 2 0 q6
 s7 : IsSq ms lv l 2 1 q7
 s8 : IsSq ms lv l 2 2 q8
theorem nine_ok {ns : List Node} {room : Int} {lv : Nat} {n : Int} (h : R6.right ns room) (hn : IsN ns (lv + 2) n) (hr : (ns.length : Int) + 9 ≤ room) :
  ∃ ms q0 q1 q2 q3 q4 q5 q6 q7 q8, nine ns room n = (ms, [q0, q1, q2, q3, q4, q5, q6, q7, q8], 0) ∧ Nine9 ns room lv (s16 ns n) ms q0 q1 q2 q3 q4 q5 q6 q7 q8 := by
 have hw := (right_iff.1 h).2
 have hlv := (hw.lvb hn.1).2
 rw [hn.2] at hlv
 have hi := s16_is hw hn
 generalize hl : s16 ns n = l at *
 obtain ⟨a0, q0, e0, w0, p0, l0, s0⟩ := putSq_ok (room := room) (by omega) hw hi (y := 0) (x := 0) (by omega) (by omega) (by omega)
 obtain ⟨a1, q1, e1, w1, p1, l1, s1⟩ := putSq_ok (room := room) (by omega) w0 (fun i a b => (hi i a b).pre p0) (y := 0) (x := 1) (by omega) (by omega) (by omega)
 obtain ⟨a2, q2, e2, w2, p2, l2, s2⟩ := putSq_ok (room := room) (by omega) w1 (fun i a b => ((hi i a b).pre p0).pre p1) (y := 0) (x := 2) (by omega) (by omega) (by omega)
 obtain ⟨a3, q3, e3, w3, p3, l3, s3⟩ := putSq_ok (room := room) (by omega) w2 (fun i a b => (((hi i a b).pre p0).pre p1).pre p2) (y := 1) (x := 0) (by omega) (by omega) (by omega)
 obtain ⟨a4, q4, e4, w4, p4, l4, s4⟩ := putSq_ok (room := room) (by omega) w3 (fun i a b => ((((hi i a b).pre p0).pre p1).pre p2).pre p3) (y := 1) (x := 1) (by omega) (by omega) (by omega)
 obtain ⟨a5, q5, e5, w5, p5, l5, s5⟩ := putSq_ok (room := room) (by omega) w4 (fun i a b => (((((hi i a b).pre p0).pre p1).pre p2).pre p3).pre p4) (y := 1) (x := 2) (by omega) (by omega) (by omega)
 obtain ⟨a6, q6, e6, w6, p6, l6, s6⟩ := putSq_ok (room := room) (by omega) w5 (fun i a b => ((((((hi i a b).pre p0).pre p1).pre p2).pre p3).pre p4).pre p5) (y := 2) (x := 0) (by omega) (by omega) (by omega)
 obtain ⟨a7, q7, e7, w7, p7, l7, s7⟩ := putSq_ok (room := room) (by omega) w6 (fun i a b => (((((((hi i a b).pre p0).pre p1).pre p2).pre p3).pre p4).pre p5).pre p6) (y := 2) (x := 1) (by omega) (by omega) (by omega)
 obtain ⟨a8, q8, e8, w8, p8, l8, s8⟩ := putSq_ok (room := room) (by omega) w7 (fun i a b => ((((((((hi i a b).pre p0).pre p1).pre p2).pre p3).pre p4).pre p5).pre p6).pre p7) (y := 2) (x := 2) (by omega) (by omega) (by omega)
 have t1 := p1
 have t2 := p2
 refine ⟨a8, q0, q1, q2, q3, q4, q5, q6, q7, q8, ?_, ⟨w8, ((((((((p0.trans p1).trans p2).trans p3).trans p4).trans p5).trans p6).trans p7).trans p8), by omega, ?_, ?_, ?_, ?_, ?_, ?_, ?_, ?_, s8⟩⟩
 ·unfold nine
  rw [if_pos ⟨h, hn.1, by rw [hn.2]; omega⟩]
  unfold all
  rw [hl]
  simp only [e0, e1, e2, e3, e4, e5, e6, e7, e8]
  simp
 ·exact ((((((((s0.pre p1).pre p2).pre p3).pre p4).pre p5).pre p6).pre p7).pre p8)
 ·exact (((((((s1.pre p2).pre p3).pre p4).pre p5).pre p6).pre p7).pre p8)
 ·exact ((((((s2.pre p3).pre p4).pre p5).pre p6).pre p7).pre p8)
 ·exact (((((s3.pre p4).pre p5).pre p6).pre p7).pre p8)
 ·exact ((((s4.pre p5).pre p6).pre p7).pre p8)
 ·exact (((s5.pre p6).pre p7).pre p8)
 ·exact ((s6.pre p7).pre p8)
 ·exact s7.pre p8
end R8
end Go.GL

set_option linter.unusedVariables false
namespace Go.GL
namespace R6
open R7 (IsN)
/-! ### Kids of one level -/
theorem Wf.lv_le {ns : List Node} (h : Wf ns) : ∀ (i : Nat), i < ns.length → (nd ns i).lv + 1 ≤ max (i : Int) 1 := by
 intro i
 induction i using Nat.strongRecOn with
 | _ i ih =>
  intro hi
  by_cases hl : (nd ns i).lv = 0
  ·omega
  ·have hn : inS ns (i : Int) := ⟨by omega, by omega⟩
   have h2 := h.two hn hl
   obtain ⟨k1, k2, k3⟩ := h.kid hn hl (q := (nd ns i).k0) (by simp [Node.kids])
   have := ih (nd ns i).k0.toNat (by have := k1.1; omega) (by have := k1.1; have := k1.2; omega)
   rw [show (((nd ns i).k0.toNat : Nat) : Int) = (nd ns i).k0 from Int.toNat_of_nonneg k1.1] at this
   have := k1.1
   omega
theorem Wf.lv_len {ns : List Node} (h : Wf ns) {n : Int} (hn : inS ns n) : (nd ns n).lv + 2 ≤ ns.length := by
 have h1 := h.lv_le n.toNat (by have := hn.1; have := hn.2; omega)
 rw [Int.toNat_of_nonneg hn.1] at h1
 have := hn.2
 have := h.len
 omega
theorem kids_same {ns : List Node} (h : Wf ns) (r : Five) : 0 < (RL.same ns r).length ∧ ∀ q ∈ RL.same ns r, inS ns q ∧ (nd ns q).lv = RL.lev ns r := by
 have hl := h.len
 have hlev : RL.lev ns r = (nd ns (pk r.r4 ns.length)).lv := by unfold RL.lev; rw [if_pos (by omega)]
 have hp := pk_bd (c := r.r4) (n := ns.length) (by omega)
 constructor
 ·have hm : (pk r.r4 ns.length) ∈ RL.same ns r := by
   have : ∀ (xs : List Node) (i j : Nat), j < xs.length → (xs.getD j default).lv = RL.lev ns r → ((i + j : Nat) : Int) ∈ RL.sameFrom (RL.lev ns r) i xs := by
    intro xs
    induction xs with
    | nil => intro i j hj; exact absurd hj (by simp)
    | cons x xs ih =>
     intro i j hj hx
     simp only [RL.sameFrom]
     cases j with
     | zero =>
      rw [if_pos (by simpa using hx)]
      exact List.mem_cons_self
     | succ j =>
      have := ih (i + 1) j (by simpa using hj) (by simpa using hx)
      rw [show i + 1 + j = i + (j + 1) by omega] at this
      split
      ·exact List.mem_cons_of_mem _ this
      ·exact this
   have := this ns 0 (pk r.r4 ns.length).toNat (by omega) (by rw [hlev]; rfl)
   rwa [Nat.zero_add, Int.toNat_of_nonneg hp.1] at this
  exact List.length_pos_of_mem hm
 ·intro q hq
  obtain ⟨j, hj, rfl, hlv⟩ := RL.sameFrom_mem hq
  rw [Nat.zero_add]
  refine ⟨⟨by omega, by omega⟩, ?_⟩
  unfold nd
  rw [Int.toNat_natCast]
  exact hlv
theorem kids_lv {ns : List Node} (h : Wf ns) (r : Five) : (inS ns (RL.kids ns r).1 ∧ (nd ns (RL.kids ns r).1).lv = RL.lev ns r) ∧ (inS ns (RL.kids ns r).2.1 ∧ (nd ns (RL.kids ns r).2.1).lv = RL.lev ns r) ∧ (inS ns (RL.kids ns r).2.2.1 ∧ (nd ns (RL.kids ns r).2.2.1).lv = RL.lev ns r) ∧ (inS ns (RL.kids ns r).2.2.2 ∧ (nd ns (RL.kids ns r).2.2.2).lv = RL.lev ns r) := by
 obtain ⟨h1, h2⟩ := kids_same h r
 have key : ∀ c, inS ns (RL.one (RL.same ns r) c) ∧ (nd ns (RL.one (RL.same ns r) c)).lv = RL.lev ns r := fun c => by
  have hp := pk_bd (c := c) (n := (RL.same ns r).length) (by omega)
  have : RL.one (RL.same ns r) c ∈ RL.same ns r := by
   unfold RL.one
   rw [if_pos (by omega)]
   have hlt : (pk c (RL.same ns r).length).toNat < (RL.same ns r).length := by omega
   rw [List.getD_eq_getElem?_getD, List.getElem?_eq_getElem hlt]
   exact List.getElem_mem hlt
  exact h2 _ this
 exact ⟨key _, key _, key _, key _⟩
theorem kids_fit {ns : List Node} (h : Wf ns) (hl : ns.length ≤ 43) (r : Five) : fit4 ns (RL.kids ns r).1 (RL.kids ns r).2.1 (RL.kids ns r).2.2.1 (RL.kids ns r).2.2.2 := by
 obtain ⟨⟨a1, a2⟩, ⟨b1, b2⟩, ⟨c1, c2⟩, ⟨d1, d2⟩⟩ := kids_lv h r
 have := h.lv_len a1
 exact ⟨a1, ⟨b1, by rw [b2, a2]⟩, ⟨c1, by rw [c2, a2]⟩, ⟨d1, by rw [d2, a2]⟩, by omega⟩
/-- The laws' stores. -/
structure St (room : Int) (s : List Node) : Prop where
 wf : Wf s
 le : (s.length : Int) ≤ room
 lo : 2 ≤ room
 hi : room ≤ 61
 few : s.length ≤ 42
theorem store_st (c : Int) (raw : List Five) : St (RL.room c) (RL.store (RL.room c) raw) := by
 have hb := RL.room_bd c
 obtain ⟨h1, h2⟩ := RL.store_ok (rm := RL.room c) (by omega) (by omega) raw
 refine ⟨h1, h2, by omega, by omega, ?_⟩
 unfold RL.store
 have key : ∀ (l : List Five) (s : List Node), (l.foldl (RL.putRaw (RL.room c)) s).length ≤ s.length + l.length := by
  intro l
  induction l with
  | nil => intro s; simp
  | cons r l ih =>
   intro s
   have h1 := ih (RL.putRaw (RL.room c) s r)
   have h2 : (RL.putRaw (RL.room c) s r).length ≤ s.length + 1 := by
    unfold RL.putRaw intern put
    split
    ·split
     ·split
      ·simp
      ·split
       ·simp
       ·simp
     ·simp
    ·simp
   simp only [List.foldl_cons, List.length_cons]
   omega
 have := key (raw.take 40) [n0, n1]
 rw [List.length_take] at this
 simp only [List.length_cons, List.length_nil] at this
 omega
theorem St.right {room : Int} {s : List Node} (h : St room s) : R6.right s room := right_iff.2 ⟨⟨h.lo, by have := h.hi; omega, h.le⟩, h.wf⟩
theorem intern_eq {ns : List Node} {room : Int} (h : R6.right ns room) (q0 q1 q2 q3 : Int) : intern ns room q0 q1 q2 q3 = put ns room q0 q1 q2 q3 := if_pos h
/-- What a put comes to: it has room, or it has none. -/
theorem put_cases {ns : List Node} (h : Wf ns) {room : Int} {q0 q1 q2 q3 : Int} (hf : fit4 ns q0 q1 q2 q3) :
  (∃ ms m, put ns room q0 q1 q2 q3 = (ms, m, 0) ∧ PutOk ns q0 q1 q2 q3 ms m) ∨ (put ns room q0 q1 q2 q3 = (ns, 0, 40) ∧ ¬ 0 ≤ R6.at_ ns [q0, q1, q2, q3] ∧ room ≤ (ns.length : Int)) := by
 by_cases hat : 0 ≤ R6.at_ ns [q0, q1, q2, q3]
 ·exact .inl (put_ok h hf (.inl hat))
 ·by_cases hr : (ns.length : Int) < room
  ·exact .inl (put_ok h hf (.inr hr))
  ·refine .inr ⟨?_, hat, by omega⟩
   unfold put
   rw [if_pos hf, if_neg hat, if_pos (by omega)]
theorem PutOk.lv0 {ns ms : List Node} {q0 q1 q2 q3 m : Int} (h : PutOk ns q0 q1 q2 q3 ms m) (hw : Wf ns) (hf : fit4 ns q0 q1 q2 q3) : (R6.nd ms m).lv ≠ 0 := by
 rw [h.lv]
 have := hw.lvb hf.1
 omega
/-- Put, and another put, and the first again. -/
theorem once {room : Int} {s : List Node} (h : St room s) (one two : Five) {r1 r2 r3 : List Node × Int × Int} (h1 : intern s room (RL.kids s one).1 (RL.kids s one).2.1 (RL.kids s one).2.2.1 (RL.kids s one).2.2.2 = r1)
  (h2 : intern r1.1 room (RL.kids r1.1 two).1 (RL.kids r1.1 two).2.1 (RL.kids r1.1 two).2.2.1 (RL.kids r1.1 two).2.2.2 = r2)
  (h3 : intern r2.1 room (RL.kids s one).1 (RL.kids s one).2.1 (RL.kids s one).2.2.1 (RL.kids s one).2.2.2 = r3) :
  (r1.2.2 ≠ 0 → r1.2.2 = 40 ∧ (s.length : Int) = room ∧ r1.1 = s) ∧ (r1.2.2 = 0 → r3.2.2 = 0 ∧ r3.2.1 = r1.2.1 ∧ r3.1 = r2.1 ∧ R6.right r2.1 room ∧ s.length ≤ r1.1.length ∧ r1.1.length ≤ s.length + 1 ∧ s <+: r1.1 ∧ inS r1.1 r1.2.1 ∧ (nd r1.1 r1.2.1).kids = [(RL.kids s one).1, (RL.kids s one).2.1, (RL.kids s one).2.2.1, (RL.kids s one).2.2.2]) := by
 have hf := kids_fit h.wf (by have := h.few; omega) one
 have hw := h.wf
 rw [intern_eq h.right] at h1
 generalize (RL.kids s one).1 = q0 at *
 generalize (RL.kids s one).2.1 = q1 at *
 generalize (RL.kids s one).2.2.1 = q2 at *
 generalize (RL.kids s one).2.2.2 = q3 at *
 have hle := h.le
 rcases put_cases hw (room := room) hf with ⟨ms, m, e, ok⟩ | ⟨e, hat, hr⟩
 ·rw [e] at h1
  subst h1
  refine ⟨fun hx => absurd rfl hx, fun _ => ?_⟩
  simp only at h2 h3 ⊢
  have hms : (ms.length : Int) ≤ room := by
   have := put_room hle q0 q1 q2 q3
   rw [e] at this
   exact this
  have hrt : R6.right ms room := right_iff.2 ⟨⟨h.lo, by have := h.hi; omega, hms⟩, ok.wf⟩
  rw [intern_eq hrt] at h2
  obtain ⟨w2, p2⟩ := put_wf ok.wf room (RL.kids ms two).1 (RL.kids ms two).2.1 (RL.kids ms two).2.2.1 (RL.kids ms two).2.2.2
  have l2 := put_room hms (RL.kids ms two).1 (RL.kids ms two).2.1 (RL.kids ms two).2.2.1 (RL.kids ms two).2.2.2
  rw [h2] at w2 p2 l2
  have hrt2 : R6.right r2.1 room := right_iff.2 ⟨⟨h.lo, by have := h.hi; omega, l2⟩, w2⟩
  rw [intern_eq hrt2] at h3
  have hpre := ok.pre.trans p2
  have hmb : inS r2.1 m := inS_pre p2 ok.mem
  have hnb : R6.nd r2.1 m = R6.nd ms m := nd_pre p2 ok.mem
  have := put_again w2 (room := room) (fit4_pre hpre hf) hmb (by rw [hnb]; exact ok.lv0 hw hf) (by rw [hnb]; exact ok.kids)
  rw [this] at h3
  subst h3
  exact ⟨rfl, rfl, rfl, hrt2, ok.pre.length_le, ok.len, ok.pre, ok.mem, ok.kids⟩
 ·rw [e] at h1
  subst h1
  exact ⟨fun _ => ⟨rfl, by show (s.length : Int) = room; omega, rfl⟩, fun hx => by cases hx⟩
/-- A store that is full, and one with room for one more. -/
theorem full {room : Int} {s : List Node} (h : St room s) (r : Five) {r1 r2 : List Node × Int × Int} (h1 : intern s s.length (RL.kids s r).1 (RL.kids s r).2.1 (RL.kids s r).2.2.1 (RL.kids s r).2.2.2 = r1) (h2 : intern s ((s.length : Int) + 1) (RL.kids s r).1 (RL.kids s r).2.1 (RL.kids s r).2.2.1 (RL.kids s r).2.2.2 = r2) :
  (0 ≤ R6.at_ s [(RL.kids s r).1, (RL.kids s r).2.1, (RL.kids s r).2.2.1, (RL.kids s r).2.2.2] → r1 = (s, R6.at_ s [(RL.kids s r).1, (RL.kids s r).2.1, (RL.kids s r).2.2.1, (RL.kids s r).2.2.2], 0) ∧ r2 = (s, R6.at_ s [(RL.kids s r).1, (RL.kids s r).2.1, (RL.kids s r).2.2.1, (RL.kids s r).2.2.2], 0)) ∧
  (¬ 0 ≤ R6.at_ s [(RL.kids s r).1, (RL.kids s r).2.1, (RL.kids s r).2.2.1, (RL.kids s r).2.2.2] → r1 = (s, 0, 40) ∧ r2.2.2 = 0 ∧ r2.2.1 = s.length ∧ r2.1.length = s.length + 1) := by
 have hf := kids_fit h.wf (by have := h.few; omega) r
 have hw := h.wf
 have hl2 := hw.len
 have hfew := h.few
 rw [intern_eq (right_iff.2 ⟨⟨by omega, by omega, Int.le_refl _⟩, hw⟩)] at h1
 rw [intern_eq (right_iff.2 ⟨⟨by omega, by omega, by omega⟩, hw⟩)] at h2
 generalize (RL.kids s r).1 = q0 at *
 generalize (RL.kids s r).2.1 = q1 at *
 generalize (RL.kids s r).2.2.1 = q2 at *
 generalize (RL.kids s r).2.2.2 = q3 at *
 unfold put at h1 h2
 rw [if_pos hf] at h1 h2
 constructor
 ·intro hat
  rw [if_pos hat] at h1 h2
  exact ⟨h1.symm, h2.symm⟩
 ·intro hat
  rw [if_neg hat, if_pos (Int.le_refl _)] at h1
  rw [if_neg hat, if_neg (by omega)] at h2
  refine ⟨h1.symm, ?_⟩
  subst h2
  exact ⟨rfl, rfl, by simp⟩
theorem pop4_sum {ns : List Node} {q0 q1 q2 q3 : Int} (h0 : 0 ≤ (nd ns q0).pop) (h1 : 0 ≤ (nd ns q1).pop) (h2 : 0 ≤ (nd ns q2).pop) (h3 : 0 ≤ (nd ns q3).pop) : pop4 ns q0 q1 q2 q3 = mn ((nd ns q0).pop + (nd ns q1).pop + (nd ns q2).pop + (nd ns q3).pop) cap62 := by
 unfold pop4 mn cap62
 repeat' split
 all_goals omega
/-- One of the four turns of four. -/
def Rot (q0 q1 q2 q3 t0 t1 t2 t3 : Int) : Prop := (t0 = q0 ∧ t1 = q1 ∧ t2 = q2 ∧ t3 = q3) ∨ (t0 = q1 ∧ t1 = q2 ∧ t2 = q3 ∧ t3 = q0) ∨ (t0 = q2 ∧ t1 = q3 ∧ t2 = q0 ∧ t3 = q1) ∨ (t0 = q3 ∧ t1 = q0 ∧ t2 = q1 ∧ t3 = q2)
theorem Rot.fit {ns : List Node} {q0 q1 q2 q3 t0 t1 t2 t3 : Int} (h : Rot q0 q1 q2 q3 t0 t1 t2 t3) (hf : fit4 ns q0 q1 q2 q3) : fit4 ns t0 t1 t2 t3 ∧ (nd ns t0).lv = (nd ns q0).lv := by
 obtain ⟨a, ⟨b, b'⟩, ⟨c, c'⟩, ⟨d, d'⟩, e⟩ := hf
 rcases h with ⟨rfl, rfl, rfl, rfl⟩ | ⟨rfl, rfl, rfl, rfl⟩ | ⟨rfl, rfl, rfl, rfl⟩ | ⟨rfl, rfl, rfl, rfl⟩
 ·exact ⟨⟨a, ⟨b, b'⟩, ⟨c, c'⟩, ⟨d, d'⟩, e⟩, rfl⟩
 ·exact ⟨⟨b, ⟨c, by omega⟩, ⟨d, by omega⟩, ⟨a, by omega⟩, by omega⟩, b'⟩
 ·exact ⟨⟨c, ⟨d, by omega⟩, ⟨a, by omega⟩, ⟨b, by omega⟩, by omega⟩, c'⟩
 ·exact ⟨⟨d, ⟨a, by omega⟩, ⟨b, by omega⟩, ⟨c, by omega⟩, by omega⟩, d'⟩
theorem Rot.pop {ns : List Node} (hw : Wf ns) {q0 q1 q2 q3 t0 t1 t2 t3 : Int} (h : Rot q0 q1 q2 q3 t0 t1 t2 t3) (hf : fit4 ns q0 q1 q2 q3) : pop4 ns t0 t1 t2 t3 = pop4 ns q0 q1 q2 q3 := by
 obtain ⟨a, ⟨b, b'⟩, ⟨c, c'⟩, ⟨d, d'⟩, e⟩ := hf
 have ha := (hw.mod.nd a).2.2.1
 have hb := (hw.mod.nd b).2.2.1
 have hc := (hw.mod.nd c).2.2.1
 have hd := (hw.mod.nd d).2.2.1
 rcases h with ⟨rfl, rfl, rfl, rfl⟩ | ⟨rfl, rfl, rfl, rfl⟩ | ⟨rfl, rfl, rfl, rfl⟩ | ⟨rfl, rfl, rfl, rfl⟩
 ·rfl
 all_goals
  rw [pop4_sum (by assumption) (by assumption) (by assumption) (by assumption), pop4_sum (by assumption) (by assumption) (by assumption) (by assumption)]
  congr 1
  omega
theorem pops {room : Int} {s : List Node} (h : St room s) {q0 q1 q2 q3 t0 t1 t2 t3 : Int} (hf : fit4 s q0 q1 q2 q3) (hrot : Rot q0 q1 q2 q3 t0 t1 t2 t3) {r1 r2 : List Node × Int × Int} (h1 : intern s (room + 2) q0 q1 q2 q3 = r1) (h2 : intern r1.1 (room + 2) t0 t1 t2 t3 = r2) :
  r1.2.2 = 0 ∧ r2.2.2 = 0 ∧ r1.1.length ≤ s.length + 1 ∧ inS r2.1 r1.2.1 ∧ inS r2.1 r2.2.1 ∧ (nd r2.1 r1.2.1).pop = pop4 s q0 q1 q2 q3 ∧ (nd r2.1 r2.2.1).pop = pop4 s q0 q1 q2 q3 ∧ (nd r2.1 r1.2.1).lv = (nd r2.1 r2.2.1).lv ∧ (r1.2.1 = r2.2.1 ↔ [q0, q1, q2, q3] = [t0, t1, t2, t3]) := by
 have hw := h.wf
 have hle := h.le
 have hhi := h.hi
 have hlo := h.lo
 rw [intern_eq (right_iff.2 ⟨⟨by omega, by omega, by omega⟩, hw⟩)] at h1
 obtain ⟨ms, m, e, ok⟩ := put_ok hw (room := room + 2) hf (.inr (by omega))
 rw [e] at h1
 subst h1
 have hl1 := ok.len
 simp only at h2 ⊢
 rw [intern_eq (right_iff.2 ⟨⟨by omega, by omega, by omega⟩, ok.wf⟩)] at h2
 obtain ⟨hft, hlt⟩ := hrot.fit hf
 obtain ⟨ms2, m2, e2, ok2⟩ := put_ok ok.wf (room := room + 2) (fit4_pre ok.pre hft) (.inr (by omega))
 rw [e2] at h2
 subst h2
 simp only
 have hn : inS ms2 m := inS_pre ok2.pre ok.mem
 have en : R6.nd ms2 m = mk4 s q0 q1 q2 q3 := by rw [nd_pre ok2.pre ok.mem, ok.nd]
 have em : R6.nd ms2 m2 = mk4 s t0 t1 t2 t3 := by rw [ok2.nd, mk4_pre ok.pre hft]
 refine ⟨by first | rfl | trivial, by first | rfl | trivial, ok.len, hn, ok2.mem, by rw [en]; rfl, by rw [em]; exact hrot.pop hw hf, by rw [en, em]; show (R6.nd s q0).lv + 1 = (R6.nd s t0).lv + 1; rw [hlt], ?_⟩
 constructor
 ·intro he
  rw [he] at en
  rw [em] at en
  have := congrArg Node.kids en
  exact this.symm
 ·intro he
  have hl : ∀ x, (mk4 s x q1 q2 q3).kids = [x, q1, q2, q3] := fun x => rfl
  refine ok2.wf.uniq hn ok2.mem ?_ ?_ ?_
  ·rw [en]
   have := (hw.lvb hf.1).1
   show (R6.nd s q0).lv + 1 ≠ 0
   omega
  ·rw [em]
   have := (hw.lvb hft.1).1
   show (R6.nd s t0).lv + 1 ≠ 0
   omega
  ·rw [en, em]
   exact he
/-! ### empty nodes -/
theorem dead_below {ns : List Node} (h : Wf ns) : ∀ (k j : Nat) (n : Int), IsN ns (j + k) n → (nd ns n).pop = 0 → ∃ q, IsN ns j q ∧ (nd ns q).pop = 0
 | 0, j, n, hn, hp => ⟨n, hn, hp⟩
 | k + 1, j, n, hn, hp => dead_below h k j _ (R7.kids4 h (lv := j + k) hn).1 ((R7.dead_kids h (lv := j + k) hn).1 hp).1
theorem E_zero {ns : List Node} (h : Wf ns) {v : Nat} {n : Int} (hn : IsN ns v n) (hp : (nd ns n).pop = 0) : ∀ j, j ≤ v → R7.E ns j = 0
 | 0, _ => rfl
 | j + 1, hj => by
  have ih := E_zero h hn hp j (by omega)
  obtain ⟨k, rfl⟩ : ∃ k, v = j + 1 + k := ⟨v - (j + 1), by omega⟩
  have hd : R7.deadB ns (j + 1) = true := R7.deadB_iff.2 (dead_below h k (j + 1) n hn hp)
  unfold R7.E
  rw [if_pos hd, ih]
theorem emptyT_eq {ns ms : List Node} {room : Int} {m : Int} {v : Nat} (h : R6.right ns room) (hv : v ≤ 42) (e : R7.empty ns room v = (ms, m, 0)) : emptyT ns room v = (ms, m, 0) := by
 unfold emptyT told
 rw [if_neg (by omega), if_pos h, Int.toNat_natCast, e]
 rfl
theorem empties {room : Int} {s : List Node} (h : St room s) {v1 v2 : Nat} (h1 : v1 ≤ 42) (h2 : v2 ≤ 42) {r1 r2 r3 : List Node × Int × Int} (e1 : emptyT s (room + 50) v1 = r1) (e2 : emptyT r1.1 (room + 50) v2 = r2) (e3 : emptyT r2.1 (room + 50) v1 = r3) :
  (r1.2.2 = 0 ∧ r2.2.2 = 0 ∧ r3.2.2 = 0) ∧ r3.2.1 = r1.2.1 ∧ r3.1 = r2.1 ∧ inS r3.1 r1.2.1 ∧ inS r3.1 r2.2.1 ∧ (nd r3.1 r1.2.1).pop = 0 ∧ (nd r3.1 r1.2.1).lv = v1 ∧ (nd r3.1 r2.2.1).lv = v2 ∧ (r1.2.1 = r2.2.1 ↔ v1 = v2) ∧ r1.1.length ≤ 200 ∧ r2.1.length ≤ s.length + max v1 v2 := by
 have hw := h.wf
 have hle := h.le
 have hhi := h.hi
 have hlo := h.lo
 have hEs := R7.E_le s (max v1 v2)
 obtain ⟨ms1, m1, q1, k1, d1⟩ := R7.empty_ok (room := room + 50) (L := max v1 v2) (by omega) hw (lv := v1) (by omega) (by omega)
 rw [emptyT_eq (right_iff.2 ⟨⟨by omega, by omega, by omega⟩, hw⟩) h1 q1] at e1
 subst e1
 have l1 := k1.len
 obtain ⟨ms2, m2, q2, k2, d2⟩ := R7.empty_ok (room := room + 50) (L := max v1 v2) (by omega) k1.wf (lv := v2) (by omega) (by omega)
 rw [emptyT_eq (right_iff.2 ⟨⟨by omega, by omega, by omega⟩, k1.wf⟩) h2 q2] at e2
 subst e2
 have l2 := k2.len
 have i1 : IsN ms2 v1 m1 := k1.is.pre k2.pre
 have p1 : (nd ms2 m1).pop = 0 := by rw [nd_pre k2.pre k1.is.1]; exact d1
 have hE := E_zero k2.wf i1 p1 v1 (Nat.le_refl _)
 obtain ⟨ms3, m3, q3, k3, d3⟩ := R7.empty_ok (room := room + 50) (L := v1) h1 k2.wf (lv := v1) (Nat.le_refl _) (by omega)
 rw [emptyT_eq (right_iff.2 ⟨⟨by omega, by omega, by omega⟩, k2.wf⟩) h1 q3] at e3
 subst e3
 have l3 := k3.len
 have e : ms2 = ms3 := k3.pre.eq_of_length_le (by omega)
 subst e
 simp only
 refine ⟨⟨by first | rfl | trivial, by first | rfl | trivial, by first | rfl | trivial⟩, R7.dead_uniq k2.wf k3.is i1 d3 p1, by first | rfl | trivial, i1.1, k2.is.1, p1, i1.2, k2.is.2, ?_, by omega, by omega⟩
 constructor
 ·intro hm
  have a := i1.2
  have b := k2.is.2
  rw [hm] at a
  omega
 ·intro hv
  subst hv
  exact R7.dead_uniq k2.wf i1 k2.is p1 d2
end R6
end Go.GL

set_option linter.unusedVariables false
namespace Go.GL
open Go.Proofs
attribute [local irreducible] wpList Code.wp Exit.then Exit.inBlock Ends Tri TriH OpV OpG FnC epf wpAnyH
open R7 (IsN)
set_option maxHeartbeats 2000000 in
set_option maxRecDepth 100000 in
theorem law06_bits {ns : List Node} {a : Option Addr} {cap : Nat} {room : Int} (hw : R6.Wf ns) (hn : ns.length ≤ 1000000000) : ∀ (lv : Nat) {A : List Asrt} {I : List Chunk} {n : Int}, lv ≤ 4 → SlAt I a ns → IsN ns lv n →
  FnC Try.prog 26 [storeV a ns.length cap room, .int .i64 n].toArray A I (fun v A' I' => v = strV (R6.bitsM ns lv n) ∧ A = A' ∧ I = I')
 | 0, A, I, n, hl, hs, hi => by
  have h1 := hi.1.1
  have h2 := hi.1.2
  have hlv : (ns.getD n.toNat default).lv = 0 := hi.2
  have hp : (ns.getD n.toNat default).pop = 0 ∨ (ns.getD n.toNat default).pop = 1 := by
   rcases hw.lv0 hi.1 hlv with rfl | rfl
   ·exact .inl (congrArg Node.pop hw.z)
   ·exact .inr (congrArg Node.pop hw.o)
  skip
  refine fn_enter2 Try.func26 rfl Try.ntmps26 rfl fun w0 => ?_
  refine tS (tR ?_)
  first | refine tri_g (opg_box_agg rfl) rfl ?_ | refine tri_g (opg_box1 rfl rfl) rfl ?_
  rintro _ _ _ ⟨b2, rfl, rfl, rfl⟩
  refine tA rfl rfl (tN (tT (tS (tS (tR (tM rfl rfl ?_))))))
  refine tri_v (opv_lss rfl rfl) rfl ?_
  refine tM rfl rfl ?_
  refine tri_false rfl rfl ((by omega)) ?_
  refine tri_guard_run rfl rfl rfl (tM rfl rfl (tri_guard_run rfl rfl rfl ?_))
  refine tri_v (by first | exact opv_fieldAddr rfl rfl | exact opv_fieldAddrE rfl (by assumption) (by omega) rfl | exact opv_fieldAddrR rfl (by omega) rfl) rfl ?_
  refine tri_guard_run rfl rfl rfl ?_
  refine tri_v (by first | exact opv_load1 rfl rfl rfl | exact opv_loadA rfl rfl rfl | exact opv_loadE1 rfl (by assumption) rfl (by omega) rfl rfl | exact opv_loadEA rfl (by assumption) rfl (by omega) rfl rfl | exact opv_loadRX1 rfl rfl (by omega) rfl rfl | exact opv_loadRXA rfl rfl (by omega) rfl rfl rfl | exact opv_loadIX rfl rfl (by omega) | exact opv_loadR1 rfl rfl rfl | exact opv_loadRA rfl rfl rfl rfl) rfl ?_
  refine tri_guard_run rfl rfl rfl ?_
  refine tri_v (opv_len rfl) rfl ?_
  refine tri_guard_run rfl rfl rfl ?_
  refine tri_v (opv_geq rfl rfl) rfl ?_
  refine tri_v (by first | exact opv_pick_t rfl rfl | exact opv_pick_f rfl rfl | exact opv_pick_bool rfl rfl rfl | exact opv_pick rfl rfl rfl) rfl ?_
  refine tN (tT ?_)
  refine tri_cond_not rfl ((by omega)) ?_
  refine tri_skip (tT (tS (tR ?_)))
  refine tri_v (by first | exact opv_fieldAddr rfl rfl | exact opv_fieldAddrE rfl (by assumption) (by omega) rfl | exact opv_fieldAddrR rfl (by omega) rfl) rfl ?_
  refine tri_v (by first | exact opv_load1 rfl rfl rfl | exact opv_loadA rfl rfl rfl | exact opv_loadE1 rfl (by assumption) rfl (by omega) rfl rfl | exact opv_loadEA rfl (by assumption) rfl (by omega) rfl rfl | exact opv_loadRX1 rfl rfl (by omega) rfl rfl | exact opv_loadRXA rfl rfl (by omega) rfl rfl rfl | exact opv_loadIX rfl rfl (by omega) | exact opv_loadR1 rfl rfl rfl | exact opv_loadRA rfl rfl rfl rfl) rfl ?_
  refine tM rfl rfl ?_
  refine tri_v (by first | exact opv_indexAddrA rfl rfl (by first | decide | omega) (by first | decide | omega) | exact opv_indexAddrSN rfl rfl (by omega) (by assumption) rfl | exact opv_indexAddrS rfl rfl (by omega) (by omega) (by assumption) rfl | exact opv_indexAddrE rfl (by assumption) (by omega) rfl (by first | decide | omega) (by first | decide | omega) | exact opv_indexAddrRN rfl rfl (by omega) | exact opv_indexAddrR rfl rfl (by omega) (by omega) | exact opv_indexAddrRA rfl (by omega) rfl (by first | decide | omega) (by first | decide | omega)) rfl ?_
  refine tri_v (by first | exact opv_load1 rfl rfl rfl | exact opv_loadA rfl rfl rfl | exact opv_loadE1 rfl (by assumption) rfl (by omega) rfl rfl | exact opv_loadEA rfl (by assumption) rfl (by omega) rfl rfl | exact opv_loadRX1 rfl rfl (by omega) rfl rfl | exact opv_loadRXA rfl rfl (by omega) rfl rfl rfl | exact opv_loadIX rfl rfl (by omega) | exact opv_loadR1 rfl rfl rfl | exact opv_loadRA rfl rfl rfl rfl) rfl ?_
  refine tri_g opg_alloc rfl ?_
  rintro _ _ _ ⟨b5, rfl, rfl, rfl⟩
  refine tri_g (opg_store rfl rfl rfl rfl rfl rfl) rfl ?_
  rintro _ _ _ ⟨rfl, rfl⟩
  refine tN (tT (tS (tS (tR ?_))))
  refine tri_v (by first | exact opv_fieldAddr rfl rfl | exact opv_fieldAddrE rfl (by assumption) (by omega) rfl | exact opv_fieldAddrR rfl (by omega) rfl) rfl ?_
  refine tri_v (by first | exact opv_load1 rfl rfl rfl | exact opv_loadA rfl rfl rfl | exact opv_loadE1 rfl (by assumption) rfl (by omega) rfl rfl | exact opv_loadEA rfl (by assumption) rfl (by omega) rfl rfl | exact opv_loadRX1 rfl rfl (by omega) rfl rfl | exact opv_loadRXA rfl rfl (by omega) rfl rfl rfl | exact opv_loadIX rfl rfl (by omega) | exact opv_loadR1 rfl rfl rfl | exact opv_loadRA rfl rfl rfl rfl) rfl ?_
  refine tri_v (opv_gtr rfl rfl) rfl ?_
  refine tN (tT ?_)
  refine tri_cond_not rfl ((by omega)) ?_
  refine tri_skip (tT (tS (tS (tR ?_))))
  refine tri_v (by first | exact opv_fieldAddr rfl rfl | exact opv_fieldAddrE rfl (by assumption) (by omega) rfl | exact opv_fieldAddrR rfl (by omega) rfl) rfl ?_
  refine tri_v (by first | exact opv_load1 rfl rfl rfl | exact opv_loadA rfl rfl rfl | exact opv_loadE1 rfl (by assumption) rfl (by omega) rfl rfl | exact opv_loadEA rfl (by assumption) rfl (by omega) rfl rfl | exact opv_loadRX1 rfl rfl (by omega) rfl rfl | exact opv_loadRXA rfl rfl (by omega) rfl rfl rfl | exact opv_loadIX rfl rfl (by omega) | exact opv_loadR1 rfl rfl rfl | exact opv_loadRA rfl rfl rfl rfl) rfl ?_
  refine tri_v (opv_lss rfl rfl) rfl ?_
  refine tN (tT ?_)
  refine tri_cond_is rfl ((by omega)) ?_
  skip
  refine tS (tR ?_)
  refine tri_v (by first | exact opv_fieldAddr rfl rfl | exact opv_fieldAddrE rfl (by assumption) (by omega) rfl | exact opv_fieldAddrR rfl (by omega) rfl) rfl ?_
  refine tri_v (by first | exact opv_load1 rfl rfl rfl | exact opv_loadA rfl rfl rfl | exact opv_loadE1 rfl (by assumption) rfl (by omega) rfl rfl | exact opv_loadEA rfl (by assumption) rfl (by omega) rfl rfl | exact opv_loadRX1 rfl rfl (by omega) rfl rfl | exact opv_loadRXA rfl rfl (by omega) rfl rfl rfl | exact opv_loadIX rfl rfl (by omega) | exact opv_loadR1 rfl rfl rfl | exact opv_loadRA rfl rfl rfl rfl) rfl ?_
  refine tri_v (by first | exact opv_add rfl rfl (w64 (by omega) (by omega))) rfl ?_
  refine tri_v (opv_convert rfl rfl) rfl ?_
  refine tri_g (opg_buildSlice rfl rfl rfl rfl) rfl ?_
  rintro _ _ _ ⟨b37, rfl, rfl, rfl⟩
  refine tri_v (opv_bytesS (ns := [IntKind.u8.wrap (48 + (ns.getD n.toNat default).pop)]) rfl rfl) rfl ?_
  refine tA rfl rfl (tN (tT (tri_ret (tri_then_ret ?_))))
  refine tri_end A Suf.h rfl (.cons (rv_tmp rfl) .nil) ⟨?_, rfl, rfl⟩
  rfl
 | lv + 1, A, I, n, hl, hs, hi => by
  have h1 := hi.1.1
  have h2 := hi.1.2
  have hlv : (ns.getD n.toNat default).lv = ((lv + 1 : Nat) : Int) := hi.2
  obtain ⟨k0, k1, k2, k3⟩ := R7.kids4 hw hi
  skip
  refine fn_enter2 Try.func26 rfl Try.ntmps26 rfl fun w0 => ?_
  refine tS (tR ?_)
  first | refine tri_g (opg_box_agg rfl) rfl ?_ | refine tri_g (opg_box1 rfl rfl) rfl ?_
  rintro _ _ _ ⟨b2, rfl, rfl, rfl⟩
  refine tA rfl rfl (tN (tT (tS (tS (tR (tM rfl rfl ?_))))))
  refine tri_v (opv_lss rfl rfl) rfl ?_
  refine tM rfl rfl ?_
  refine tri_false rfl rfl ((by omega)) ?_
  refine tri_guard_run rfl rfl rfl (tM rfl rfl (tri_guard_run rfl rfl rfl ?_))
  refine tri_v (by first | exact opv_fieldAddr rfl rfl | exact opv_fieldAddrE rfl (by assumption) (by omega) rfl | exact opv_fieldAddrR rfl (by omega) rfl) rfl ?_
  refine tri_guard_run rfl rfl rfl ?_
  refine tri_v (by first | exact opv_load1 rfl rfl rfl | exact opv_loadA rfl rfl rfl | exact opv_loadE1 rfl (by assumption) rfl (by omega) rfl rfl | exact opv_loadEA rfl (by assumption) rfl (by omega) rfl rfl | exact opv_loadRX1 rfl rfl (by omega) rfl rfl | exact opv_loadRXA rfl rfl (by omega) rfl rfl rfl | exact opv_loadIX rfl rfl (by omega) | exact opv_loadR1 rfl rfl rfl | exact opv_loadRA rfl rfl rfl rfl) rfl ?_
  refine tri_guard_run rfl rfl rfl ?_
  refine tri_v (opv_len rfl) rfl ?_
  refine tri_guard_run rfl rfl rfl ?_
  refine tri_v (opv_geq rfl rfl) rfl ?_
  refine tri_v (by first | exact opv_pick_t rfl rfl | exact opv_pick_f rfl rfl | exact opv_pick_bool rfl rfl rfl | exact opv_pick rfl rfl rfl) rfl ?_
  refine tN (tT ?_)
  refine tri_cond_not rfl ((by omega)) ?_
  refine tri_skip (tT (tS (tR ?_)))
  refine tri_v (by first | exact opv_fieldAddr rfl rfl | exact opv_fieldAddrE rfl (by assumption) (by omega) rfl | exact opv_fieldAddrR rfl (by omega) rfl) rfl ?_
  refine tri_v (by first | exact opv_load1 rfl rfl rfl | exact opv_loadA rfl rfl rfl | exact opv_loadE1 rfl (by assumption) rfl (by omega) rfl rfl | exact opv_loadEA rfl (by assumption) rfl (by omega) rfl rfl | exact opv_loadRX1 rfl rfl (by omega) rfl rfl | exact opv_loadRXA rfl rfl (by omega) rfl rfl rfl | exact opv_loadIX rfl rfl (by omega) | exact opv_loadR1 rfl rfl rfl | exact opv_loadRA rfl rfl rfl rfl) rfl ?_
  refine tM rfl rfl ?_
  refine tri_v (by first | exact opv_indexAddrA rfl rfl (by first | decide | omega) (by first | decide | omega) | exact opv_indexAddrSN rfl rfl (by omega) (by assumption) rfl | exact opv_indexAddrS rfl rfl (by omega) (by omega) (by assumption) rfl | exact opv_indexAddrE rfl (by assumption) (by omega) rfl (by first | decide | omega) (by first | decide | omega) | exact opv_indexAddrRN rfl rfl (by omega) | exact opv_indexAddrR rfl rfl (by omega) (by omega) | exact opv_indexAddrRA rfl (by omega) rfl (by first | decide | omega) (by first | decide | omega)) rfl ?_
  refine tri_v (by first | exact opv_load1 rfl rfl rfl | exact opv_loadA rfl rfl rfl | exact opv_loadE1 rfl (by assumption) rfl (by omega) rfl rfl | exact opv_loadEA rfl (by assumption) rfl (by omega) rfl rfl | exact opv_loadRX1 rfl rfl (by omega) rfl rfl | exact opv_loadRXA rfl rfl (by omega) rfl rfl rfl | exact opv_loadIX rfl rfl (by omega) | exact opv_loadR1 rfl rfl rfl | exact opv_loadRA rfl rfl rfl rfl) rfl ?_
  refine tri_g opg_alloc rfl ?_
  rintro _ _ _ ⟨b5, rfl, rfl, rfl⟩
  refine tri_g (opg_store rfl rfl rfl rfl rfl rfl) rfl ?_
  rintro _ _ _ ⟨rfl, rfl⟩
  refine tN (tT (tS (tS (tR ?_))))
  refine tri_v (by first | exact opv_fieldAddr rfl rfl | exact opv_fieldAddrE rfl (by assumption) (by omega) rfl | exact opv_fieldAddrR rfl (by omega) rfl) rfl ?_
  refine tri_v (by first | exact opv_load1 rfl rfl rfl | exact opv_loadA rfl rfl rfl | exact opv_loadE1 rfl (by assumption) rfl (by omega) rfl rfl | exact opv_loadEA rfl (by assumption) rfl (by omega) rfl rfl | exact opv_loadRX1 rfl rfl (by omega) rfl rfl | exact opv_loadRXA rfl rfl (by omega) rfl rfl rfl | exact opv_loadIX rfl rfl (by omega) | exact opv_loadR1 rfl rfl rfl | exact opv_loadRA rfl rfl rfl rfl) rfl ?_
  refine tri_v (opv_gtr rfl rfl) rfl ?_
  refine tN (tT ?_)
  refine tri_cond_not rfl ((by omega)) ?_
  refine tri_skip (tT (tS (tS (tR ?_))))
  refine tri_v (by first | exact opv_fieldAddr rfl rfl | exact opv_fieldAddrE rfl (by assumption) (by omega) rfl | exact opv_fieldAddrR rfl (by omega) rfl) rfl ?_
  refine tri_v (by first | exact opv_load1 rfl rfl rfl | exact opv_loadA rfl rfl rfl | exact opv_loadE1 rfl (by assumption) rfl (by omega) rfl rfl | exact opv_loadEA rfl (by assumption) rfl (by omega) rfl rfl | exact opv_loadRX1 rfl rfl (by omega) rfl rfl | exact opv_loadRXA rfl rfl (by omega) rfl rfl rfl | exact opv_loadIX rfl rfl (by omega) | exact opv_loadR1 rfl rfl rfl | exact opv_loadRA rfl rfl rfl rfl) rfl ?_
  refine tri_v (opv_lss rfl rfl) rfl ?_
  refine tN (tT ?_)
  refine tri_cond_not rfl ((by omega)) ?_
  refine tri_skip (tT (tS (tR ?_)))
  refine tri_g opg_alloc rfl ?_
  rintro _ _ _ ⟨b6, rfl, rfl, rfl⟩
  refine tN (tT (tS (tS (tR (tA rfl rfl (tN (tT ?_)))))))
  refine tri_block ?_
  refine tri_rounds 5 ?_
  refine tri_round ?_
  refine tS (tS (tR (tM rfl rfl ?_)))
  refine tri_v (opv_lss rfl rfl) rfl ?_
  refine tN (tT ?_)
  refine tri_cond_is rfl ((by decide)) ?_
  skip
  refine tri_skip (tT (tS (tri_block ?_)))
  refine tri_draw [0, 1, 2, 3, 4, 5, 6, 7, 8] rfl [_] rfl mixed ?_
  refine th_take rfl rfl (by kernel_rfl)  (opv_move rfl) ?_
  refine th_take rfl rfl (by kernel_rfl)  (by first | exact opv_load1 rfl rfl rfl | exact opv_loadA rfl rfl rfl | exact opv_loadE1 rfl (by assumption) rfl (by omega) rfl rfl | exact opv_loadEA rfl (by assumption) rfl (by omega) rfl rfl | exact opv_loadRX1 rfl rfl (by omega) rfl rfl | exact opv_loadRXA rfl rfl (by omega) rfl rfl rfl | exact opv_loadIX rfl rfl (by omega) | exact opv_loadR1 rfl rfl rfl | exact opv_loadRA rfl rfl rfl rfl) ?_
  refine th_take rfl rfl (by kernel_rfl)  (opv_move rfl) ?_
  refine th_take rfl rfl (by kernel_rfl)  (by first | exact opv_fieldAddr rfl rfl | exact opv_fieldAddrE rfl (by assumption) (by omega) rfl | exact opv_fieldAddrR rfl (by omega) rfl) ?_
  refine th_take rfl rfl (by kernel_rfl)  (by first | exact opv_indexAddrA rfl rfl (by first | decide | omega) (by first | decide | omega) | exact opv_indexAddrSN rfl rfl (by omega) (by assumption) rfl | exact opv_indexAddrS rfl rfl (by omega) (by omega) (by assumption) rfl | exact opv_indexAddrE rfl (by assumption) (by omega) rfl (by first | decide | omega) (by first | decide | omega) | exact opv_indexAddrRN rfl rfl (by omega) | exact opv_indexAddrR rfl rfl (by omega) (by omega) | exact opv_indexAddrRA rfl (by omega) rfl (by first | decide | omega) (by first | decide | omega)) ?_
  refine th_take rfl rfl (by kernel_rfl)  (by first | exact opv_load1 rfl rfl rfl | exact opv_loadA rfl rfl rfl | exact opv_loadE1 rfl (by assumption) rfl (by omega) rfl rfl | exact opv_loadEA rfl (by assumption) rfl (by omega) rfl rfl | exact opv_loadRX1 rfl rfl (by omega) rfl rfl | exact opv_loadRXA rfl rfl (by omega) rfl rfl rfl | exact opv_loadIX rfl rfl (by omega) | exact opv_loadR1 rfl rfl rfl | exact opv_loadRA rfl rfl rfl rfl) ?_
  refine th_one (by kernel_rfl) (step_m rfl rfl (opg_call (xs := [_, _]) rfl (law06_bits hw hn lv (by omega) hs k0)) ?_)
  rintro _ _ _ ⟨rfl, rfl, rfl⟩
  refine ⟨Suf.h, (by first | exact fun _ h => h | assumption | exact fun _ h => (by assumption : _ ⊆ _) ((by assumption : _ ⊆ _) h)), ?_⟩
  refine th_take rfl rfl (by kernel_rfl)  (by first | exact opv_indexAddrA rfl rfl (by first | decide | omega) (by first | decide | omega) | exact opv_indexAddrSN rfl rfl (by omega) (by assumption) rfl | exact opv_indexAddrS rfl rfl (by omega) (by omega) (by assumption) rfl | exact opv_indexAddrE rfl (by assumption) (by omega) rfl (by first | decide | omega) (by first | decide | omega) | exact opv_indexAddrRN rfl rfl (by omega) | exact opv_indexAddrR rfl rfl (by omega) (by omega) | exact opv_indexAddrRA rfl (by omega) rfl (by first | decide | omega) (by first | decide | omega)) ?_
  refine th_one (by kernel_rfl) (step_m rfl rfl (opg_store rfl rfl rfl rfl rfl rfl) ?_)
  rintro _ _ _ ⟨rfl, rfl⟩
  refine ⟨Suf.h, (by first | exact fun _ h => h | assumption | exact fun _ h => (by assumption : _ ⊆ _) ((by assumption : _ ⊆ _) h)), ?_⟩
  refine th_done (by kernel_rfl) ?_
  refine tri_inBlock ?_
  refine tT (tR (tM rfl rfl ?_))
  refine tri_v (by first | exact opv_add rfl rfl (w64 (by omega) (by omega))) rfl ?_
  refine tA rfl rfl (tN (tT ?_))
  refine tri_round ?_
  refine tS (tS (tR (tM rfl rfl ?_)))
  refine tri_v (opv_lss rfl rfl) rfl ?_
  refine tN (tT ?_)
  refine tri_cond_is rfl ((by decide)) ?_
  skip
  refine tri_skip (tT (tS (tri_block ?_)))
  refine tri_draw [0, 1, 2, 3, 4, 5, 6, 7, 8] rfl [_] rfl mixed ?_
  refine th_take rfl rfl (by kernel_rfl)  (opv_move rfl) ?_
  refine th_take rfl rfl (by kernel_rfl)  (by first | exact opv_load1 rfl rfl rfl | exact opv_loadA rfl rfl rfl | exact opv_loadE1 rfl (by assumption) rfl (by omega) rfl rfl | exact opv_loadEA rfl (by assumption) rfl (by omega) rfl rfl | exact opv_loadRX1 rfl rfl (by omega) rfl rfl | exact opv_loadRXA rfl rfl (by omega) rfl rfl rfl | exact opv_loadIX rfl rfl (by omega) | exact opv_loadR1 rfl rfl rfl | exact opv_loadRA rfl rfl rfl rfl) ?_
  refine th_take rfl rfl (by kernel_rfl)  (opv_move rfl) ?_
  refine th_take rfl rfl (by kernel_rfl)  (by first | exact opv_fieldAddr rfl rfl | exact opv_fieldAddrE rfl (by assumption) (by omega) rfl | exact opv_fieldAddrR rfl (by omega) rfl) ?_
  refine th_take rfl rfl (by kernel_rfl)  (by first | exact opv_indexAddrA rfl rfl (by first | decide | omega) (by first | decide | omega) | exact opv_indexAddrSN rfl rfl (by omega) (by assumption) rfl | exact opv_indexAddrS rfl rfl (by omega) (by omega) (by assumption) rfl | exact opv_indexAddrE rfl (by assumption) (by omega) rfl (by first | decide | omega) (by first | decide | omega) | exact opv_indexAddrRN rfl rfl (by omega) | exact opv_indexAddrR rfl rfl (by omega) (by omega) | exact opv_indexAddrRA rfl (by omega) rfl (by first | decide | omega) (by first | decide | omega)) ?_
  refine th_take rfl rfl (by kernel_rfl)  (by first | exact opv_load1 rfl rfl rfl | exact opv_loadA rfl rfl rfl | exact opv_loadE1 rfl (by assumption) rfl (by omega) rfl rfl | exact opv_loadEA rfl (by assumption) rfl (by omega) rfl rfl | exact opv_loadRX1 rfl rfl (by omega) rfl rfl | exact opv_loadRXA rfl rfl (by omega) rfl rfl rfl | exact opv_loadIX rfl rfl (by omega) | exact opv_loadR1 rfl rfl rfl | exact opv_loadRA rfl rfl rfl rfl) ?_
  refine th_one (by kernel_rfl) (step_m rfl rfl (opg_call (xs := [_, _]) rfl (law06_bits hw hn lv (by omega) hs k1)) ?_)
  rintro _ _ _ ⟨rfl, rfl, rfl⟩
  refine ⟨Suf.h, (by first | exact fun _ h => h | assumption | exact fun _ h => (by assumption : _ ⊆ _) ((by assumption : _ ⊆ _) h)), ?_⟩
  refine th_take rfl rfl (by kernel_rfl)  (by first | exact opv_indexAddrA rfl rfl (by first | decide | omega) (by first | decide | omega) | exact opv_indexAddrSN rfl rfl (by omega) (by assumption) rfl | exact opv_indexAddrS rfl rfl (by omega) (by omega) (by assumption) rfl | exact opv_indexAddrE rfl (by assumption) (by omega) rfl (by first | decide | omega) (by first | decide | omega) | exact opv_indexAddrRN rfl rfl (by omega) | exact opv_indexAddrR rfl rfl (by omega) (by omega) | exact opv_indexAddrRA rfl (by omega) rfl (by first | decide | omega) (by first | decide | omega)) ?_
  refine th_one (by kernel_rfl) (step_m rfl rfl (opg_store rfl rfl rfl rfl rfl rfl) ?_)
  rintro _ _ _ ⟨rfl, rfl⟩
  refine ⟨Suf.h, (by first | exact fun _ h => h | assumption | exact fun _ h => (by assumption : _ ⊆ _) ((by assumption : _ ⊆ _) h)), ?_⟩
  refine th_done (by kernel_rfl) ?_
  refine tri_inBlock ?_
  refine tT (tR (tM rfl rfl ?_))
  refine tri_v (by first | exact opv_add rfl rfl (w64 (by omega) (by omega))) rfl ?_
  refine tA rfl rfl (tN (tT ?_))
  refine tri_round ?_
  refine tS (tS (tR (tM rfl rfl ?_)))
  refine tri_v (opv_lss rfl rfl) rfl ?_
  refine tN (tT ?_)
  refine tri_cond_is rfl ((by decide)) ?_
  skip
  refine tri_skip (tT (tS (tri_block ?_)))
  refine tri_draw [0, 1, 2, 3, 4, 5, 6, 7, 8] rfl [_] rfl mixed ?_
  refine th_take rfl rfl (by kernel_rfl)  (opv_move rfl) ?_
  refine th_take rfl rfl (by kernel_rfl)  (by first | exact opv_load1 rfl rfl rfl | exact opv_loadA rfl rfl rfl | exact opv_loadE1 rfl (by assumption) rfl (by omega) rfl rfl | exact opv_loadEA rfl (by assumption) rfl (by omega) rfl rfl | exact opv_loadRX1 rfl rfl (by omega) rfl rfl | exact opv_loadRXA rfl rfl (by omega) rfl rfl rfl | exact opv_loadIX rfl rfl (by omega) | exact opv_loadR1 rfl rfl rfl | exact opv_loadRA rfl rfl rfl rfl) ?_
  refine th_take rfl rfl (by kernel_rfl)  (opv_move rfl) ?_
  refine th_take rfl rfl (by kernel_rfl)  (by first | exact opv_fieldAddr rfl rfl | exact opv_fieldAddrE rfl (by assumption) (by omega) rfl | exact opv_fieldAddrR rfl (by omega) rfl) ?_
  refine th_take rfl rfl (by kernel_rfl)  (by first | exact opv_indexAddrA rfl rfl (by first | decide | omega) (by first | decide | omega) | exact opv_indexAddrSN rfl rfl (by omega) (by assumption) rfl | exact opv_indexAddrS rfl rfl (by omega) (by omega) (by assumption) rfl | exact opv_indexAddrE rfl (by assumption) (by omega) rfl (by first | decide | omega) (by first | decide | omega) | exact opv_indexAddrRN rfl rfl (by omega) | exact opv_indexAddrR rfl rfl (by omega) (by omega) | exact opv_indexAddrRA rfl (by omega) rfl (by first | decide | omega) (by first | decide | omega)) ?_
  refine th_take rfl rfl (by kernel_rfl)  (by first | exact opv_load1 rfl rfl rfl | exact opv_loadA rfl rfl rfl | exact opv_loadE1 rfl (by assumption) rfl (by omega) rfl rfl | exact opv_loadEA rfl (by assumption) rfl (by omega) rfl rfl | exact opv_loadRX1 rfl rfl (by omega) rfl rfl | exact opv_loadRXA rfl rfl (by omega) rfl rfl rfl | exact opv_loadIX rfl rfl (by omega) | exact opv_loadR1 rfl rfl rfl | exact opv_loadRA rfl rfl rfl rfl) ?_
  refine th_one (by kernel_rfl) (step_m rfl rfl (opg_call (xs := [_, _]) rfl (law06_bits hw hn lv (by omega) hs k2)) ?_)
  rintro _ _ _ ⟨rfl, rfl, rfl⟩
  refine ⟨Suf.h, (by first | exact fun _ h => h | assumption | exact fun _ h => (by assumption : _ ⊆ _) ((by assumption : _ ⊆ _) h)), ?_⟩
  refine th_take rfl rfl (by kernel_rfl)  (by first | exact opv_indexAddrA rfl rfl (by first | decide | omega) (by first | decide | omega) | exact opv_indexAddrSN rfl rfl (by omega) (by assumption) rfl | exact opv_indexAddrS rfl rfl (by omega) (by omega) (by assumption) rfl | exact opv_indexAddrE rfl (by assumption) (by omega) rfl (by first | decide | omega) (by first | decide | omega) | exact opv_indexAddrRN rfl rfl (by omega) | exact opv_indexAddrR rfl rfl (by omega) (by omega) | exact opv_indexAddrRA rfl (by omega) rfl (by first | decide | omega) (by first | decide | omega)) ?_
  refine th_one (by kernel_rfl) (step_m rfl rfl (opg_store rfl rfl rfl rfl rfl rfl) ?_)
  rintro _ _ _ ⟨rfl, rfl⟩
  refine ⟨Suf.h, (by first | exact fun _ h => h | assumption | exact fun _ h => (by assumption : _ ⊆ _) ((by assumption : _ ⊆ _) h)), ?_⟩
  refine th_done (by kernel_rfl) ?_
  refine tri_inBlock ?_
  refine tT (tR (tM rfl rfl ?_))
  refine tri_v (by first | exact opv_add rfl rfl (w64 (by omega) (by omega))) rfl ?_
  refine tA rfl rfl (tN (tT ?_))
  refine tri_round ?_
  refine tS (tS (tR (tM rfl rfl ?_)))
  refine tri_v (opv_lss rfl rfl) rfl ?_
  refine tN (tT ?_)
  refine tri_cond_is rfl ((by decide)) ?_
  skip
  refine tri_skip (tT (tS (tri_block ?_)))
  refine tri_draw [0, 1, 2, 3, 4, 5, 6, 7, 8] rfl [_] rfl mixed ?_
  refine th_take rfl rfl (by kernel_rfl)  (opv_move rfl) ?_
  refine th_take rfl rfl (by kernel_rfl)  (by first | exact opv_load1 rfl rfl rfl | exact opv_loadA rfl rfl rfl | exact opv_loadE1 rfl (by assumption) rfl (by omega) rfl rfl | exact opv_loadEA rfl (by assumption) rfl (by omega) rfl rfl | exact opv_loadRX1 rfl rfl (by omega) rfl rfl | exact opv_loadRXA rfl rfl (by omega) rfl rfl rfl | exact opv_loadIX rfl rfl (by omega) | exact opv_loadR1 rfl rfl rfl | exact opv_loadRA rfl rfl rfl rfl) ?_
  refine th_take rfl rfl (by kernel_rfl)  (opv_move rfl) ?_
  refine th_take rfl rfl (by kernel_rfl)  (by first | exact opv_fieldAddr rfl rfl | exact opv_fieldAddrE rfl (by assumption) (by omega) rfl | exact opv_fieldAddrR rfl (by omega) rfl) ?_
  refine th_take rfl rfl (by kernel_rfl)  (by first | exact opv_indexAddrA rfl rfl (by first | decide | omega) (by first | decide | omega) | exact opv_indexAddrSN rfl rfl (by omega) (by assumption) rfl | exact opv_indexAddrS rfl rfl (by omega) (by omega) (by assumption) rfl | exact opv_indexAddrE rfl (by assumption) (by omega) rfl (by first | decide | omega) (by first | decide | omega) | exact opv_indexAddrRN rfl rfl (by omega) | exact opv_indexAddrR rfl rfl (by omega) (by omega) | exact opv_indexAddrRA rfl (by omega) rfl (by first | decide | omega) (by first | decide | omega)) ?_
  refine th_take rfl rfl (by kernel_rfl)  (by first | exact opv_load1 rfl rfl rfl | exact opv_loadA rfl rfl rfl | exact opv_loadE1 rfl (by assumption) rfl (by omega) rfl rfl | exact opv_loadEA rfl (by assumption) rfl (by omega) rfl rfl | exact opv_loadRX1 rfl rfl (by omega) rfl rfl | exact opv_loadRXA rfl rfl (by omega) rfl rfl rfl | exact opv_loadIX rfl rfl (by omega) | exact opv_loadR1 rfl rfl rfl | exact opv_loadRA rfl rfl rfl rfl) ?_
  refine th_one (by kernel_rfl) (step_m rfl rfl (opg_call (xs := [_, _]) rfl (law06_bits hw hn lv (by omega) hs k3)) ?_)
  rintro _ _ _ ⟨rfl, rfl, rfl⟩
  refine ⟨Suf.h, (by first | exact fun _ h => h | assumption | exact fun _ h => (by assumption : _ ⊆ _) ((by assumption : _ ⊆ _) h)), ?_⟩
  refine th_take rfl rfl (by kernel_rfl)  (by first | exact opv_indexAddrA rfl rfl (by first | decide | omega) (by first | decide | omega) | exact opv_indexAddrSN rfl rfl (by omega) (by assumption) rfl | exact opv_indexAddrS rfl rfl (by omega) (by omega) (by assumption) rfl | exact opv_indexAddrE rfl (by assumption) (by omega) rfl (by first | decide | omega) (by first | decide | omega) | exact opv_indexAddrRN rfl rfl (by omega) | exact opv_indexAddrR rfl rfl (by omega) (by omega) | exact opv_indexAddrRA rfl (by omega) rfl (by first | decide | omega) (by first | decide | omega)) ?_
  refine th_one (by kernel_rfl) (step_m rfl rfl (opg_store rfl rfl rfl rfl rfl rfl) ?_)
  rintro _ _ _ ⟨rfl, rfl⟩
  refine ⟨Suf.h, (by first | exact fun _ h => h | assumption | exact fun _ h => (by assumption : _ ⊆ _) ((by assumption : _ ⊆ _) h)), ?_⟩
  refine th_done (by kernel_rfl) ?_
  refine tri_inBlock ?_
  refine tT (tR (tM rfl rfl ?_))
  refine tri_v (by first | exact opv_add rfl rfl (w64 (by omega) (by omega))) rfl ?_
  refine tA rfl rfl (tN (tT ?_))
  refine tri_round ?_
  refine tS (tS (tR (tM rfl rfl ?_)))
  refine tri_v (opv_lss rfl rfl) rfl ?_
  refine tN (tT ?_)
  refine tri_cond_not rfl ((by decide)) ?_
  skip
  refine tri_exit ?_
  refine tri_then_exit ?_
  refine tri_then_exit ?_
  refine tri_inBlock_hit rfl ?_
  refine tT (tS (tR ?_))
  refine tri_v (by first | exact opv_fieldAddr rfl rfl | exact opv_fieldAddrE rfl (by assumption) (by omega) rfl | exact opv_fieldAddrR rfl (by omega) rfl) rfl ?_
  refine tri_v (by first | exact opv_load1 rfl rfl rfl | exact opv_loadA rfl rfl rfl | exact opv_loadE1 rfl (by assumption) rfl (by omega) rfl rfl | exact opv_loadEA rfl (by assumption) rfl (by omega) rfl rfl | exact opv_loadRX1 rfl rfl (by omega) rfl rfl | exact opv_loadRXA rfl rfl (by omega) rfl rfl rfl | exact opv_loadIX rfl rfl (by omega) | exact opv_loadR1 rfl rfl rfl | exact opv_loadRA rfl rfl rfl rfl) rfl ?_
  refine tri_v (by first | exact opv_sub rfl rfl (w64 (by omega) (by omega)) | exact opv_sub rfl rfl rfl) rfl ?_
  refine tri_v (opv_shl1 rfl rfl (by omega) (by omega)) rfl ?_
  have em : (2:Int) ^ ((ns.getD n.toNat default).lv - 1).toNat = ((2 ^ lv : Nat) : Int) := by
   rw [hlv, show (((lv + 1 : Nat) : Int) - 1).toNat = lv by omega]
   simp
  have hm8 : 2 ^ lv ≤ 8 := by
   have := Nat.pow_le_pow_right (n := 2) (by omega) (show lv ≤ 3 by omega)
   omega
  have hm0 : 0 < 2 ^ lv := Nat.two_pow_pos lv
  have hql : ∀ k, (R6.bitsM ns lv ((R6.nd ns n).kids.getD k default)).length = 2 ^ lv * 2 ^ lv := fun k => R6.bitsM_len ns lv _
  have hres : R6.bitsM ns (lv + 1) n = R6.bitsUp (2 ^ lv) (fun k => R6.bitsM ns lv ((R6.nd ns n).kids.getD k default)) (2 * 2 ^ lv) := rfl
  rw [hres]
  rw [em]
  generalize hmm : 2 ^ lv = m at *
  refine tA rfl rfl (tN (tT (tS (tR (tA rfl rfl (tN (tT ?_)))))))
  refine tS (tS (tR (tA rfl rfl (tN (tT (tri_block ?_))))))
  obtain ⟨q, hq⟩ : ∃ q : Nat → List UInt8, q = fun k => R6.bitsM ns lv ((R6.nd ns n).kids.getD k default) := ⟨_, rfl⟩
  rw [← hq]
  have hqm : ∀ k, (q k).length = m * m := fun k => by rw [hq]; exact hql k
  have hst : ∀ k, k < 4 → (strs [R6.bitsM ns lv (R6.nd ns n).k0, R6.bitsM ns lv (R6.nd ns n).k1, R6.bitsM ns lv (R6.nd ns n).k2, R6.bitsM ns lv (R6.nd ns n).k3])[k]? = some (strV (q k)) := by
   intro k hk
   rcases (by omega : k = 0 ∨ k = 1 ∨ k = 2 ∨ k = 3) with rfl | rfl | rfl | rfl <;> (rw [hq]; rfl)
  refine tri_sub (F' := [(6, pt b6 0), (8, .int .i64 (m : Int)), (9, strV (R6.bitsUp m q 0)), (10, .int .i64 ((0 : Nat) : Int))]) ⟨rfl, rfl, rfl, rfl, trivial⟩ ?_
  refine loop_ind (G := Nat) (fun y => 2 * m - y) (fun y => y ≤ 2 * m) (fun y => [(6, pt b6 0), (8, .int .i64 (m : Int)), (9, strV (R6.bitsUp m q y)), (10, .int .i64 (y : Nat))]) (fun _ => _) (fun _ => _) ?_ 0 (by omega)
  rintro y hy K hK
  have hup := R6.bitsUp_len hm0 (fun k _ => hqm k) y hy
  have hmm8 : m * m ≤ 64 := by
   have := Nat.mul_le_mul hm8 hm8
   omega
  have hym : y * (2 * m) ≤ 256 := by
   have := Nat.mul_le_mul hy (Nat.le_refl (2 * m))
   have e4 : 2 * m * (2 * m) = 4 * (m * m) := by rw [Nat.mul_mul_mul_comm]
   omega
  skip
  refine tS (tS (tR (tM rfl rfl (tM rfl rfl ?_))))
  refine tri_v (opv_mulN (a := 2) (z := 2 * m) rfl rfl rfl (by omega)) rfl ?_
  refine tri_v (opv_lss rfl rfl) rfl ?_
  refine tN (tT ?_)
  refine tri_cond_dec rfl (fun hlt => ?_) (fun hlt => ?_)
  ·have hlt' : y < 2 * m := by omega
   obtain ⟨d, hd⟩ : ∃ d, y / m = d := ⟨_, rfl⟩
   obtain ⟨f, hf⟩ : ∃ f, y % m * m = f := ⟨_, rfl⟩
   have hd2 : d < 2 := by rw [← hd]; exact Nat.div_lt_of_lt_mul (by rw [Nat.mul_comm]; exact hlt')
   have hfm : f + m ≤ m * m := by rw [← hf]; exact R6.row_le hm0
   have hA := hst (2 * d) (by omega)
   have hB := hst (2 * d + 1) (by omega)
   have la := hqm (2 * d)
   have lb := hqm (2 * d + 1)
   have hstep : R6.bitsUp m q (y + 1) = R6.bitsUp m q y ++ R6.seg (q (2 * d)) f m ++ R6.seg (q (2 * d + 1)) f m := by
    show R6.bitsUp m q y ++ _ ++ _ = _
    rw [hd, hf]
   generalize q (2 * d) = qa at *
   generalize q (2 * d + 1) = qb at *
   have sa := R6.seg_len (s := qa) (f := f) (m := m) (by omega)
   have sb := R6.seg_len (s := qb) (f := f) (m := m) (by omega)
   have o1 : 0 + ((2 * d : Nat) : Int).toNat * 1 = 2 * d := by omega
   have o2 : 0 + (((2 * d : Nat) : Int) + 1).toNat * 1 = 2 * d + 1 := by omega
   refine tri_skip (tT (tS (tri_block (tS (tR (tM rfl rfl (tM rfl rfl ?_)))))))
   refine tri_v (opv_quoN (z := d) rfl rfl hm0 (by omega) hd) rfl ?_
   skip
   refine tri_v (opv_mulN (a := 2) (z := 2 * d) rfl rfl rfl (by omega)) rfl ?_
   refine tA rfl rfl (tN (tT (tS (tR (tM rfl rfl (tM rfl rfl ?_))))))
   refine tri_v (opv_remN (z := y % m) rfl rfl hm0 rfl) rfl ?_
   refine tM rfl rfl ?_
   refine tri_v (opv_mulN (z := f) rfl rfl hf (by omega)) rfl ?_
   refine tA rfl rfl (tN (tT (tS (tS (tR (tM rfl rfl ?_))))))
   refine tri_v (by first | exact opv_indexAddrA rfl rfl (by first | decide | omega) (by first | decide | omega) | exact opv_indexAddrSN rfl rfl (by omega) (by assumption) rfl | exact opv_indexAddrS rfl rfl (by omega) (by omega) (by assumption) rfl | exact opv_indexAddrE rfl (by assumption) (by omega) rfl (by first | decide | omega) (by first | decide | omega) | exact opv_indexAddrRN rfl rfl (by omega) | exact opv_indexAddrR rfl rfl (by omega) (by omega) | exact opv_indexAddrRA rfl (by omega) rfl (by first | decide | omega) (by first | decide | omega)) rfl ?_
   refine tri_v (opv_load1 rfl rfl (by rw [o1]; exact hA)) rfl ?_
   skip
   refine tri_v (opv_lenS rfl) rfl ?_
   refine tM rfl rfl (tM rfl rfl ?_)
   refine tri_v (by first | exact opv_add rfl rfl (w64 (by omega) (by omega))) rfl ?_
   refine tri_v (opv_lss rfl rfl) rfl ?_
   refine tM rfl rfl ?_
   refine tri_false rfl rfl ((by omega)) ?_
   refine tri_guard_run rfl rfl rfl (tM rfl rfl (tri_guard_run rfl rfl rfl ?_))
   refine tri_v (by first | exact opv_add rfl rfl (w64 (by omega) (by omega))) rfl ?_
   refine tri_guard_run rfl rfl rfl ?_
   refine tri_v (by first | exact opv_indexAddrA rfl rfl (by first | decide | omega) (by first | decide | omega) | exact opv_indexAddrSN rfl rfl (by omega) (by assumption) rfl | exact opv_indexAddrS rfl rfl (by omega) (by omega) (by assumption) rfl | exact opv_indexAddrE rfl (by assumption) (by omega) rfl (by first | decide | omega) (by first | decide | omega) | exact opv_indexAddrRN rfl rfl (by omega) | exact opv_indexAddrR rfl rfl (by omega) (by omega) | exact opv_indexAddrRA rfl (by omega) rfl (by first | decide | omega) (by first | decide | omega)) rfl ?_
   refine tri_guard_run rfl rfl rfl ?_
   refine tri_v (opv_load1 rfl rfl (by rw [o2]; exact hB)) rfl ?_
   skip
   refine tri_guard_run rfl rfl rfl ?_
   refine tri_v (opv_lenS rfl) rfl ?_
   refine tri_guard_run rfl rfl rfl (tM rfl rfl (tri_guard_run rfl rfl rfl (tM rfl rfl (tri_guard_run rfl rfl rfl ?_))))
   refine tri_v (by first | exact opv_add rfl rfl (w64 (by omega) (by omega))) rfl ?_
   refine tri_guard_run rfl rfl rfl ?_
   refine tri_v (opv_lss rfl rfl) rfl ?_
   refine tri_v (by first | exact opv_pick_t rfl rfl | exact opv_pick_f rfl rfl | exact opv_pick_bool rfl rfl rfl | exact opv_pick rfl rfl rfl) rfl ?_
   refine tN (tT ?_)
   refine tri_cond_not rfl ((by omega)) ?_
   refine tri_skip (tT ?_)
   refine tri_draw [0, 1, 2, 3, 4, 5, 6, 7, 8, 9, 10, 11, 12, 13, 14, 15, 16, 17, 18, 19, 20] rfl [] rfl mixed ?_
   refine th_take rfl rfl (by kernel_rfl)  (opv_move rfl) ?_
   refine th_take rfl rfl (by kernel_rfl)  (opv_move rfl) ?_
   refine th_take rfl rfl (by kernel_rfl)  (by first | exact opv_indexAddrA rfl rfl (by first | decide | omega) (by first | decide | omega) | exact opv_indexAddrSN rfl rfl (by omega) (by assumption) rfl | exact opv_indexAddrS rfl rfl (by omega) (by omega) (by assumption) rfl | exact opv_indexAddrE rfl (by assumption) (by omega) rfl (by first | decide | omega) (by first | decide | omega) | exact opv_indexAddrRN rfl rfl (by omega) | exact opv_indexAddrR rfl rfl (by omega) (by omega) | exact opv_indexAddrRA rfl (by omega) rfl (by first | decide | omega) (by first | decide | omega)) ?_
   refine th_take rfl rfl (by kernel_rfl)  (opv_load1 rfl rfl (by rw [o1]; exact hA)) ?_
   refine th_take rfl rfl (by kernel_rfl)  (opv_move rfl) ?_
   refine th_take rfl rfl (by kernel_rfl)  (opv_move rfl) ?_
   refine th_take rfl rfl (by kernel_rfl)  (opv_move rfl) ?_
   refine th_take rfl rfl (by kernel_rfl)  (by first | exact opv_add rfl rfl (w64 (by omega) (by omega))) ?_
   refine th_take rfl rfl (by kernel_rfl)  (opv_sliceS (i := (f : Int)) (j := (f : Int) + (m : Int)) rfl rfl rfl (by omega) (by omega) (by omega)) ?_
   skip
   refine th_take rfl rfl (by kernel_rfl)  (opv_addS (l := 1000) (b := R6.seg qa f m) rfl rfl (by omega) (by omega) rfl) ?_
   refine th_take rfl rfl (by kernel_rfl)  (opv_move rfl) ?_
   refine th_take rfl rfl (by kernel_rfl)  (by first | exact opv_add rfl rfl (w64 (by omega) (by omega))) ?_
   refine th_take rfl rfl (by kernel_rfl)  (by first | exact opv_indexAddrA rfl rfl (by first | decide | omega) (by first | decide | omega) | exact opv_indexAddrSN rfl rfl (by omega) (by assumption) rfl | exact opv_indexAddrS rfl rfl (by omega) (by omega) (by assumption) rfl | exact opv_indexAddrE rfl (by assumption) (by omega) rfl (by first | decide | omega) (by first | decide | omega) | exact opv_indexAddrRN rfl rfl (by omega) | exact opv_indexAddrR rfl rfl (by omega) (by omega) | exact opv_indexAddrRA rfl (by omega) rfl (by first | decide | omega) (by first | decide | omega)) ?_
   refine th_take rfl rfl (by kernel_rfl)  (opv_load1 rfl rfl (by rw [o2]; exact hB)) ?_
   refine th_take rfl rfl (by kernel_rfl)  (opv_move rfl) ?_
   refine th_take rfl rfl (by kernel_rfl)  (opv_move rfl) ?_
   refine th_take rfl rfl (by kernel_rfl)  (opv_move rfl) ?_
   refine th_take rfl rfl (by kernel_rfl)  (by first | exact opv_add rfl rfl (w64 (by omega) (by omega))) ?_
   refine th_take rfl rfl (by kernel_rfl)  (opv_sliceS (i := (f : Int)) (j := (f : Int) + (m : Int)) rfl rfl rfl (by omega) (by omega) (by omega)) ?_
   skip
   refine th_take rfl rfl (by kernel_rfl)  (opv_addS (l := 1000) (b := R6.seg qb f m) rfl rfl (by rw [List.length_append]; omega) (by omega) rfl) ?_
   refine th_take rfl rfl (by kernel_rfl)  (opv_assign rfl) ?_
   refine th_done (by kernel_rfl) ?_
   refine tri_inBlock ?_
   refine tT (tR (tM rfl rfl ?_))
   refine tri_v (by first | exact opv_add rfl rfl (w64 (by omega) (by omega))) rfl ?_
   refine tA rfl rfl (tN (tT ?_))
   refine tri_sub ?_ (hK (y + 1) (by omega) (by omega))
   exact ⟨rfl, rfl, by rw [hstep]; rfl, rfl, trivial⟩
  ·have ey : y = 2 * m := by omega
   subst ey
   refine tri_exit ?_
   refine tri_then_exit ?_
   refine tri_then_exit ?_
   refine tri_inBlock_hit rfl ?_
   refine tT (tS (tR (tM rfl rfl (tA rfl rfl (tN (tT (tri_ret ?_)))))))
   refine tri_end A Suf.h rfl (.cons (rv_tmp rfl) .nil) ⟨rfl, rfl, rfl⟩
end Go.GL

set_option linter.unusedVariables false
namespace Go.GL
namespace R6
open R7 (IsN al)
/-! ### What is live -/
theorem getD_set_true {l : List Bool} {i j : Nat} : (l.set i true).getD j default = true ↔ l.getD j default = true ∨ (j = i ∧ i < l.length) := by
 rw [List.getD_eq_getElem?_getD, List.getElem?_set, List.getD_eq_getElem?_getD]
 by_cases e : i = j
 ·subst e
  by_cases h : i < l.length
  ·simp [h]
  ·simp [h]
 ·rw [if_neg e]
  constructor
  ·exact .inl
  ·rintro (h | ⟨h, _⟩)
   ·exact h
   ·exact absurd h.symm e
/-- Quarters that lie ahead of a node. -/
def KidsLt (ns : List Node) (i : Nat) : Prop := ∀ q ∈ (ns.getD i default).kids, 0 ≤ q ∧ q < i
theorem Wf.kidsLt {ns : List Node} (h : Wf ns) {i : Nat} (hi : i < ns.length) (h2 : 2 ≤ i) : KidsLt ns i := by
 obtain ⟨⟨a0, b0, _⟩, ⟨a1, b1, _⟩, ⟨a2, b2, _⟩, ⟨a3, b3, _⟩, _⟩ := h.ok i hi h2
 intro q hq
 simp only [Node.kids, List.mem_cons, List.not_mem_nil, or_false] at hq
 rcases hq with rfl | rfl | rfl | rfl
 ·exact ⟨a0, b0⟩
 ·exact ⟨a1, b1⟩
 ·exact ⟨a2, b2⟩
 ·exact ⟨a3, b3⟩
theorem mem_keepKids {keep : List Bool} {x : Node} {j : Nat} (hk : ∀ q ∈ x.kids, 0 ≤ q ∧ q < keep.length) : (keepKids keep x).getD j default = true ↔ keep.getD j default = true ∨ (j : Int) ∈ x.kids := by
 have h0 := hk x.k0 (by simp [Node.kids])
 have h1 := hk x.k1 (by simp [Node.kids])
 have h2 := hk x.k2 (by simp [Node.kids])
 have h3 := hk x.k3 (by simp [Node.kids])
 unfold keepKids
 rw [getD_set_true, getD_set_true, getD_set_true, getD_set_true]
 simp only [List.length_set, Node.kids, List.mem_cons, List.not_mem_nil, or_false]
 constructor
 ·rintro ((((h | h) | h) | h) | h)
  ·exact .inl h
  ·exact .inr (.inl (by omega))
  ·exact .inr (.inr (.inl (by omega)))
  ·exact .inr (.inr (.inr (.inl (by omega))))
  ·exact .inr (.inr (.inr (.inr (by omega))))
 ·rintro (h | h | h | h | h)
  ·exact .inl (.inl (.inl (.inl h)))
  ·exact .inl (.inl (.inl (.inr ⟨by omega, by omega⟩)))
  ·exact .inl (.inl (.inr ⟨by omega, by omega⟩))
  ·exact .inl (.inr ⟨by omega, by omega⟩)
  ·exact .inr ⟨by omega, by omega⟩
theorem keepDown_spec {ns : List Node} (hw : Wf ns) : ∀ (m : Nat) (keep : List Bool), m + 2 ≤ ns.length → keep.length = ns.length →
  (keepDown ns m keep).length = ns.length ∧ (∀ j, keep.getD j default = true → (keepDown ns m keep).getD j default = true) ∧ (∀ j, m + 1 ≤ j → (keepDown ns m keep).getD j default = keep.getD j default) ∧
  (∀ i, 2 ≤ i → i < m + 2 → (keepDown ns m keep).getD i default = true → ∀ q ∈ (ns.getD i default).kids, (keepDown ns m keep).getD q.toNat default = true) ∧
  (∀ j, (keepDown ns m keep).getD j default = true → keep.getD j default = true ∨ ∃ p, 2 ≤ p ∧ p < m + 2 ∧ j < p ∧ (keepDown ns m keep).getD p default = true ∧ (j : Int) ∈ (ns.getD p default).kids)
 | 0, keep, hm, hl => ⟨hl, fun _ h => h, fun _ _ => rfl, fun i h2 h3 => by omega, fun j h => .inl h⟩
 | m + 1, keep, hm, hl => by
  rw [keepDown_succ]
  have hx := hw.kidsLt (i := m + 2) (by omega) (by omega)
  obtain ⟨k1, hk1⟩ : ∃ k1, k1 = (if keep.getD (m + 2) default = true then keepKids keep (ns.getD (m + 2) default) else keep) := ⟨_, rfl⟩
  rw [← hk1]
  have hmk : ∀ j, k1.getD j default = true ↔ keep.getD j default = true ∨ (keep.getD (m + 2) default = true ∧ (j : Int) ∈ (ns.getD (m + 2) default).kids) := by
   intro j
   rw [hk1]
   split
   ·rename_i h
    rw [mem_keepKids (fun q hq => ⟨(hx q hq).1, by have := (hx q hq).2; omega⟩)]
    exact ⟨fun x => x.imp id fun y => ⟨h, y⟩, fun x => x.imp id fun y => y.2⟩
   ·rename_i h
    exact ⟨.inl, fun x => x.resolve_right fun y => h y.1⟩
  have hl1 : k1.length = ns.length := by
   rw [hk1]
   split
   ·rw [keepKids_len, hl]
   ·exact hl
  obtain ⟨a, b, c, d, e⟩ := keepDown_spec hw m k1 (by omega) hl1
  have top : (keepDown ns m k1).getD (m + 2) default = true ↔ keep.getD (m + 2) default = true := by
   rw [c (m + 2) (by omega), hmk]
   refine ⟨fun x => x.elim id fun y => y.1, .inl⟩
  refine ⟨a, fun j h => b j ((hmk j).2 (.inl h)), fun j hj => ?_, fun i h2 h3 hi q hq => ?_, fun j hj => ?_⟩
  ·rw [c j (by omega), Bool.eq_iff_iff, hmk j]
   refine ⟨fun x => x.elim id fun y => ?_, .inl⟩
   have := (hx _ y.2).2
   omega
  ·by_cases e2 : i < m + 2
   ·exact d i h2 e2 hi q hq
   ·obtain rfl : i = m + 2 := by omega
    have hq0 := hx q hq
    refine b _ ((hmk _).2 (.inr ⟨top.1 hi, ?_⟩))
    rw [Int.toNat_of_nonneg hq0.1]
    exact hq
  ·rcases e j hj with h | ⟨p, h1, h2, h3, h4, h5⟩
   ·rcases (hmk j).1 h with h | ⟨h, h'⟩
    ·exact .inl h
    ·have := (hx _ h').2
     exact .inr ⟨m + 2, by omega, by omega, by omega, top.2 h, h'⟩
   ·exact .inr ⟨p, h1, by omega, h3, h4, h5⟩
theorem mem_keepRoots {n : Nat} (h2 : 2 ≤ n) : ∀ (roots : List Int), (∀ r ∈ roots, 0 ≤ r ∧ r < n) → ∀ j, (keepRoots n roots).getD j default = true ↔ j = 0 ∨ j = 1 ∨ (j : Int) ∈ roots := by
 intro roots hr j
 unfold keepRoots
 have h0 : ∀ j, (((List.replicate n false).set 0 true).set 1 true).getD j default = true ↔ j = 0 ∨ j = 1 := by
  intro j
  rw [getD_set_true, getD_set_true]
  simp only [List.length_set, List.length_replicate]
  have : (List.replicate n false).getD j default = false := by
   rw [List.getD_eq_getElem?_getD, List.getElem?_replicate]
   split <;> rfl
  rw [this]
  constructor
  ·rintro ((h | h) | h)
   ·cases h
   ·exact .inl h.1
   ·exact .inr h.1
  ·rintro (h | h)
   ·exact .inl (.inr ⟨h, by omega⟩)
   ·exact .inr ⟨h, by omega⟩
 have key : ∀ (l : List Int) (k : List Bool), k.length = n → (∀ r ∈ l, 0 ≤ r ∧ r < n) → ((l.foldl (fun keep r => keep.set r.toNat true) k).getD j default = true ↔ k.getD j default = true ∨ (j : Int) ∈ l) := by
  intro l
  induction l with
  | nil => intro k _ _; simp
  | cons r l ih =>
   intro k hk hl
   have hr := hl r (by simp)
   rw [List.foldl_cons, ih _ (by rw [List.length_set, hk]) (fun x hx => hl x (by simp [hx])), getD_set_true, List.mem_cons]
   constructor
   ·rintro ((h | h) | h)
    ·exact .inl h
    ·exact .inr (.inl (by omega))
    ·exact .inr (.inr h)
   ·rintro (h | h | h)
    ·exact .inl (.inl h)
    ·exact .inl (.inr ⟨by omega, by omega⟩)
    ·exact .inr h
 rw [key roots _ (by simp) hr, h0, or_assoc]
/-! #### the places of what is kept -/
def ids (K : List Bool) (n : Nat) : List Nat := (List.range n).filter fun j => K.getD j default
def rk (K : List Bool) (j : Nat) : Nat := (ids K j).length
theorem ids_succ (K : List Bool) (n : Nat) : ids K (n + 1) = ids K n ++ if K.getD n default = true then [n] else [] := by
 unfold ids
 rw [List.range_succ, List.filter_append]
 refine congrArg (List.append _) ?_
 rw [List.filter_cons, List.filter_nil]
theorem rk_succ (K : List Bool) (j : Nat) : rk K (j + 1) = rk K j + if K.getD j default = true then 1 else 0 := by
 unfold rk
 rw [ids_succ, List.length_append]
 split <;> rfl
theorem rk_mono (K : List Bool) {i j : Nat} (h : i ≤ j) : rk K i ≤ rk K j := by
 induction j with
 | zero => rw [show i = 0 by omega]; exact Nat.le_refl _
 | succ j ih =>
  by_cases e : i = j + 1
  ·rw [e]; exact Nat.le_refl _
  ·have := ih (by omega)
   have := rk_succ K j
   omega
theorem rk_lt (K : List Bool) {i j : Nat} (h : i < j) (hi : K.getD i default = true) : rk K i < rk K j := by
 have := rk_mono K (i := i + 1) (j := j) (by omega)
 have := rk_succ K i
 rw [if_pos hi] at this
 omega
theorem rk_inj (K : List Bool) {i j : Nat} (hi : K.getD i default = true) (hj : K.getD j default = true) (h : rk K i = rk K j) : i = j := by
 rcases Nat.lt_trichotomy i j with e | e | e
 ·have := rk_lt K e hi; omega
 ·exact e
 ·have := rk_lt K e hj; omega
theorem ids_get (K : List Bool) : ∀ (n j : Nat), j < n → K.getD j default = true → rk K j < (ids K n).length ∧ (ids K n).getD (rk K j) default = j
 | 0, j, h, _ => by omega
 | n + 1, j, h, hj => by
  rw [ids_succ]
  by_cases e : j = n
  ·subst e
   rw [if_pos hj]
   refine ⟨by rw [List.length_append]; show rk K j < rk K j + 1; omega, ?_⟩
   show (ids K j ++ [j]).getD (ids K j).length default = j
   rw [List.getD_eq_getElem?_getD, List.getElem?_append_right (Nat.le_refl _), Nat.sub_self]
   rfl
  ·obtain ⟨h1, h2⟩ := ids_get K n j (by omega) hj
   refine ⟨by rw [List.length_append]; omega, ?_⟩
   rw [List.getD_eq_getElem?_getD, List.getElem?_append_left h1, ← List.getD_eq_getElem?_getD, h2]
theorem ids_at (K : List Bool) : ∀ (n r : Nat), r < (ids K n).length → (ids K n).getD r default < n ∧ K.getD ((ids K n).getD r default) default = true ∧ rk K ((ids K n).getD r default) = r
 | 0, r, h => by simp [ids] at h
 | n + 1, r, h => by
  rw [ids_succ] at h ⊢
  by_cases e : r < (ids K n).length
  ·obtain ⟨h1, h2, h3⟩ := ids_at K n r e
   rw [List.getD_eq_getElem?_getD, List.getElem?_append_left e, ← List.getD_eq_getElem?_getD]
   exact ⟨by omega, h2, h3⟩
  ·rw [List.length_append] at h
   split at h
   ·rename_i hk
    have hr : r = (ids K n).length := by simp only [List.length_singleton] at h; omega
    subst hr
    rw [if_pos hk, List.getD_eq_getElem?_getD, List.getElem?_append_right (Nat.le_refl _), Nat.sub_self]
    exact ⟨Nat.lt_succ_self n, hk, rfl⟩
   ·simp only [List.length_nil] at h
    omega
def mapN (f : Int → Int) (x : Node) : Node := ⟨x.lv, f x.k0, f x.k1, f x.k2, f x.k3, x.pop⟩
def rkI (K : List Bool) (q : Int) : Int := (rk K q.toNat : Nat)
theorem getD_set_ne {α : Type} [Inhabited α] {l : List α} {i j : Nat} {v : α} (h : i ≠ j) : (l.set i v).getD j default = l.getD j default := set_getD h
theorem getD_set_eq {α : Type} [Inhabited α] {l : List α} {i : Nat} {v : α} (h : i < l.length) : (l.set i v).getD i default = v := by
 rw [List.getD_eq_getElem?_getD, List.getElem?_set, if_pos rfl, if_pos h]
 rfl
/-- What is kept is closed. -/
structure Closed (ns : List Node) (K : List Bool) : Prop where
 len : K.length = ns.length
 z : K.getD 0 default = true
 o : K.getD 1 default = true
 kid : ∀ i, 2 ≤ i → i < ns.length → K.getD i default = true → ∀ q ∈ (ns.getD i default).kids, K.getD q.toNat default = true
theorem rk0 (K : List Bool) : rk K 0 = 0 := rfl
theorem Closed.rk1 {ns : List Node} {K : List Bool} (h : Closed ns K) : rk K 1 = 1 := by rw [rk_succ, if_pos h.z, rk0]
theorem liveAll_spec {ns : List Node} (hw : Wf ns) {K : List Bool} (h : Closed ns K) : ∀ i, i ≤ ns.length →
  ((List.range i).foldl (liveStep ns K) (List.replicate ns.length 0, [])).1.length = ns.length ∧
  (∀ j, j < i → K.getD j default = true → ((List.range i).foldl (liveStep ns K) (List.replicate ns.length 0, [])).1.getD j default = (rk K j : Nat)) ∧
  (∀ j, i ≤ j → ((List.range i).foldl (liveStep ns K) (List.replicate ns.length 0, [])).1.getD j default = 0) ∧
  ((List.range i).foldl (liveStep ns K) (List.replicate ns.length 0, [])).2 = (ids K i).map fun j => mapN (rkI K) (ns.getD j default)
 | 0, _ => by
  refine ⟨by simp, fun j hj => by omega, fun j _ => ?_, rfl⟩
  show (List.replicate ns.length (0 : Int)).getD j default = 0
  rw [List.getD_eq_getElem?_getD, List.getElem?_replicate]
  split <;> rfl
 | i + 1, hi => by
  obtain ⟨a, b, c, d⟩ := liveAll_spec hw h i (by omega)
  rw [List.range_succ, List.foldl_append, List.foldl_cons, List.foldl_nil]
  generalize (List.range i).foldl (liveStep ns K) (List.replicate ns.length 0, []) = s at *
  unfold liveStep
  rw [ids_succ]
  by_cases hk : K.getD i default = true
  ·rw [if_pos hk, if_pos hk]
   have hlen : s.2.length = rk K i := by rw [d, List.length_map]; rfl
   simp only
   refine ⟨by rw [List.length_set, a], fun j hj hkj => ?_, fun j hj => ?_, ?_⟩
   ·by_cases e : j = i
    ·subst e
     rw [getD_set_eq (by omega), hlen]
    ·rw [getD_set_ne (Ne.symm e)]
     exact b j (by omega) hkj
   ·rw [getD_set_ne (by omega)]
    exact c j (by omega)
   ·rw [d, List.map_append]
    congr 1
    simp only [List.map_cons, List.map_nil]
    congr 1
    have hq : ∀ q ∈ (ns.getD i default).kids, s.1.getD q.toNat default = rkI K q := by
     intro q hq
     by_cases h2 : 2 ≤ i
     ·have hlt := hw.kidsLt (by omega) h2 q hq
      exact b q.toNat (by omega) (h.kid i h2 (by omega) hk q hq)
     ·have hq0 : q = 0 := by
       rcases (by omega : i = 0 ∨ i = 1) with rfl | rfl
       ·rw [hw.z] at hq
        simpa [n0, Node.kids] using hq
       ·rw [hw.o] at hq
        simpa [n1, Node.kids] using hq
      subst hq0
      show s.1.getD 0 default = (rk K 0 : Nat)
      rcases (by omega : i = 0 ∨ i = 1) with rfl | rfl
      ·rw [c 0 (by omega)]; rfl
      ·rw [b 0 (by omega) h.z]
    unfold mapKids mapN
    rw [hq _ (by simp [Node.kids]), hq _ (by simp [Node.kids]), hq _ (by simp [Node.kids]), hq _ (by simp [Node.kids])]
  ·rw [if_neg hk, if_neg hk, List.append_nil]
   refine ⟨a, fun j hj hkj => b j ?_ hkj, fun j hj => c j (by omega), d⟩
   by_cases e : j = i
   ·subst e; exact absurd hkj hk
   ·omega
end R6
end Go.GL

set_option linter.unusedVariables false
namespace Go.GL
namespace R6
open R7 (IsN)
/-! ### What is live, as a store -/
def outM (ns : List Node) (K : List Bool) : List Node := (ids K ns.length).map fun j => mapN (rkI K) (ns.getD j default)
theorem out_len (ns : List Node) (K : List Bool) : (outM ns K).length = (ids K ns.length).length := by unfold outM; rw [List.length_map]
theorem out_len_le (ns : List Node) (K : List Bool) : (outM ns K).length ≤ ns.length := by
 rw [out_len]
 unfold ids
 have := List.length_filter_le (fun j => K.getD j default) (List.range ns.length)
 rwa [List.length_range] at this
theorem out_get {ns : List Node} {K : List Bool} {r : Nat} (h : r < (outM ns K).length) : (outM ns K).getD r default = mapN (rkI K) (ns.getD ((ids K ns.length).getD r default) default) := by
 rw [out_len] at h
 unfold outM
 rw [List.getD_eq_getElem?_getD, List.getElem?_map, List.getD_eq_getElem?_getD (l := ids K ns.length), List.getElem?_eq_getElem h]
 rfl
theorem out_rk {ns : List Node} {K : List Bool} {j : Nat} (hj : j < ns.length) (hk : K.getD j default = true) : rk K j < (outM ns K).length ∧ (outM ns K).getD (rk K j) default = mapN (rkI K) (ns.getD j default) := by
 obtain ⟨h1, h2⟩ := ids_get K ns.length j hj hk
 have h3 : rk K j < (outM ns K).length := by rw [out_len]; exact h1
 exact ⟨h3, by rw [out_get h3, h2]⟩
theorem out_at {ns : List Node} {K : List Bool} {r : Nat} (h : r < (outM ns K).length) : ∃ j, j < ns.length ∧ K.getD j default = true ∧ rk K j = r := by
 rw [out_len] at h
 obtain ⟨h1, h2, h3⟩ := ids_at K ns.length r h
 exact ⟨_, h1, h2, h3⟩
theorem out_nd {ns : List Node} {K : List Bool} {q : Int} (hq : inS ns q) (hk : K.getD q.toNat default = true) : inS (outM ns K) (rkI K q) ∧ nd (outM ns K) (rkI K q) = mapN (rkI K) (nd ns q) := by
 obtain ⟨h1, h2⟩ := out_rk (ns := ns) (K := K) (j := q.toNat) (by have := hq.1; have := hq.2; omega) hk
 refine ⟨⟨by unfold rkI; omega, by unfold rkI; omega⟩, ?_⟩
 unfold nd rkI
 rw [Int.toNat_natCast]
 exact h2
theorem rkI_inj {K : List Bool} {p q : Int} (hp0 : 0 ≤ p) (hq0 : 0 ≤ q) (hp : K.getD p.toNat default = true) (hq : K.getD q.toNat default = true) (h : rkI K p = rkI K q) : p = q := by
 unfold rkI at h
 have := rk_inj K hp hq (by omega)
 omega
theorem rkI_lt {K : List Bool} {p : Int} {j : Nat} (hp0 : 0 ≤ p) (hp : K.getD p.toNat default = true) (h : p < j) : rkI K p < rk K j := by
 unfold rkI
 have := rk_lt K (i := p.toNat) (j := j) (by omega) hp
 omega
theorem mapN_kids (f : Int → Int) (x : Node) : (mapN f x).kids = x.kids.map f := rfl
theorem Closed.wf {ns : List Node} (hw : Wf ns) {K : List Bool} (h : Closed ns K) : Wf (outM ns K) := by
 have hl := hw.len
 obtain ⟨l0, g0⟩ := out_rk (ns := ns) (K := K) (j := 0) (by omega) h.z
 obtain ⟨l1, g1⟩ := out_rk (ns := ns) (K := K) (j := 1) (by omega) h.o
 rw [rk0] at l0 g0
 rw [h.rk1] at l1 g1
 have hf0 : rkI K 0 = 0 := rfl
 refine ⟨by omega, ?_, ?_, fun i hi hi2 => ?_⟩
 ·rw [g0, hw.z]
  show (⟨0, rkI K 0, rkI K 0, rkI K 0, rkI K 0, 0⟩ : Node) = n0
  rw [hf0]; rfl
 ·rw [g1, hw.o]
  show (⟨0, rkI K 0, rkI K 0, rkI K 0, rkI K 0, 1⟩ : Node) = n1
  rw [hf0]; rfl
 ·obtain ⟨p, hp, hk, rfl⟩ := out_at hi
  have hp2 : 2 ≤ p := by
   rcases Nat.lt_or_ge p 2 with h2 | h2
   ·exfalso
    rcases (by omega : p = 0 ∨ p = 1) with rfl | rfl
    ·rw [rk0] at hi2; omega
    ·rw [h.rk1] at hi2; omega
   ·exact h2
  unfold fits
  obtain ⟨_, hg⟩ := out_rk hp hk
  rw [hg]
  have hkids := h.kid p hp2 hp hk
  have hlt := hw.kidsLt hp hp2
  unfold KidsLt at hlt
  obtain ⟨⟨a0, a1, a2⟩, ⟨b0, b1, b2⟩, ⟨c0, c1, c2⟩, ⟨d0, d1, d2⟩, f1, f2, f3, f4⟩ := hw.ok p hp hp2
  generalize hx : ns.getD p default = x at *
  have m0 : x.k0 ∈ x.kids := by simp [Node.kids]
  have m1 : x.k1 ∈ x.kids := by simp [Node.kids]
  have m2 : x.k2 ∈ x.kids := by simp [Node.kids]
  have m3 : x.k3 ∈ x.kids := by simp [Node.kids]
  have ko : ∀ q ∈ x.kids, (nd ns q).lv = x.lv - 1 → kidOk (outM ns K) (rk K p) (rkI K q) x.lv := by
   intro q hq hv
   obtain ⟨q0, q1⟩ := hlt q hq
   obtain ⟨e1, e2⟩ := out_nd (ns := ns) (K := K) (q := q) ⟨q0, by omega⟩ (hkids q hq)
   exact ⟨e1.1, rkI_lt q0 (hkids q hq) q1, by rw [e2]; exact hv⟩
  have np : ∀ q ∈ x.kids, nd (outM ns K) (rkI K q) = mapN (rkI K) (nd ns q) := by
   intro q hq
   obtain ⟨q0, q1⟩ := hlt q hq
   exact (out_nd (ns := ns) (K := K) (q := q) ⟨q0, by omega⟩ (hkids q hq)).2
  refine ⟨ko _ m0 a2, ko _ m1 b2, ko _ m2 c2, ko _ m3 d2, f1, f2, ?_, ?_⟩
  ·show x.pop = pop4 (outM ns K) (rkI K x.k0) (rkI K x.k1) (rkI K x.k2) (rkI K x.k3)
   unfold pop4
   rw [np _ m0, np _ m1, np _ m2, np _ m3, f3]
   rfl
  ·have ht := at_take (ns := outM ns K) (n := rk K p) hi2 hi
   rw [hg] at ht
   rw [ht]
   split
   ·rename_i hat
    exfalso
    obtain ⟨t1, t2, t3⟩ := at_found hat
    generalize R6.at_ (List.take (rk K p) (outM ns K)) (mapN (rkI K) x).kids = j at *
    have hj2 : j < rk K p := by
     have := t2.2
     rw [List.length_take] at this
     omega
    have hpre : (outM ns K).take (rk K p) <+: outM ns K := List.take_prefix _ _
    rw [← nd_pre hpre t2] at t3
    obtain ⟨p2, hp3, hk3, e3⟩ := out_at (ns := ns) (K := K) (r := j.toNat) (by omega)
    have hne : p2 ≠ p := by
     intro e; subst e; omega
    have hp22 : 2 ≤ p2 := by
     rcases Nat.lt_or_ge p2 2 with h2 | h2
     ·exfalso
      rcases (by omega : p2 = 0 ∨ p2 = 1) with rfl | rfl
      ·rw [rk0] at e3; omega
      ·rw [h.rk1] at e3; omega
     ·exact h2
    have e4 : nd (outM ns K) j = mapN (rkI K) (ns.getD p2 default) := by
     unfold nd
     rw [← e3]
     exact (out_rk hp3 hk3).2
    rw [e4, mapN_kids, mapN_kids] at t3
    have hkids2 := h.kid p2 hp22 hp3 hk3
    have hlt2 := hw.kidsLt hp3 hp22
    unfold KidsLt at hlt2
    have ok2 := hw.ok p2 hp3 hp22
    unfold R6.fits at ok2
    generalize hx2 : ns.getD p2 default = x2 at *
    have ek : x2.kids = x.kids := by
     simp only [Node.kids, List.map_cons, List.map_nil, List.cons.injEq, and_true] at t3
     have inj : ∀ a ∈ x2.kids, ∀ b ∈ x.kids, rkI K a = rkI K b → a = b := fun a ha b hb e => rkI_inj (hlt2 a ha).1 (hlt b hb).1 (hkids2 a ha) (hkids b hb) e
     simp only [Node.kids]
     rw [inj x2.k0 (by simp [Node.kids]) x.k0 m0 t3.1, inj x2.k1 (by simp [Node.kids]) x.k1 m1 t3.2.1, inj x2.k2 (by simp [Node.kids]) x.k2 m2 t3.2.2.1, inj x2.k3 (by simp [Node.kids]) x.k3 m3 t3.2.2.2]
    refine hne ?_
    have u1 : inS ns (p2 : Int) := ⟨by omega, by omega⟩
    have u2 : inS ns (p : Int) := ⟨by omega, by omega⟩
    have v1 : nd ns (p2 : Int) = x2 := by unfold nd; rw [Int.toNat_natCast, hx2]
    have v2 : nd ns (p : Int) = x := by unfold nd; rw [Int.toNat_natCast, hx]
    have := hw.uniq u1 u2 (by rw [v1]; have := ok2.2.2.2.2.1; omega) (by rw [v2]; omega) (by rw [v1, v2, ek])
    omega
   ·rfl
theorem kept_closed {ns : List Node} (hw : Wf ns) {roots : List Int} (hr : ∀ r ∈ roots, inS ns r) : Closed ns (kept ns roots) ∧ (∀ r ∈ roots, (kept ns roots).getD r.toNat default = true) ∧
  (∀ j, (kept ns roots).getD j default = true → j = 0 ∨ j = 1 ∨ (j : Int) ∈ roots ∨ ∃ p, 2 ≤ p ∧ p < ns.length ∧ j < p ∧ (kept ns roots).getD p default = true ∧ (j : Int) ∈ (ns.getD p default).kids) := by
 have hl := hw.len
 have hm := mem_keepRoots (n := ns.length) hl roots hr
 obtain ⟨a, b, c, d, e⟩ := keepDown_spec hw (ns.length - 2) (keepRoots ns.length roots) (by omega) (keepRoots_len _ _)
 refine ⟨⟨a, b 0 ((hm 0).2 (.inl rfl)), b 1 ((hm 1).2 (.inr (.inl rfl))), fun i h2 h3 hi q hq => d i h2 (by omega) hi q hq⟩, fun r hr' => ?_, fun j hj => ?_⟩
 ·refine b _ ((hm _).2 (.inr (.inr ?_)))
  rw [Int.toNat_of_nonneg (hr r hr').1]
  exact hr'
 ·rcases e j hj with h | ⟨p, p1, p2, p3, p4, p5⟩
  ·rcases (hm j).1 h with h | h | h
   ·exact .inl h
   ·exact .inr (.inl h)
   ·exact .inr (.inr (.inl h))
  ·exact .inr (.inr (.inr ⟨p, p1, by omega, p3, p4, p5⟩))
theorem live_eq {ns : List Node} {room : Int} {roots : List Int} (hw : R6.right ns room) (hr : ∀ r ∈ roots, inS ns r) : live ns room roots = (outM ns (kept ns roots), roots.map (rkI (kept ns roots)), 0) := by
 have hwf := (right_iff.1 hw).2
 obtain ⟨hc, hroot, _⟩ := kept_closed hwf hr
 obtain ⟨_, h2, _, h4⟩ := liveAll_spec hwf hc ns.length (Nat.le_refl _)
 unfold live
 rw [if_pos ⟨hw, fun i hi => by
  rw [List.getD_eq_getElem?_getD, List.getElem?_eq_getElem hi]
  exact hr _ (List.getElem_mem hi)⟩]
 refine Prod.ext ?_ (Prod.ext ?_ rfl)
 ·exact h4
 ·show roots.map _ = roots.map _
  refine List.map_congr_left fun r hr' => ?_
  have hin := hr r hr'
  have h1 := h2 r.toNat (by have := hin.1; have := hin.2; omega) (hroot r hr')
  exact h1
theorem rk_all {K : List Bool} {n : Nat} (h : ∀ j, j < n → K.getD j default = true) : ∀ j, j ≤ n → rk K j = j
 | 0, _ => rfl
 | j + 1, hj => by rw [rk_succ, if_pos (h j (by omega)), rk_all h j (by omega)]
theorem Wf.kids_bd {ns : List Node} (hw : Wf ns) {i : Nat} (hi : i < ns.length) : ∀ q ∈ (ns.getD i default).kids, 0 ≤ q ∧ q < ns.length := by
 intro q hq
 have hl := hw.len
 by_cases h2 : 2 ≤ i
 ·have := hw.kidsLt hi h2 q hq
  omega
 ·have hq0 : q = 0 := by
   rcases (by omega : i = 0 ∨ i = 1) with rfl | rfl
   ·rw [hw.z] at hq
    simpa [n0, Node.kids] using hq
   ·rw [hw.o] at hq
    simpa [n1, Node.kids] using hq
  omega
theorem out_all {ns : List Node} (hw : Wf ns) {K : List Bool} (h : ∀ j, j < ns.length → K.getD j default = true) : outM ns K = ns := by
 have hid : ids K ns.length = List.range ns.length := by
  unfold ids
  refine List.filter_eq_self.2 fun j hj => h j (List.mem_range.1 hj)
 have hrI : ∀ q : Int, 0 ≤ q → q < ns.length → rkI K q = q := by
  intro q h0 h1
  unfold rkI
  rw [rk_all h q.toNat (by omega)]
  omega
 apply List.ext_getElem
 ·rw [out_len, hid, List.length_range]
 ·intro i h1 h2
  have e := out_get (ns := ns) (K := K) h1
  have hb := hw.kids_bd h2
  rw [hid] at e
  have e2 : (List.range ns.length).getD i default = i := by
   rw [List.getD_eq_getElem?_getD, List.getElem?_range h2]
   rfl
  rw [e2] at e
  have e3 : (outM ns K).getD i default = (outM ns K)[i] := by rw [List.getD_eq_getElem?_getD, List.getElem?_eq_getElem h1]; rfl
  have e4 : ns.getD i default = ns[i] := by rw [List.getD_eq_getElem?_getD, List.getElem?_eq_getElem h2]; rfl
  rw [← e3, e, ← e4]
  generalize ns.getD i default = x at *
  have k0 := hb x.k0 (by simp [Node.kids])
  have k1 := hb x.k1 (by simp [Node.kids])
  have k2 := hb x.k2 (by simp [Node.kids])
  have k3 := hb x.k3 (by simp [Node.kids])
  unfold mapN
  rw [hrI _ k0.1 k0.2, hrI _ k1.1 k1.2, hrI _ k2.1 k2.2, hrI _ k3.1 k3.2]
/-- Done twice it is done once. -/
theorem live_twice {ns : List Node} {room : Int} {roots : List Int} (hw : R6.right ns room) (hr : ∀ r ∈ roots, inS ns r) :
  R6.right (outM ns (kept ns roots)) room ∧ (∀ r ∈ roots, inS (outM ns (kept ns roots)) (rkI (kept ns roots) r)) ∧ live (outM ns (kept ns roots)) room (roots.map (rkI (kept ns roots))) = (outM ns (kept ns roots), roots.map (rkI (kept ns roots)), 0) := by
 have hwf := (right_iff.1 hw).2
 obtain ⟨hc, hroot, hmin⟩ := kept_closed hwf hr
 generalize kept ns roots = K at *
 have hwo := hc.wf hwf
 have hlen := out_len_le ns K
 have hb := (right_iff.1 hw).1
 have hro : R6.right (outM ns K) room := right_iff.2 ⟨⟨hb.1, hb.2.1, by omega⟩, hwo⟩
 have hin : ∀ r ∈ roots, inS (outM ns K) (rkI K r) := fun r hr' => (out_nd (hr r hr') (hroot r hr')).1
 refine ⟨hro, hin, ?_⟩
 have hr2 : ∀ r ∈ roots.map (rkI K), inS (outM ns K) r := by
  intro r hr'
  obtain ⟨s, hs, rfl⟩ := List.mem_map.1 hr'
  exact hin s hs
 rw [live_eq hro hr2]
 obtain ⟨hc2, hroot2, _⟩ := kept_closed hwo hr2
 generalize kept (outM ns K) (roots.map (rkI K)) = K2 at *
 have all : ∀ (d j : Nat), ns.length - j ≤ d → j < ns.length → K.getD j default = true → K2.getD (rk K j) default = true := by
  intro d
  induction d with
  | zero => intro j h1 h2; omega
  | succ d ih =>
   intro j h1 h2 h3
   rcases hmin j h3 with rfl | rfl | hm | ⟨p, p1, p2, p3, p4, p5⟩
   ·rw [rk0]; exact hc2.z
   ·rw [hc.rk1]; exact hc2.o
   ·have := hroot2 (rkI K j) (List.mem_map_of_mem hm)
    unfold rkI at this
    rwa [Int.toNat_natCast, Int.toNat_natCast] at this
   ·have hp := ih p (by omega) p2 p4
    obtain ⟨o1, o2⟩ := out_rk p2 p4
    have hp2 : 2 ≤ rk K p := by
     have := rk_lt K (i := 1) (j := p) (by omega) hc.o
     rw [hc.rk1] at this
     omega
    have := hc2.kid (rk K p) hp2 o1 hp (rkI K j) (by rw [o2, mapN_kids]; exact List.mem_map_of_mem p5)
    unfold rkI at this
    rwa [Int.toNat_natCast, Int.toNat_natCast] at this
 have all2 : ∀ j, j < (outM ns K).length → K2.getD j default = true := by
  intro j hj
  obtain ⟨p, h1, h2, rfl⟩ := out_at hj
  exact all (ns.length - p) p (Nat.le_refl _) h1 h2
 rw [out_all hwo all2]
 refine Prod.ext rfl (Prod.ext ?_ rfl)
 show (roots.map (rkI K)).map (rkI K2) = roots.map (rkI K)
 rw [List.map_map]
 refine List.map_congr_left fun r hr' => ?_
 have h1 := hin r hr'
 show rkI K2 (rkI K r) = rkI K r
 generalize rkI K r = q at *
 unfold rkI
 rw [rk_all all2 q.toNat (by have := h1.1; have := h1.2; omega)]
 exact Int.toNat_of_nonneg h1.1
theorem bitsUp_congr {m : Nat} (hm : 0 < m) {q q' : Nat → List UInt8} (h : ∀ k, k < 4 → q k = q' k) : ∀ y, y ≤ 2 * m → bitsUp m q y = bitsUp m q' y
 | 0, _ => rfl
 | y + 1, hy => by
  have hd : y / m < 2 := Nat.div_lt_of_lt_mul (by rw [Nat.mul_comm]; omega)
  show bitsUp m q y ++ _ ++ _ = bitsUp m q' y ++ _ ++ _
  rw [bitsUp_congr hm h y (by omega), h _ (by omega), h _ (by omega)]
/-- What is kept stands for what it stood for. -/
theorem out_bits {ns : List Node} (hw : Wf ns) {K : List Bool} (h : Closed ns K) : ∀ (lv : Nat) (n : Int), IsN ns lv n → K.getD n.toNat default = true → bitsM (outM ns K) lv (rkI K n) = bitsM ns lv n
 | 0, n, hn, hk => by
  obtain ⟨_, e⟩ := out_nd hn.1 hk
  unfold bitsM
  rw [e]
  rfl
 | lv + 1, n, hn, hk => by
  obtain ⟨_, e⟩ := out_nd hn.1 hk
  obtain ⟨k0, k1, k2, k3⟩ := R7.kids4 hw hn
  have h2 := hw.two hn.1 (by rw [hn.2]; omega)
  have hlt := hn.1.2
  have hkid := h.kid n.toNat (by omega) (by omega) hk
  refine bitsUp_congr (Nat.two_pow_pos lv) (fun k hk => ?_) _ (Nat.le_refl _)
  rw [e, mapN_kids]
  have key : ∀ q ∈ (nd ns n).kids, IsN ns lv q → bitsM (outM ns K) lv (rkI K q) = bitsM ns lv q := fun q hq hi => out_bits hw h lv q hi (hkid q hq)
  have e0 := key (nd ns n).k0 (by simp [Node.kids]) k0
  have e1 := key (nd ns n).k1 (by simp [Node.kids]) k1
  have e2 := key (nd ns n).k2 (by simp [Node.kids]) k2
  have e3 := key (nd ns n).k3 (by simp [Node.kids]) k3
  generalize nd ns n = x at *
  match k, hk with
  | 0, _ => exact e0
  | 1, _ => exact e1
  | 2, _ => exact e2
  | 3, _ => exact e3
  | k + 4, hk => omega
end R6
end Go.GL

set_option linter.unusedVariables false
namespace Go.GL
open Go.Proofs
attribute [local irreducible] wpList Code.wp Exit.then Exit.inBlock Ends Tri TriH OpV OpG FnC epf wpAnyH
variable {A : List Asrt} {I : List Chunk}
open R7 (IsN)
set_option maxRecDepth 100000 in
theorem law06_bitsT {ns : List Node} {a : Option Addr} {cap : Nat} {room : Int} {n : Int} (hw : R6.Wf ns) (hn : ns.length ≤ 1000000000) (hs : SlAt I a ns) (hi : R6.inS ns n) :
  FnC Try.prog 26 [storeV a ns.length cap room, .int .i64 n].toArray A I (fun v A' I' => v = strV (R6.bitsT ns n) ∧ A = A' ∧ I = I') := by
 have hlv := hw.lvb hi
 by_cases h : 4 < (R6.nd ns n).lv
 ·have h1 := hi.1
  have h2 := hi.2
  have h' : 4 < (ns.getD n.toNat default).lv := h
  refine fn_enter2 Try.func26 rfl Try.ntmps26 rfl fun w0 => ?_
  refine tS (tR ?_)
  first | refine tri_g (opg_box_agg rfl) rfl ?_ | refine tri_g (opg_box1 rfl rfl) rfl ?_
  rintro _ _ _ ⟨b, rfl, rfl, rfl⟩
  refine tA rfl rfl (tN (tT (tS (tS (tR (tM rfl rfl ?_))))))
  refine tri_v (opv_lss rfl rfl) rfl ?_
  refine tM rfl rfl ?_
  refine tri_false rfl rfl ((by omega)) ?_
  refine tri_guard_run rfl rfl rfl (tM rfl rfl (tri_guard_run rfl rfl rfl ?_))
  refine tri_v (by first | exact opv_fieldAddr rfl rfl | exact opv_fieldAddrE rfl (by assumption) (by omega) rfl | exact opv_fieldAddrR rfl (by omega) rfl) rfl ?_
  refine tri_guard_run rfl rfl rfl ?_
  refine tri_v (by first | exact opv_load1 rfl rfl rfl | exact opv_loadA rfl rfl rfl | exact opv_loadE1 rfl (by assumption) rfl (by omega) rfl rfl | exact opv_loadEA rfl (by assumption) rfl (by omega) rfl rfl | exact opv_loadRX1 rfl rfl (by omega) rfl rfl | exact opv_loadRXA rfl rfl (by omega) rfl rfl rfl | exact opv_loadIX rfl rfl (by omega) | exact opv_loadR1 rfl rfl rfl | exact opv_loadRA rfl rfl rfl rfl) rfl ?_
  refine tri_guard_run rfl rfl rfl ?_
  refine tri_v (opv_len rfl) rfl ?_
  refine tri_guard_run rfl rfl rfl ?_
  refine tri_v (opv_geq rfl rfl) rfl ?_
  refine tri_v (by first | exact opv_pick_t rfl rfl | exact opv_pick_f rfl rfl | exact opv_pick_bool rfl rfl rfl | exact opv_pick rfl rfl rfl) rfl ?_
  refine tN (tT ?_)
  refine tri_cond_not rfl ((by omega)) ?_
  refine tri_skip (tT (tS (tR ?_)))
  refine tri_v (by first | exact opv_fieldAddr rfl rfl | exact opv_fieldAddrE rfl (by assumption) (by omega) rfl | exact opv_fieldAddrR rfl (by omega) rfl) rfl ?_
  refine tri_v (by first | exact opv_load1 rfl rfl rfl | exact opv_loadA rfl rfl rfl | exact opv_loadE1 rfl (by assumption) rfl (by omega) rfl rfl | exact opv_loadEA rfl (by assumption) rfl (by omega) rfl rfl | exact opv_loadRX1 rfl rfl (by omega) rfl rfl | exact opv_loadRXA rfl rfl (by omega) rfl rfl rfl | exact opv_loadIX rfl rfl (by omega) | exact opv_loadR1 rfl rfl rfl | exact opv_loadRA rfl rfl rfl rfl) rfl ?_
  refine tM rfl rfl ?_
  refine tri_v (by first | exact opv_indexAddrA rfl rfl (by first | decide | omega) (by first | decide | omega) | exact opv_indexAddrSN rfl rfl (by omega) (by assumption) rfl | exact opv_indexAddrS rfl rfl (by omega) (by omega) (by assumption) rfl | exact opv_indexAddrE rfl (by assumption) (by omega) rfl (by first | decide | omega) (by first | decide | omega) | exact opv_indexAddrRN rfl rfl (by omega) | exact opv_indexAddrR rfl rfl (by omega) (by omega) | exact opv_indexAddrRA rfl (by omega) rfl (by first | decide | omega) (by first | decide | omega)) rfl ?_
  refine tri_v (by first | exact opv_load1 rfl rfl rfl | exact opv_loadA rfl rfl rfl | exact opv_loadE1 rfl (by assumption) rfl (by omega) rfl rfl | exact opv_loadEA rfl (by assumption) rfl (by omega) rfl rfl | exact opv_loadRX1 rfl rfl (by omega) rfl rfl | exact opv_loadRXA rfl rfl (by omega) rfl rfl rfl | exact opv_loadIX rfl rfl (by omega) | exact opv_loadR1 rfl rfl rfl | exact opv_loadRA rfl rfl rfl rfl) rfl ?_
  refine tri_g opg_alloc rfl ?_
  rintro _ _ _ ⟨b, rfl, rfl, rfl⟩
  refine tri_g (opg_store rfl rfl rfl rfl rfl rfl) rfl ?_
  rintro _ _ _ ⟨rfl, rfl⟩
  refine tN (tT (tS (tS (tR ?_))))
  refine tri_v (by first | exact opv_fieldAddr rfl rfl | exact opv_fieldAddrE rfl (by assumption) (by omega) rfl | exact opv_fieldAddrR rfl (by omega) rfl) rfl ?_
  refine tri_v (by first | exact opv_load1 rfl rfl rfl | exact opv_loadA rfl rfl rfl | exact opv_loadE1 rfl (by assumption) rfl (by omega) rfl rfl | exact opv_loadEA rfl (by assumption) rfl (by omega) rfl rfl | exact opv_loadRX1 rfl rfl (by omega) rfl rfl | exact opv_loadRXA rfl rfl (by omega) rfl rfl rfl | exact opv_loadIX rfl rfl (by omega) | exact opv_loadR1 rfl rfl rfl | exact opv_loadRA rfl rfl rfl rfl) rfl ?_
  refine tri_v (opv_gtr rfl rfl) rfl ?_
  refine tN (tT ?_)
  refine tri_cond_is rfl ((by omega)) ?_
  refine tS (tR (tA rfl rfl (tN (tT (tri_ret (tri_then_ret ?_))))))
  refine tri_end A Suf.h rfl (.cons (rv_tmp rfl) .nil) ⟨?_, rfl, rfl⟩
  unfold R6.bitsT
  rw [if_pos h]
  rfl
 ·have e : R6.bitsT ns n = R6.bitsM ns (R6.nd ns n).lv.toNat n := if_neg h
  rw [e]
  exact law06_bits hw hn _ (by omega) hs ⟨hi, by omega⟩
theorem map_getD {α β : Type} [Inhabited α] [Inhabited β] (f : α → β) {l : List α} {i : Nat} (h : i < l.length) : (l.map f).getD i default = f (l.getD i default) := by
 rw [List.getD_eq_getElem?_getD, List.getD_eq_getElem?_getD, List.getElem?_map, List.getElem?_eq_getElem h]
 rfl
theorem R6.live_law {s : List Node} {rm : Int} {ins : List Int} {r : List Node × List Int × Int} (hst : R6.right s rm) (hins : ∀ r ∈ ins, R6.inS s r) (h : R6.live s rm ins = r) :
  r.2.2 = 0 ∧ R6.right r.1 rm ∧ r.1.length ≤ s.length ∧ r.2.1.length = ins.length ∧ R6.Wf r.1 ∧ R6.live r.1 rm r.2.1 = r ∧ ∀ k, k < ins.length → R6.inS r.1 (r.2.1.getD k default) ∧ R6.inS s (ins.getD k default) ∧ (R6.nd r.1 (r.2.1.getD k default)).lv = (R6.nd s (ins.getD k default)).lv ∧
   (R6.nd r.1 (r.2.1.getD k default)).pop = (R6.nd s (ins.getD k default)).pop ∧ R6.bitsT r.1 (r.2.1.getD k default) = R6.bitsT s (ins.getD k default) := by
 have hwf := (R6.right_iff.1 hst).2
 have hel := R6.live_eq hst hins
 obtain ⟨hro, hinm, hel2⟩ := R6.live_twice hst hins
 obtain ⟨hc, hroot, _⟩ := R6.kept_closed hwf hins
 rw [hel] at h
 subst h
 refine ⟨rfl, hro, R6.out_len_le s (R6.kept s ins), List.length_map _, hc.wf hwf, hel2, fun k hk => ?_⟩
 have hm : ins.getD k default ∈ ins := by
  rw [List.getD_eq_getElem?_getD, List.getElem?_eq_getElem hk]
  exact List.getElem_mem hk
 simp only
 rw [map_getD _ hk]
 have h1 := hins _ hm
 have h2 := hroot _ hm
 obtain ⟨h3, h4⟩ := R6.out_nd h1 h2
 refine ⟨h3, h1, by rw [h4]; rfl, by rw [h4]; rfl, ?_⟩
 have hlv := hwf.lvb h1
 unfold R6.bitsT
 rw [h4]
 show (if 4 < (R6.nd s (ins.getD k default)).lv then _ else R6.bitsM _ (R6.nd s (ins.getD k default)).lv.toNat _) = _
 by_cases h5 : 4 < (R6.nd s (ins.getD k default)).lv
 ·rw [if_pos h5, if_pos h5]
 ·rw [if_neg h5, if_neg h5, R6.out_bits hwf hc _ _ ⟨h1, by omega⟩ h2]
set_option maxHeartbeats 2000000 in
set_option maxRecDepth 100000 in
theorem law06_live {raw : List Five} {roots : List Int} {a2 a3 : Option Addr} {cap2 cap3 : Nat} {room : Int} (h0 : I64 room) (hs2 : SlAt I a2 raw) (hf : RL.Fs raw) (hs3 : SlAt I a3 roots) (hr : ∀ i, i < roots.length → I64 (roots.getD i default)) :
  FnC Try.prog 6 [.int .i64 room, .slice a2 raw.length cap2, .slice a3 roots.length cap3].toArray A I (fun v A' I' => v = .bool true ∧ A = A' ∧ I ⊆ I') := by
 have hst := R6.store_st room raw
 skip
 refine fn_enter3 Try.func6 rfl Try.ntmps6 rfl fun w0 => ?_
 refine tS (tR (tA rfl rfl (tN (tT (tS (tR ?_))))))
 refine tri_g (opg_call (xs := []) rfl (law06_awake)) rfl ?_
 rintro _ _ I0 ⟨rfl, rfl, hI0⟩
 refine tA rfl rfl (tN (tT (tS (tR (tM rfl rfl (tM rfl rfl ?_))))))
 refine tri_g (opg_call (xs := [_, _]) rfl (law06_store h0 (hs2.mono hI0) hf)) rfl ?_
 rintro _ _ I1 ⟨x1, y1, rfl, hs, rfl, hI1⟩
 generalize RL.store (RL.room room) raw = s at *
 generalize RL.room room = rm at *
 have hfew := hst.few
 have hlo := hst.wf.len
 have hs3' : SlAt I1 a3 roots := (hs3.mono hI0).mono hI1
 refine tri_g opg_alloc rfl ?_
 rintro _ _ _ ⟨b8, rfl, rfl, rfl⟩
 refine tri_g (opg_store rfl rfl rfl rfl rfl rfl) rfl ?_
 rintro _ _ _ ⟨rfl, rfl⟩
 refine tN (tT (tS (tR (tA rfl rfl (tN (tT (tS ?_)))))))
 refine tS (tR (tA rfl rfl (tN (tT ?_))))
 refine tri_cut (fun F' A' J => ∃ (i : Nat) (a5 : Option Addr) (c5 : Nat), i ≤ 5 ∧ i ≤ roots.length ∧ F' = [(7, .bool true), (8, pt b8 0), (9, .slice a5 ((roots.take i).map fun r => pk r s.length).length c5)] ∧ A' = Box b8 [.slice x1 s.length y1, .int .i64 rm] 25 :: A ∧ SlAt J a5 ((roots.take i).map fun r => pk r s.length) ∧ I1 ⊆ J) ?_ ?_
 ·refine tri_block ?_
  refine tri_nilRow (E := 3) (sz := 1) ?_
  refine tri_sub (F' := [(2, .slice a3 roots.length cap3), (7, .bool true), (8, pt b8 0), (9, .slice none ((roots.take 0).map fun r => pk r s.length).length 0), (10, .int .i64 ((0 : Nat) : Int))]) ⟨rfl, rfl, rfl, rfl, rfl, trivial⟩ ?_
  refine loop_ind (G := Nat × Option Addr × Nat) (fun g => 5 - g.1) (fun g => g.1 ≤ 5 ∧ g.1 ≤ roots.length) (fun g => [(2, .slice a3 roots.length cap3), (7, .bool true), (8, pt b8 0), (9, .slice g.2.1 ((roots.take g.1).map fun r => pk r s.length).length g.2.2), (10, .int .i64 (g.1 : Nat))]) (fun g => Row g.2.1 g.2.2 ((roots.take g.1).map fun r => pk r s.length).length 3 1 (encs ((roots.take g.1).map fun r => pk r s.length)) :: Box b8 [.slice x1 s.length y1, .int .i64 rm] 25 :: A) (fun _ => I1) ?_ (0, none, 0) ⟨by simp, by simp⟩
  rintro ⟨i, a5, c5⟩ ⟨hi, hi2⟩ K hK
  simp only at hi hi2 hK ⊢
  have hln : ((roots.take i).map fun r => pk r s.length).length = i := by rw [List.length_map, List.length_take, Nat.min_eq_left hi2]
  skip
  refine tS (tS (tR (tM rfl rfl (tM rfl rfl ?_))))
  refine tri_v (opv_len rfl) rfl ?_
  refine tri_v (opv_lss rfl rfl) rfl ?_
  refine tM rfl rfl ?_
  refine tri_split rfl rfl (fun h1 => ?_) (fun h1 => ?_)
  ·refine tri_guard_run rfl rfl rfl (tM rfl rfl (tri_guard_run rfl rfl rfl ?_))
   refine tri_v (opv_lss rfl rfl) rfl ?_
   refine tri_v (by first | exact opv_pick_t rfl rfl | exact opv_pick_f rfl rfl | exact opv_pick_bool rfl rfl rfl | exact opv_pick rfl rfl rfl) rfl ?_
   refine tN (tT ?_)
   refine tri_cond_dec rfl (fun h2 => ?_) (fun h2 => ?_)
   ·have hil : i < roots.length := by omega
    have hrI : I64 (roots.getD (i : Int).toNat default) := hr i hil
    have hstep : (roots.take (i + 1)).map (fun r => pk r s.length) = (roots.take i).map (fun r => pk r s.length) ++ [pk (roots.getD i default) s.length] := by
     rw [List.take_succ_eq_append_getElem hil, List.map_append]
     have : roots.getD i default = roots[i] := by rw [List.getD_eq_getElem?_getD, List.getElem?_eq_getElem hil]; rfl
     rw [this]
     rfl
    skip
    refine tri_skip (tT (tS (tri_block ?_)))
    refine tri_draw [0, 1, 2, 3, 4, 5, 6, 7, 8, 9, 10, 11] rfl [_] rfl mixed ?_
    refine th_take rfl rfl (by kernel_rfl)  (opv_move rfl) ?_
    refine th_take rfl rfl (by kernel_rfl)  (opv_move rfl) ?_
    refine th_take rfl rfl (by kernel_rfl)  (opv_move rfl) ?_
    refine th_take rfl rfl (by kernel_rfl)  (by first | exact opv_indexAddrA rfl rfl (by first | decide | omega) (by first | decide | omega) | exact opv_indexAddrSN rfl rfl (by omega) (by assumption) rfl | exact opv_indexAddrS rfl rfl (by omega) (by omega) (by assumption) rfl | exact opv_indexAddrE rfl (by assumption) (by omega) rfl (by first | decide | omega) (by first | decide | omega) | exact opv_indexAddrRN rfl rfl (by omega) | exact opv_indexAddrR rfl rfl (by omega) (by omega) | exact opv_indexAddrRA rfl (by omega) rfl (by first | decide | omega) (by first | decide | omega)) ?_
    refine th_take rfl rfl (by kernel_rfl)  (by first | exact opv_load1 rfl rfl rfl | exact opv_loadA rfl rfl rfl | exact opv_loadE1 rfl (by assumption) rfl (by omega) rfl rfl | exact opv_loadEA rfl (by assumption) rfl (by omega) rfl rfl | exact opv_loadRX1 rfl rfl (by omega) rfl rfl | exact opv_loadRXA rfl rfl (by omega) rfl rfl rfl | exact opv_loadIX rfl rfl (by omega) | exact opv_loadR1 rfl rfl rfl | exact opv_loadRA rfl rfl rfl rfl) ?_
    refine th_take rfl rfl (by kernel_rfl)  (by first | exact opv_fieldAddr rfl rfl | exact opv_fieldAddrE rfl (by assumption) (by omega) rfl | exact opv_fieldAddrR rfl (by omega) rfl) ?_
    refine th_take rfl rfl (by kernel_rfl)  (by first | exact opv_load1 rfl rfl rfl | exact opv_loadA rfl rfl rfl | exact opv_loadE1 rfl (by assumption) rfl (by omega) rfl rfl | exact opv_loadEA rfl (by assumption) rfl (by omega) rfl rfl | exact opv_loadRX1 rfl rfl (by omega) rfl rfl | exact opv_loadRXA rfl rfl (by omega) rfl rfl rfl | exact opv_loadIX rfl rfl (by omega) | exact opv_loadR1 rfl rfl rfl | exact opv_loadRA rfl rfl rfl rfl) ?_
    refine th_take rfl rfl (by kernel_rfl)  (opv_len rfl) ?_
    refine th_one (by kernel_rfl) (step_m rfl rfl (opg_call (xs := [_, _]) rfl (law06_pick (n := (s.length : Int)) hrI.1 hrI.2 (by omega))) ?_)
    rintro _ _ _ ⟨rfl, rfl, rfl⟩
    refine ⟨Suf.h, (by first | exact fun _ h => h | assumption | exact fun _ h => (by assumption : _ ⊆ _) ((by assumption : _ ⊆ _) h)), ?_⟩
    refine th_one (by kernel_rfl) (step_m rfl rfl (opg_buildSlice rfl rfl rfl rfl) ?_)
    rintro _ _ _ ⟨b41, rfl, rfl, rfl⟩
    refine ⟨Suf.h, (by first | exact fun _ h => h | assumption | exact fun _ h => (by assumption : _ ⊆ _) ((by assumption : _ ⊆ _) h)), ?_⟩
    refine th_one (by kernel_rfl) (step_m rfl rfl (opg_appendB rfl rfl rfl rfl (by omega) rfl) ?_)
    rintro _ _ _ ⟨a6, c6, rfl, rfl, rfl⟩
    refine ⟨Suf.h, (by first | exact fun _ h => h | assumption | exact fun _ h => (by assumption : _ ⊆ _) ((by assumption : _ ⊆ _) h)), ?_⟩
    refine th_take rfl rfl (by kernel_rfl)  (opv_assign rfl) ?_
    refine th_done (by kernel_rfl) ?_
    refine tri_inBlock ?_
    refine tT (tR (tM rfl rfl ?_))
    refine tri_v (by first | exact opv_add rfl rfl (w64 (by omega) (by omega))) rfl ?_
    refine tA rfl rfl (tN (tT ?_))
    refine tri_drop ?_
    refine tri_rowEq (len' := ((roots.take (i + 1)).map fun r => pk r s.length).length) (cells' := encs ((roots.take (i + 1)).map fun r => pk r s.length)) (by rw [hstep]; simp) (by rw [hstep, encs_append]; rfl) ?_
    refine tri_sub ?_ (hK (i + 1, a6, c6) (by simp only; omega) (by simp only; omega))
    exact ⟨rfl, rfl, rfl, by simp only [hstep, List.length_append]; rfl, rfl, trivial⟩
   ·refine tri_exit ?_
    refine tri_then_exit ?_
    refine tri_then_exit ?_
    refine tri_inBlock_hit rfl ?_
    refine tri_freezeRow rfl fun I5 hI5 hs5 => ?_
    exact tri_cutEnd _ ⟨i, a5, c5, hi, hi2, rfl, rfl, hs5, hI5⟩ ⟨rfl, rfl, rfl, trivial⟩
  ·refine tri_guard_skip rfl rfl rfl rfl (tri_guard_skip rfl rfl rfl rfl ?_)
   refine tri_v (by first | exact opv_pick_t rfl rfl | exact opv_pick_f rfl rfl | exact opv_pick_bool rfl rfl rfl | exact opv_pick rfl rfl rfl) rfl ?_
   refine tN (tT ?_)
   refine tri_cond_false rfl ?_
   refine tri_exit ?_
   refine tri_then_exit ?_
   refine tri_then_exit ?_
   refine tri_inBlock_hit rfl ?_
   refine tri_freezeRow rfl fun I5 hI5 hs5 => ?_
   exact tri_cutEnd _ ⟨i, a5, c5, hi, hi2, rfl, rfl, hs5, hI5⟩ ⟨rfl, rfl, rfl, trivial⟩
 rintro _ _ I5 ⟨i, a5, c5, hi, hi2, rfl, rfl, hs5, hI5⟩
 have hlen5 : ((roots.take i).map fun r => pk r s.length).length ≤ 5 := by rw [List.length_map, List.length_take]; omega
 have hins : ∀ r ∈ (roots.take i).map (fun r => pk r s.length), R6.inS s r := by
  intro r hr'
  obtain ⟨c, _, rfl⟩ := List.mem_map.1 hr'
  have := pk_bd (c := c) (n := (s.length : Int)) (by omega)
  exact ⟨by omega, by omega⟩
 generalize (roots.take i).map (fun r => pk r s.length) = ins at *
 obtain ⟨r, hel⟩ : ∃ r, R6.live s rm ins = r := ⟨_, rfl⟩
 obtain ⟨hok, hro, hol, hal, hwo, hel2, hat⟩ := R6.live_law hst.right hins hel
 skip
 refine tT (tS (tR ?_))
 refine tri_v (by first | exact opv_load1 rfl rfl rfl | exact opv_loadA rfl rfl rfl | exact opv_loadE1 rfl (by assumption) rfl (by omega) rfl rfl | exact opv_loadEA rfl (by assumption) rfl (by omega) rfl rfl | exact opv_loadRX1 rfl rfl (by omega) rfl rfl | exact opv_loadRXA rfl rfl (by omega) rfl rfl rfl | exact opv_loadIX rfl rfl (by omega) | exact opv_loadR1 rfl rfl rfl | exact opv_loadRA rfl rfl rfl rfl) rfl ?_
 refine tM rfl rfl ?_
 refine tri_g (opg_call (xs := [_, _]) rfl (node_liveR (hs.mono hI5) (by omega) hs5 (by omega) hel)) rfl ?_
 rintro _ _ I6 ⟨u0, v0, u1, v1, rfl, g0, g1, rfl, hI6⟩
 have hs6 := (hs.mono hI5).mono hI6
 have hs6l := hs6.sl
 have hs56 := hs5.mono hI6
 have g0l := g0.sl
 refine tM rfl rfl ?_
 refine tri_v (opv_extract rfl rfl) rfl ?_
 refine tri_v (opv_extract rfl rfl) rfl ?_
 refine tri_v (opv_extract rfl rfl) rfl ?_
 refine tri_g opg_alloc rfl ?_
 rintro _ _ _ ⟨b11, rfl, rfl, rfl⟩
 refine tri_g (opg_store rfl rfl rfl rfl rfl rfl) rfl ?_
 rintro _ _ _ ⟨rfl, rfl⟩
 refine tA rfl rfl (tA rfl rfl (tN (tT (tS (tS (tR (tM rfl rfl ?_)))))))
 refine tri_v (by first | exact opv_neq rfl rfl | exact opv_neqI rfl rfl rfl rfl rfl rfl | exact opv_neqB rfl rfl) rfl ?_
 refine tM rfl rfl ?_
 refine tri_false rfl rfl ((fun h => h hok)) ?_
 refine tri_guard_run rfl rfl rfl (tM rfl rfl (tri_guard_run rfl rfl rfl ?_))
 refine tri_v (opv_len rfl) rfl ?_
 refine tri_guard_run rfl rfl rfl (tM rfl rfl (tri_guard_run rfl rfl rfl ?_))
 refine tri_v (opv_len rfl) rfl ?_
 refine tri_guard_run rfl rfl rfl ?_
 refine tri_v (by first | exact opv_neq rfl rfl | exact opv_neqI rfl rfl rfl rfl rfl rfl | exact opv_neqB rfl rfl) rfl ?_
 refine tri_v (by first | exact opv_pick_t rfl rfl | exact opv_pick_f rfl rfl | exact opv_pick_bool rfl rfl rfl | exact opv_pick rfl rfl rfl) rfl ?_
 refine tM rfl rfl ?_
 refine tri_false rfl rfl ((by omega)) ?_
 refine tri_guard_run rfl rfl rfl ?_
 refine tri_v (by first | exact opv_load1 rfl rfl rfl | exact opv_loadA rfl rfl rfl | exact opv_loadE1 rfl (by assumption) rfl (by omega) rfl rfl | exact opv_loadEA rfl (by assumption) rfl (by omega) rfl rfl | exact opv_loadRX1 rfl rfl (by omega) rfl rfl | exact opv_loadRXA rfl rfl (by omega) rfl rfl rfl | exact opv_loadIX rfl rfl (by omega) | exact opv_loadR1 rfl rfl rfl | exact opv_loadRA rfl rfl rfl rfl) rfl ?_
 refine tri_guard_run rfl rfl rfl ?_
 refine tri_g (opg_call (xs := [_]) rfl (node_right g0 (by omega))) rfl ?_
 rintro _ _ _ ⟨rfl, rfl, rfl⟩
 refine tri_guard_run rfl rfl rfl ?_
 refine tri_v (by first | exact opv_notD rfl | exact opv_not rfl) rfl ?_
 refine tri_v (by first | exact opv_pick_t rfl rfl | exact opv_pick_f rfl rfl | exact opv_pick_bool rfl rfl rfl | exact opv_pick rfl rfl rfl) rfl ?_
 refine tM rfl rfl ?_
 refine tri_false rfl rfl ((fun h => h hro)) ?_
 refine tri_guard_run rfl rfl rfl ?_
 refine tri_v (by first | exact opv_fieldAddr rfl rfl | exact opv_fieldAddrE rfl (by assumption) (by omega) rfl | exact opv_fieldAddrR rfl (by omega) rfl) rfl ?_
 refine tri_guard_run rfl rfl rfl ?_
 refine tri_v (by first | exact opv_load1 rfl rfl rfl | exact opv_loadA rfl rfl rfl | exact opv_loadE1 rfl (by assumption) rfl (by omega) rfl rfl | exact opv_loadEA rfl (by assumption) rfl (by omega) rfl rfl | exact opv_loadRX1 rfl rfl (by omega) rfl rfl | exact opv_loadRXA rfl rfl (by omega) rfl rfl rfl | exact opv_loadIX rfl rfl (by omega) | exact opv_loadR1 rfl rfl rfl | exact opv_loadRA rfl rfl rfl rfl) rfl ?_
 refine tri_guard_run rfl rfl rfl ?_
 refine tri_v (opv_len rfl) rfl ?_
 refine tri_guard_run rfl rfl rfl ?_
 refine tri_v (by first | exact opv_fieldAddr rfl rfl | exact opv_fieldAddrE rfl (by assumption) (by omega) rfl | exact opv_fieldAddrR rfl (by omega) rfl) rfl ?_
 refine tri_guard_run rfl rfl rfl ?_
 refine tri_v (by first | exact opv_load1 rfl rfl rfl | exact opv_loadA rfl rfl rfl | exact opv_loadE1 rfl (by assumption) rfl (by omega) rfl rfl | exact opv_loadEA rfl (by assumption) rfl (by omega) rfl rfl | exact opv_loadRX1 rfl rfl (by omega) rfl rfl | exact opv_loadRXA rfl rfl (by omega) rfl rfl rfl | exact opv_loadIX rfl rfl (by omega) | exact opv_loadR1 rfl rfl rfl | exact opv_loadRA rfl rfl rfl rfl) rfl ?_
 refine tri_guard_run rfl rfl rfl ?_
 refine tri_v (opv_len rfl) rfl ?_
 refine tri_guard_run rfl rfl rfl ?_
 refine tri_v (opv_gtr rfl rfl) rfl ?_
 refine tri_v (by first | exact opv_pick_t rfl rfl | exact opv_pick_f rfl rfl | exact opv_pick_bool rfl rfl rfl | exact opv_pick rfl rfl rfl) rfl ?_
 refine tM rfl rfl ?_
 refine tri_false rfl rfl ((by omega)) ?_
 refine tri_guard_run rfl rfl rfl ?_
 refine tri_v (by first | exact opv_fieldAddr rfl rfl | exact opv_fieldAddrE rfl (by assumption) (by omega) rfl | exact opv_fieldAddrR rfl (by omega) rfl) rfl ?_
 refine tri_guard_run rfl rfl rfl ?_
 refine tri_v (by first | exact opv_load1 rfl rfl rfl | exact opv_loadA rfl rfl rfl | exact opv_loadE1 rfl (by assumption) rfl (by omega) rfl rfl | exact opv_loadEA rfl (by assumption) rfl (by omega) rfl rfl | exact opv_loadRX1 rfl rfl (by omega) rfl rfl | exact opv_loadRXA rfl rfl (by omega) rfl rfl rfl | exact opv_loadIX rfl rfl (by omega) | exact opv_loadR1 rfl rfl rfl | exact opv_loadRA rfl rfl rfl rfl) rfl ?_
 refine tri_guard_run rfl rfl rfl ?_
 refine tri_v (by first | exact opv_fieldAddr rfl rfl | exact opv_fieldAddrE rfl (by assumption) (by omega) rfl | exact opv_fieldAddrR rfl (by omega) rfl) rfl ?_
 refine tri_guard_run rfl rfl rfl ?_
 refine tri_v (by first | exact opv_load1 rfl rfl rfl | exact opv_loadA rfl rfl rfl | exact opv_loadE1 rfl (by assumption) rfl (by omega) rfl rfl | exact opv_loadEA rfl (by assumption) rfl (by omega) rfl rfl | exact opv_loadRX1 rfl rfl (by omega) rfl rfl | exact opv_loadRXA rfl rfl (by omega) rfl rfl rfl | exact opv_loadIX rfl rfl (by omega) | exact opv_loadR1 rfl rfl rfl | exact opv_loadRA rfl rfl rfl rfl) rfl ?_
 refine tri_guard_run rfl rfl rfl ?_
 refine tri_v (by first | exact opv_neq rfl rfl | exact opv_neqI rfl rfl rfl rfl rfl rfl | exact opv_neqB rfl rfl) rfl ?_
 refine tri_v (by first | exact opv_pick_t rfl rfl | exact opv_pick_f rfl rfl | exact opv_pick_bool rfl rfl rfl | exact opv_pick rfl rfl rfl) rfl ?_
 refine tN (tT ?_)
 refine tri_cond_not rfl ((fun h => h rfl)) ?_
 refine tri_skip (tT (tS (tS (tR (tA rfl rfl (tN (tT ?_)))))))
 refine tri_block ?_
 refine tri_sub (F' := [(7, .bool true), (8, pt b8 0), (9, .slice a5 ins.length c5), (11, pt b11 0), (12, .slice u1 r.2.1.length v1), (14, .int .i64 ((0 : Nat) : Int))]) ⟨rfl, rfl, rfl, rfl, rfl, rfl, trivial⟩ ?_
 refine loop_ind (G := Nat) (fun g => ins.length - g) (fun g => g ≤ ins.length) (fun g => [(7, .bool true), (8, pt b8 0), (9, .slice a5 ins.length c5), (11, pt b11 0), (12, .slice u1 r.2.1.length v1), (14, .int .i64 (g : Nat))]) (fun _ => _) (fun _ => _) ?_ 0 (by omega)
 rintro k hk K hK
 skip
 refine tS (tS (tR (tM rfl rfl (tM rfl rfl ?_))))
 refine tri_v (opv_len rfl) rfl ?_
 refine tri_v (opv_lss rfl rfl) rfl ?_
 refine tN (tT ?_)
 refine tri_cond_dec rfl (fun h => ?_) (fun h => ?_)
 ·have hkl : k < ins.length := by omega
  obtain ⟨p1, p2, p3, p4, p5⟩ := hat k hkl
  have p11 := p1.1
  have p12 := p1.2
  have p21 := p2.1
  have p22 := p2.2
  have tk1 : r.2.1.getD (k : Int).toNat default = r.2.1.getD k default := rfl
  have tk2 : ins.getD (k : Int).toNat default = ins.getD k default := rfl
  rw [← tk1] at p1 p3 p4 p5 p11 p12
  rw [← tk2] at p2 p3 p4 p5 p21 p22
  refine tri_skip (tT (tS (tri_block (tS ?_))))
  refine tri_draw [0, 1, 2, 3, 4, 5, 6, 7, 8, 9, 10, 11, 12, 13, 14, 15, 16, 17, 18, 19, 20, 21, 22, 23, 24, 25, 26, 27, 28, 29, 30, 31, 32, 33, 34, 35, 36, 37, 38, 39, 40, 41, 42, 43, 44, 45, 46, 47, 48, 49, 50, 51, 52, 53, 54, 55, 56, 57, 58, 59, 60, 61, 62, 64, 65, 66, 67, 68, 63, 69, 70, 71] rfl [] rfl mixed ?_
  refine th_take rfl rfl (by kernel_rfl)  (opv_move rfl) ?_
  refine th_take rfl rfl (by kernel_rfl)  (opv_move rfl) ?_
  refine th_take rfl rfl (by kernel_rfl)  (by first | exact opv_indexAddrA rfl rfl (by first | decide | omega) (by first | decide | omega) | exact opv_indexAddrSN rfl rfl (by omega) (by assumption) rfl | exact opv_indexAddrS rfl rfl (by omega) (by omega) (by assumption) rfl | exact opv_indexAddrE rfl (by assumption) (by omega) rfl (by first | decide | omega) (by first | decide | omega) | exact opv_indexAddrRN rfl rfl (by omega) | exact opv_indexAddrR rfl rfl (by omega) (by omega) | exact opv_indexAddrRA rfl (by omega) rfl (by first | decide | omega) (by first | decide | omega)) ?_
  refine th_take rfl rfl (by kernel_rfl)  (by first | exact opv_load1 rfl rfl rfl | exact opv_loadA rfl rfl rfl | exact opv_loadE1 rfl (by assumption) rfl (by omega) rfl rfl | exact opv_loadEA rfl (by assumption) rfl (by omega) rfl rfl | exact opv_loadRX1 rfl rfl (by omega) rfl rfl | exact opv_loadRXA rfl rfl (by omega) rfl rfl rfl | exact opv_loadIX rfl rfl (by omega) | exact opv_loadR1 rfl rfl rfl | exact opv_loadRA rfl rfl rfl rfl) ?_
  refine th_take rfl rfl (by kernel_rfl)  (opv_lss rfl rfl) ?_
  refine th_take rfl rfl (by kernel_rfl)  (opv_move rfl) ?_
  refine th_false rfl rfl rfl ((by omega)) ?_
  refine th_take_g rfl rfl rfl rfl rfl (by kernel_rfl)  (opv_move rfl) ?_
  refine th_take_g rfl rfl rfl rfl rfl (by kernel_rfl)  (opv_move rfl) ?_
  refine th_take_g rfl rfl rfl rfl rfl (by kernel_rfl)  (by first | exact opv_indexAddrA rfl rfl (by first | decide | omega) (by first | decide | omega) | exact opv_indexAddrSN rfl rfl (by omega) (by assumption) rfl | exact opv_indexAddrS rfl rfl (by omega) (by omega) (by assumption) rfl | exact opv_indexAddrE rfl (by assumption) (by omega) rfl (by first | decide | omega) (by first | decide | omega) | exact opv_indexAddrRN rfl rfl (by omega) | exact opv_indexAddrR rfl rfl (by omega) (by omega) | exact opv_indexAddrRA rfl (by omega) rfl (by first | decide | omega) (by first | decide | omega)) ?_
  refine th_take_g rfl rfl rfl rfl rfl (by kernel_rfl)  (by first | exact opv_load1 rfl rfl rfl | exact opv_loadA rfl rfl rfl | exact opv_loadE1 rfl (by assumption) rfl (by omega) rfl rfl | exact opv_loadEA rfl (by assumption) rfl (by omega) rfl rfl | exact opv_loadRX1 rfl rfl (by omega) rfl rfl | exact opv_loadRXA rfl rfl (by omega) rfl rfl rfl | exact opv_loadIX rfl rfl (by omega) | exact opv_loadR1 rfl rfl rfl | exact opv_loadRA rfl rfl rfl rfl) ?_
  refine th_take_g rfl rfl rfl rfl rfl (by kernel_rfl)  (by first | exact opv_fieldAddr rfl rfl | exact opv_fieldAddrE rfl (by assumption) (by omega) rfl | exact opv_fieldAddrR rfl (by omega) rfl) ?_
  refine th_take_g rfl rfl rfl rfl rfl (by kernel_rfl)  (by first | exact opv_load1 rfl rfl rfl | exact opv_loadA rfl rfl rfl | exact opv_loadE1 rfl (by assumption) rfl (by omega) rfl rfl | exact opv_loadEA rfl (by assumption) rfl (by omega) rfl rfl | exact opv_loadRX1 rfl rfl (by omega) rfl rfl | exact opv_loadRXA rfl rfl (by omega) rfl rfl rfl | exact opv_loadIX rfl rfl (by omega) | exact opv_loadR1 rfl rfl rfl | exact opv_loadRA rfl rfl rfl rfl) ?_
  refine th_take_g rfl rfl rfl rfl rfl (by kernel_rfl)  (opv_len rfl) ?_
  refine th_take_g rfl rfl rfl rfl rfl (by kernel_rfl)  (opv_geq rfl rfl) ?_
  refine th_take rfl rfl (by kernel_rfl)  (by first | exact opv_pick_t rfl rfl | exact opv_pick_f rfl rfl | exact opv_pick_bool rfl rfl rfl | exact opv_pick rfl rfl rfl) ?_
  refine th_take rfl rfl (by kernel_rfl)  (opv_move rfl) ?_
  refine th_false rfl rfl rfl ((by omega)) ?_
  refine th_take_g rfl rfl rfl rfl rfl (by kernel_rfl)  (by first | exact opv_fieldAddr rfl rfl | exact opv_fieldAddrE rfl (by assumption) (by omega) rfl | exact opv_fieldAddrR rfl (by omega) rfl) ?_
  refine th_take_g rfl rfl rfl rfl rfl (by kernel_rfl)  (by first | exact opv_load1 rfl rfl rfl | exact opv_loadA rfl rfl rfl | exact opv_loadE1 rfl (by assumption) rfl (by omega) rfl rfl | exact opv_loadEA rfl (by assumption) rfl (by omega) rfl rfl | exact opv_loadRX1 rfl rfl (by omega) rfl rfl | exact opv_loadRXA rfl rfl (by omega) rfl rfl rfl | exact opv_loadIX rfl rfl (by omega) | exact opv_loadR1 rfl rfl rfl | exact opv_loadRA rfl rfl rfl rfl) ?_
  refine th_take_g rfl rfl rfl rfl rfl (by kernel_rfl)  (opv_move rfl) ?_
  refine th_take_g rfl rfl rfl rfl rfl (by kernel_rfl)  (opv_move rfl) ?_
  refine th_take_g rfl rfl rfl rfl rfl (by kernel_rfl)  (by first | exact opv_indexAddrA rfl rfl (by first | decide | omega) (by first | decide | omega) | exact opv_indexAddrSN rfl rfl (by omega) (by assumption) rfl | exact opv_indexAddrS rfl rfl (by omega) (by omega) (by assumption) rfl | exact opv_indexAddrE rfl (by assumption) (by omega) rfl (by first | decide | omega) (by first | decide | omega) | exact opv_indexAddrRN rfl rfl (by omega) | exact opv_indexAddrR rfl rfl (by omega) (by omega) | exact opv_indexAddrRA rfl (by omega) rfl (by first | decide | omega) (by first | decide | omega)) ?_
  refine th_take_g rfl rfl rfl rfl rfl (by kernel_rfl)  (by first | exact opv_load1 rfl rfl rfl | exact opv_loadA rfl rfl rfl | exact opv_loadE1 rfl (by assumption) rfl (by omega) rfl rfl | exact opv_loadEA rfl (by assumption) rfl (by omega) rfl rfl | exact opv_loadRX1 rfl rfl (by omega) rfl rfl | exact opv_loadRXA rfl rfl (by omega) rfl rfl rfl | exact opv_loadIX rfl rfl (by omega) | exact opv_loadR1 rfl rfl rfl | exact opv_loadRA rfl rfl rfl rfl) ?_
  refine th_take_g rfl rfl rfl rfl rfl (by kernel_rfl)  (by first | exact opv_indexAddrA rfl rfl (by first | decide | omega) (by first | decide | omega) | exact opv_indexAddrSN rfl rfl (by omega) (by assumption) rfl | exact opv_indexAddrS rfl rfl (by omega) (by omega) (by assumption) rfl | exact opv_indexAddrE rfl (by assumption) (by omega) rfl (by first | decide | omega) (by first | decide | omega) | exact opv_indexAddrRN rfl rfl (by omega) | exact opv_indexAddrR rfl rfl (by omega) (by omega) | exact opv_indexAddrRA rfl (by omega) rfl (by first | decide | omega) (by first | decide | omega)) ?_
  refine th_take_g rfl rfl rfl rfl rfl (by kernel_rfl)  (by first | exact opv_fieldAddr rfl rfl | exact opv_fieldAddrE rfl (by assumption) (by omega) rfl | exact opv_fieldAddrR rfl (by omega) rfl) ?_
  refine th_take_g rfl rfl rfl rfl rfl (by kernel_rfl)  (by first | exact opv_load1 rfl rfl rfl | exact opv_loadA rfl rfl rfl | exact opv_loadE1 rfl (by assumption) rfl (by omega) rfl rfl | exact opv_loadEA rfl (by assumption) rfl (by omega) rfl rfl | exact opv_loadRX1 rfl rfl (by omega) rfl rfl | exact opv_loadRXA rfl rfl (by omega) rfl rfl rfl | exact opv_loadIX rfl rfl (by omega) | exact opv_loadR1 rfl rfl rfl | exact opv_loadRA rfl rfl rfl rfl) ?_
  refine th_take_g rfl rfl rfl rfl rfl (by kernel_rfl)  (by first | exact opv_fieldAddr rfl rfl | exact opv_fieldAddrE rfl (by assumption) (by omega) rfl | exact opv_fieldAddrR rfl (by omega) rfl) ?_
  refine th_take_g rfl rfl rfl rfl rfl (by kernel_rfl)  (by first | exact opv_load1 rfl rfl rfl | exact opv_loadA rfl rfl rfl | exact opv_loadE1 rfl (by assumption) rfl (by omega) rfl rfl | exact opv_loadEA rfl (by assumption) rfl (by omega) rfl rfl | exact opv_loadRX1 rfl rfl (by omega) rfl rfl | exact opv_loadRXA rfl rfl (by omega) rfl rfl rfl | exact opv_loadIX rfl rfl (by omega) | exact opv_loadR1 rfl rfl rfl | exact opv_loadRA rfl rfl rfl rfl) ?_
  refine th_take_g rfl rfl rfl rfl rfl (by kernel_rfl)  (opv_move rfl) ?_
  refine th_take_g rfl rfl rfl rfl rfl (by kernel_rfl)  (opv_move rfl) ?_
  refine th_take_g rfl rfl rfl rfl rfl (by kernel_rfl)  (by first | exact opv_indexAddrA rfl rfl (by first | decide | omega) (by first | decide | omega) | exact opv_indexAddrSN rfl rfl (by omega) (by assumption) rfl | exact opv_indexAddrS rfl rfl (by omega) (by omega) (by assumption) rfl | exact opv_indexAddrE rfl (by assumption) (by omega) rfl (by first | decide | omega) (by first | decide | omega) | exact opv_indexAddrRN rfl rfl (by omega) | exact opv_indexAddrR rfl rfl (by omega) (by omega) | exact opv_indexAddrRA rfl (by omega) rfl (by first | decide | omega) (by first | decide | omega)) ?_
  refine th_take_g rfl rfl rfl rfl rfl (by kernel_rfl)  (by first | exact opv_load1 rfl rfl rfl | exact opv_loadA rfl rfl rfl | exact opv_loadE1 rfl (by assumption) rfl (by omega) rfl rfl | exact opv_loadEA rfl (by assumption) rfl (by omega) rfl rfl | exact opv_loadRX1 rfl rfl (by omega) rfl rfl | exact opv_loadRXA rfl rfl (by omega) rfl rfl rfl | exact opv_loadIX rfl rfl (by omega) | exact opv_loadR1 rfl rfl rfl | exact opv_loadRA rfl rfl rfl rfl) ?_
  refine th_take_g rfl rfl rfl rfl rfl (by kernel_rfl)  (by first | exact opv_indexAddrA rfl rfl (by first | decide | omega) (by first | decide | omega) | exact opv_indexAddrSN rfl rfl (by omega) (by assumption) rfl | exact opv_indexAddrS rfl rfl (by omega) (by omega) (by assumption) rfl | exact opv_indexAddrE rfl (by assumption) (by omega) rfl (by first | decide | omega) (by first | decide | omega) | exact opv_indexAddrRN rfl rfl (by omega) | exact opv_indexAddrR rfl rfl (by omega) (by omega) | exact opv_indexAddrRA rfl (by omega) rfl (by first | decide | omega) (by first | decide | omega)) ?_
  refine th_take_g rfl rfl rfl rfl rfl (by kernel_rfl)  (by first | exact opv_fieldAddr rfl rfl | exact opv_fieldAddrE rfl (by assumption) (by omega) rfl | exact opv_fieldAddrR rfl (by omega) rfl) ?_
  refine th_take_g rfl rfl rfl rfl rfl (by kernel_rfl)  (by first | exact opv_load1 rfl rfl rfl | exact opv_loadA rfl rfl rfl | exact opv_loadE1 rfl (by assumption) rfl (by omega) rfl rfl | exact opv_loadEA rfl (by assumption) rfl (by omega) rfl rfl | exact opv_loadRX1 rfl rfl (by omega) rfl rfl | exact opv_loadRXA rfl rfl (by omega) rfl rfl rfl | exact opv_loadIX rfl rfl (by omega) | exact opv_loadR1 rfl rfl rfl | exact opv_loadRA rfl rfl rfl rfl) ?_
  refine th_take_g rfl rfl rfl rfl rfl (by kernel_rfl)  (by first | exact opv_neq rfl rfl | exact opv_neqI rfl rfl rfl rfl rfl rfl | exact opv_neqB rfl rfl) ?_
  refine th_take rfl rfl (by kernel_rfl)  (by first | exact opv_pick_t rfl rfl | exact opv_pick_f rfl rfl | exact opv_pick_bool rfl rfl rfl | exact opv_pick rfl rfl rfl) ?_
  refine th_take rfl rfl (by kernel_rfl)  (opv_move rfl) ?_
  refine th_false rfl rfl rfl ((fun h => h p3)) ?_
  refine th_take_g rfl rfl rfl rfl rfl (by kernel_rfl)  (by first | exact opv_fieldAddr rfl rfl | exact opv_fieldAddrE rfl (by assumption) (by omega) rfl | exact opv_fieldAddrR rfl (by omega) rfl) ?_
  refine th_take_g rfl rfl rfl rfl rfl (by kernel_rfl)  (by first | exact opv_load1 rfl rfl rfl | exact opv_loadA rfl rfl rfl | exact opv_loadE1 rfl (by assumption) rfl (by omega) rfl rfl | exact opv_loadEA rfl (by assumption) rfl (by omega) rfl rfl | exact opv_loadRX1 rfl rfl (by omega) rfl rfl | exact opv_loadRXA rfl rfl (by omega) rfl rfl rfl | exact opv_loadIX rfl rfl (by omega) | exact opv_loadR1 rfl rfl rfl | exact opv_loadRA rfl rfl rfl rfl) ?_
  refine th_take_g rfl rfl rfl rfl rfl (by kernel_rfl)  (opv_move rfl) ?_
  refine th_take_g rfl rfl rfl rfl rfl (by kernel_rfl)  (opv_move rfl) ?_
  refine th_take_g rfl rfl rfl rfl rfl (by kernel_rfl)  (by first | exact opv_indexAddrA rfl rfl (by first | decide | omega) (by first | decide | omega) | exact opv_indexAddrSN rfl rfl (by omega) (by assumption) rfl | exact opv_indexAddrS rfl rfl (by omega) (by omega) (by assumption) rfl | exact opv_indexAddrE rfl (by assumption) (by omega) rfl (by first | decide | omega) (by first | decide | omega) | exact opv_indexAddrRN rfl rfl (by omega) | exact opv_indexAddrR rfl rfl (by omega) (by omega) | exact opv_indexAddrRA rfl (by omega) rfl (by first | decide | omega) (by first | decide | omega)) ?_
  refine th_take_g rfl rfl rfl rfl rfl (by kernel_rfl)  (by first | exact opv_load1 rfl rfl rfl | exact opv_loadA rfl rfl rfl | exact opv_loadE1 rfl (by assumption) rfl (by omega) rfl rfl | exact opv_loadEA rfl (by assumption) rfl (by omega) rfl rfl | exact opv_loadRX1 rfl rfl (by omega) rfl rfl | exact opv_loadRXA rfl rfl (by omega) rfl rfl rfl | exact opv_loadIX rfl rfl (by omega) | exact opv_loadR1 rfl rfl rfl | exact opv_loadRA rfl rfl rfl rfl) ?_
  refine th_take_g rfl rfl rfl rfl rfl (by kernel_rfl)  (by first | exact opv_indexAddrA rfl rfl (by first | decide | omega) (by first | decide | omega) | exact opv_indexAddrSN rfl rfl (by omega) (by assumption) rfl | exact opv_indexAddrS rfl rfl (by omega) (by omega) (by assumption) rfl | exact opv_indexAddrE rfl (by assumption) (by omega) rfl (by first | decide | omega) (by first | decide | omega) | exact opv_indexAddrRN rfl rfl (by omega) | exact opv_indexAddrR rfl rfl (by omega) (by omega) | exact opv_indexAddrRA rfl (by omega) rfl (by first | decide | omega) (by first | decide | omega)) ?_
  refine th_take_g rfl rfl rfl rfl rfl (by kernel_rfl)  (by first | exact opv_fieldAddr rfl rfl | exact opv_fieldAddrE rfl (by assumption) (by omega) rfl | exact opv_fieldAddrR rfl (by omega) rfl) ?_
  refine th_take_g rfl rfl rfl rfl rfl (by kernel_rfl)  (by first | exact opv_load1 rfl rfl rfl | exact opv_loadA rfl rfl rfl | exact opv_loadE1 rfl (by assumption) rfl (by omega) rfl rfl | exact opv_loadEA rfl (by assumption) rfl (by omega) rfl rfl | exact opv_loadRX1 rfl rfl (by omega) rfl rfl | exact opv_loadRXA rfl rfl (by omega) rfl rfl rfl | exact opv_loadIX rfl rfl (by omega) | exact opv_loadR1 rfl rfl rfl | exact opv_loadRA rfl rfl rfl rfl) ?_
  refine th_take_g rfl rfl rfl rfl rfl (by kernel_rfl)  (by first | exact opv_fieldAddr rfl rfl | exact opv_fieldAddrE rfl (by assumption) (by omega) rfl | exact opv_fieldAddrR rfl (by omega) rfl) ?_
  refine th_take_g rfl rfl rfl rfl rfl (by kernel_rfl)  (by first | exact opv_load1 rfl rfl rfl | exact opv_loadA rfl rfl rfl | exact opv_loadE1 rfl (by assumption) rfl (by omega) rfl rfl | exact opv_loadEA rfl (by assumption) rfl (by omega) rfl rfl | exact opv_loadRX1 rfl rfl (by omega) rfl rfl | exact opv_loadRXA rfl rfl (by omega) rfl rfl rfl | exact opv_loadIX rfl rfl (by omega) | exact opv_loadR1 rfl rfl rfl | exact opv_loadRA rfl rfl rfl rfl) ?_
  refine th_take_g rfl rfl rfl rfl rfl (by kernel_rfl)  (opv_move rfl) ?_
  refine th_take_g rfl rfl rfl rfl rfl (by kernel_rfl)  (opv_move rfl) ?_
  refine th_take_g rfl rfl rfl rfl rfl (by kernel_rfl)  (by first | exact opv_indexAddrA rfl rfl (by first | decide | omega) (by first | decide | omega) | exact opv_indexAddrSN rfl rfl (by omega) (by assumption) rfl | exact opv_indexAddrS rfl rfl (by omega) (by omega) (by assumption) rfl | exact opv_indexAddrE rfl (by assumption) (by omega) rfl (by first | decide | omega) (by first | decide | omega) | exact opv_indexAddrRN rfl rfl (by omega) | exact opv_indexAddrR rfl rfl (by omega) (by omega) | exact opv_indexAddrRA rfl (by omega) rfl (by first | decide | omega) (by first | decide | omega)) ?_
  refine th_take_g rfl rfl rfl rfl rfl (by kernel_rfl)  (by first | exact opv_load1 rfl rfl rfl | exact opv_loadA rfl rfl rfl | exact opv_loadE1 rfl (by assumption) rfl (by omega) rfl rfl | exact opv_loadEA rfl (by assumption) rfl (by omega) rfl rfl | exact opv_loadRX1 rfl rfl (by omega) rfl rfl | exact opv_loadRXA rfl rfl (by omega) rfl rfl rfl | exact opv_loadIX rfl rfl (by omega) | exact opv_loadR1 rfl rfl rfl | exact opv_loadRA rfl rfl rfl rfl) ?_
  refine th_take_g rfl rfl rfl rfl rfl (by kernel_rfl)  (by first | exact opv_indexAddrA rfl rfl (by first | decide | omega) (by first | decide | omega) | exact opv_indexAddrSN rfl rfl (by omega) (by assumption) rfl | exact opv_indexAddrS rfl rfl (by omega) (by omega) (by assumption) rfl | exact opv_indexAddrE rfl (by assumption) (by omega) rfl (by first | decide | omega) (by first | decide | omega) | exact opv_indexAddrRN rfl rfl (by omega) | exact opv_indexAddrR rfl rfl (by omega) (by omega) | exact opv_indexAddrRA rfl (by omega) rfl (by first | decide | omega) (by first | decide | omega)) ?_
  refine th_take_g rfl rfl rfl rfl rfl (by kernel_rfl)  (by first | exact opv_fieldAddr rfl rfl | exact opv_fieldAddrE rfl (by assumption) (by omega) rfl | exact opv_fieldAddrR rfl (by omega) rfl) ?_
  refine th_take_g rfl rfl rfl rfl rfl (by kernel_rfl)  (by first | exact opv_load1 rfl rfl rfl | exact opv_loadA rfl rfl rfl | exact opv_loadE1 rfl (by assumption) rfl (by omega) rfl rfl | exact opv_loadEA rfl (by assumption) rfl (by omega) rfl rfl | exact opv_loadRX1 rfl rfl (by omega) rfl rfl | exact opv_loadRXA rfl rfl (by omega) rfl rfl rfl | exact opv_loadIX rfl rfl (by omega) | exact opv_loadR1 rfl rfl rfl | exact opv_loadRA rfl rfl rfl rfl) ?_
  refine th_take_g rfl rfl rfl rfl rfl (by kernel_rfl)  (by first | exact opv_neq rfl rfl | exact opv_neqI rfl rfl rfl rfl rfl rfl | exact opv_neqB rfl rfl) ?_
  refine th_take rfl rfl (by kernel_rfl)  (by first | exact opv_pick_t rfl rfl | exact opv_pick_f rfl rfl | exact opv_pick_bool rfl rfl rfl | exact opv_pick rfl rfl rfl) ?_
  refine th_take rfl rfl (by kernel_rfl)  (opv_move rfl) ?_
  refine th_false rfl rfl rfl ((fun h => h p4)) ?_
  skip
  refine th_take_g rfl rfl rfl rfl rfl (by kernel_rfl)  (by first | exact opv_load1 rfl rfl rfl | exact opv_loadA rfl rfl rfl | exact opv_loadE1 rfl (by assumption) rfl (by omega) rfl rfl | exact opv_loadEA rfl (by assumption) rfl (by omega) rfl rfl | exact opv_loadRX1 rfl rfl (by omega) rfl rfl | exact opv_loadRXA rfl rfl (by omega) rfl rfl rfl | exact opv_loadIX rfl rfl (by omega) | exact opv_loadR1 rfl rfl rfl | exact opv_loadRA rfl rfl rfl rfl) ?_
  refine th_take_g rfl rfl rfl rfl rfl (by kernel_rfl)  (opv_move rfl) ?_
  refine th_take_g rfl rfl rfl rfl rfl (by kernel_rfl)  (opv_move rfl) ?_
  refine th_take_g rfl rfl rfl rfl rfl (by kernel_rfl)  (by first | exact opv_indexAddrA rfl rfl (by first | decide | omega) (by first | decide | omega) | exact opv_indexAddrSN rfl rfl (by omega) (by assumption) rfl | exact opv_indexAddrS rfl rfl (by omega) (by omega) (by assumption) rfl | exact opv_indexAddrE rfl (by assumption) (by omega) rfl (by first | decide | omega) (by first | decide | omega) | exact opv_indexAddrRN rfl rfl (by omega) | exact opv_indexAddrR rfl rfl (by omega) (by omega) | exact opv_indexAddrRA rfl (by omega) rfl (by first | decide | omega) (by first | decide | omega)) ?_
  refine th_take_g rfl rfl rfl rfl rfl (by kernel_rfl)  (by first | exact opv_load1 rfl rfl rfl | exact opv_loadA rfl rfl rfl | exact opv_loadE1 rfl (by assumption) rfl (by omega) rfl rfl | exact opv_loadEA rfl (by assumption) rfl (by omega) rfl rfl | exact opv_loadRX1 rfl rfl (by omega) rfl rfl | exact opv_loadRXA rfl rfl (by omega) rfl rfl rfl | exact opv_loadIX rfl rfl (by omega) | exact opv_loadR1 rfl rfl rfl | exact opv_loadRA rfl rfl rfl rfl) ?_
  refine th_take_g rfl rfl rfl rfl rfl (by kernel_rfl)  (by first | exact opv_load1 rfl rfl rfl | exact opv_loadA rfl rfl rfl | exact opv_loadE1 rfl (by assumption) rfl (by omega) rfl rfl | exact opv_loadEA rfl (by assumption) rfl (by omega) rfl rfl | exact opv_loadRX1 rfl rfl (by omega) rfl rfl | exact opv_loadRXA rfl rfl (by omega) rfl rfl rfl | exact opv_loadIX rfl rfl (by omega) | exact opv_loadR1 rfl rfl rfl | exact opv_loadRA rfl rfl rfl rfl) ?_
  refine th_take_g rfl rfl rfl rfl rfl (by kernel_rfl)  (opv_move rfl) ?_
  refine th_take_g rfl rfl rfl rfl rfl (by kernel_rfl)  (opv_move rfl) ?_
  refine th_take_g rfl rfl rfl rfl rfl (by kernel_rfl)  (by first | exact opv_indexAddrA rfl rfl (by first | decide | omega) (by first | decide | omega) | exact opv_indexAddrSN rfl rfl (by omega) (by assumption) rfl | exact opv_indexAddrS rfl rfl (by omega) (by omega) (by assumption) rfl | exact opv_indexAddrE rfl (by assumption) (by omega) rfl (by first | decide | omega) (by first | decide | omega) | exact opv_indexAddrRN rfl rfl (by omega) | exact opv_indexAddrR rfl rfl (by omega) (by omega) | exact opv_indexAddrRA rfl (by omega) rfl (by first | decide | omega) (by first | decide | omega)) ?_
  refine th_take_g rfl rfl rfl rfl rfl (by kernel_rfl)  (by first | exact opv_load1 rfl rfl rfl | exact opv_loadA rfl rfl rfl | exact opv_loadE1 rfl (by assumption) rfl (by omega) rfl rfl | exact opv_loadEA rfl (by assumption) rfl (by omega) rfl rfl | exact opv_loadRX1 rfl rfl (by omega) rfl rfl | exact opv_loadRXA rfl rfl (by omega) rfl rfl rfl | exact opv_loadIX rfl rfl (by omega) | exact opv_loadR1 rfl rfl rfl | exact opv_loadRA rfl rfl rfl rfl) ?_
  refine th_one (by kernel_rfl) (step_mg rfl rfl rfl rfl rfl (opg_call (xs := [_, _]) rfl (law06_bitsT hwo (by omega) g0l p1)) ?_)
  rintro _ _ _ ⟨rfl, rfl, rfl⟩
  refine ⟨Suf.h, (by first | exact fun _ h => h | assumption | exact fun _ h => (by assumption : _ ⊆ _) ((by assumption : _ ⊆ _) h)), ?_⟩
  skip
  refine th_one (by kernel_rfl) (step_mg rfl rfl rfl rfl rfl (opg_call (xs := [_, _]) rfl (law06_bitsT hst.wf (by omega) hs6l p2)) ?_)
  rintro _ _ _ ⟨rfl, rfl, rfl⟩
  refine ⟨Suf.h, (by first | exact fun _ h => h | assumption | exact fun _ h => (by assumption : _ ⊆ _) ((by assumption : _ ⊆ _) h)), ?_⟩
  skip
  refine th_take_g rfl rfl rfl rfl rfl (by kernel_rfl)  (opv_neqS rfl rfl) ?_
  refine th_take rfl rfl (by kernel_rfl)  (by first | exact opv_pick_t rfl rfl | exact opv_pick_f rfl rfl | exact opv_pick_bool rfl rfl rfl | exact opv_pick rfl rfl rfl) ?_
  refine th_done (by kernel_rfl) ?_
  refine tT ?_
  refine tri_cond_not rfl ((fun h => h p5)) ?_
  refine tri_skip ?_
  refine tri_inBlock ?_
  refine tT (tR (tM rfl rfl ?_))
  refine tri_v (by first | exact opv_add rfl rfl (w64 (by omega) (by omega))) rfl ?_
  refine tA rfl rfl (tN (tT ?_))
  refine tri_sub ?_ (hK (k + 1) (by omega) (by omega))
  exact ⟨rfl, rfl, rfl, rfl, rfl, rfl, trivial⟩
 ·refine tri_exit ?_
  refine tri_then_exit ?_
  refine tri_then_exit ?_
  refine tri_inBlock_hit rfl ?_
  refine tT (tS (tR ?_))
  refine tri_v (by first | exact opv_load1 rfl rfl rfl | exact opv_loadA rfl rfl rfl | exact opv_loadE1 rfl (by assumption) rfl (by omega) rfl rfl | exact opv_loadEA rfl (by assumption) rfl (by omega) rfl rfl | exact opv_loadRX1 rfl rfl (by omega) rfl rfl | exact opv_loadRXA rfl rfl (by omega) rfl rfl rfl | exact opv_loadIX rfl rfl (by omega) | exact opv_loadR1 rfl rfl rfl | exact opv_loadRA rfl rfl rfl rfl) rfl ?_
  refine tM rfl rfl ?_
  refine tri_g (opg_call (xs := [_, _]) rfl (node_liveR g0 (by omega) g1 (by omega) hel2)) rfl ?_
  rintro _ _ I7 ⟨u2, v2, u3, v3, rfl, g2, g3, rfl, hI7⟩
  have g0' := (g0.mono hI7).sl
  refine tM rfl rfl ?_
  refine tri_v (opv_extract rfl rfl) rfl ?_
  refine tri_v (opv_extract rfl rfl) rfl ?_
  refine tri_v (opv_extract rfl rfl) rfl ?_
  refine tri_g opg_alloc rfl ?_
  rintro _ _ _ ⟨b15, rfl, rfl, rfl⟩
  refine tri_g (opg_store rfl rfl rfl rfl rfl rfl) rfl ?_
  rintro _ _ _ ⟨rfl, rfl⟩
  refine tA rfl rfl (tA rfl rfl (tN (tT (tS (tR (tM rfl rfl (tM rfl rfl ?_)))))))
  skip
  refine tri_guard_run rfl rfl rfl (tM rfl rfl (tri_guard_run rfl rfl rfl ?_))
  refine tri_v (by first | exact opv_eql rfl rfl | exact opv_eqlI rfl rfl rfl rfl rfl rfl | exact opv_eqlB rfl rfl | exact opv_eqlNil rfl rfl) rfl ?_
  refine tri_v (by first | exact opv_pick_t rfl rfl | exact opv_pick_f rfl rfl | exact opv_pick_bool rfl rfl rfl | exact opv_pick rfl rfl rfl) rfl ?_
  refine tM rfl rfl ?_
  refine tri_true rfl rfl (hok) ?_
  refine tri_guard_run rfl rfl rfl ?_
  refine tri_v (by first | exact opv_load1 rfl rfl rfl | exact opv_loadA rfl rfl rfl | exact opv_loadE1 rfl (by assumption) rfl (by omega) rfl rfl | exact opv_loadEA rfl (by assumption) rfl (by omega) rfl rfl | exact opv_loadRX1 rfl rfl (by omega) rfl rfl | exact opv_loadRXA rfl rfl (by omega) rfl rfl rfl | exact opv_loadIX rfl rfl (by omega) | exact opv_loadR1 rfl rfl rfl | exact opv_loadRA rfl rfl rfl rfl) rfl ?_
  refine tri_guard_run rfl rfl rfl ?_
  refine tri_v (by first | exact opv_load1 rfl rfl rfl | exact opv_loadA rfl rfl rfl | exact opv_loadE1 rfl (by assumption) rfl (by omega) rfl rfl | exact opv_loadEA rfl (by assumption) rfl (by omega) rfl rfl | exact opv_loadRX1 rfl rfl (by omega) rfl rfl | exact opv_loadRXA rfl rfl (by omega) rfl rfl rfl | exact opv_loadIX rfl rfl (by omega) | exact opv_loadR1 rfl rfl rfl | exact opv_loadRA rfl rfl rfl rfl) rfl ?_
  refine tri_guard_run rfl rfl rfl ?_
  refine tri_g (opg_call (xs := [_, _]) rfl (ref06_same g0' g2.sl (by omega))) rfl ?_
  rintro _ _ _ ⟨rfl, rfl, rfl⟩
  refine tri_v (by first | exact opv_pick_t rfl rfl | exact opv_pick_f rfl rfl | exact opv_pick_bool rfl rfl rfl | exact opv_pick rfl rfl rfl) rfl ?_
  refine tM rfl rfl ?_
  refine tri_true rfl rfl (⟨rfl, rfl⟩) ?_
  refine tri_guard_run rfl rfl rfl (tM rfl rfl (tri_guard_run rfl rfl rfl (tM rfl rfl (tri_guard_run rfl rfl rfl ?_))))
  refine tri_g (opg_call (xs := [_, _]) rfl (ref03_ints (g1.mono hI7) g3 (by omega))) rfl ?_
  rintro _ _ _ ⟨rfl, rfl, rfl⟩
  refine tri_v (by first | exact opv_pick_t rfl rfl | exact opv_pick_f rfl rfl | exact opv_pick_bool rfl rfl rfl | exact opv_pick rfl rfl rfl) rfl ?_
  refine tA rfl rfl (tN (tT (tri_ret ?_)))
  refine tri_end A Suf.h rfl (.cons (rv_tmp rfl) .nil) ⟨?_, rfl, fun _ h => hI7 (hI6 (hI5 (hI1 (hI0 h))))⟩
  exact congrArg Value.bool (decide_eq_true rfl)
end Go.GL
