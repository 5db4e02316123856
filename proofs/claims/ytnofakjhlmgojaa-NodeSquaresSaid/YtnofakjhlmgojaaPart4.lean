/- Part 4: contracts of the functions that the law reaches: each answers as its model does. No condition beyond those that each theorem states. -/
import Derived.Test.YtnofakjhlmgojaaPart3
set_option linter.unusedVariables false
namespace Go.GL
open R6 R7
/-! ### What the laws' squares are -/
namespace RL
theorem new_wf : Wf [n0, n1] := ⟨by decide, rfl, rfl, fun i hi h2 => absurd hi (by simp; omega)⟩
theorem putRaw_ok {rm : Int} (h2 : 2 ≤ rm) (h3 : rm ≤ 100000) {ns : List Node} (h : Wf ns) (hl : (ns.length : Int) ≤ rm) (r : Five) : Wf (putRaw rm ns r) ∧ ((putRaw rm ns r).length : Int) ≤ rm ∧ ns <+: putRaw rm ns r := by
 unfold putRaw intern
 rw [if_pos (right_iff.2 ⟨⟨h2, h3, hl⟩, h⟩)]
 exact ⟨(put_wf h _ _ _ _ _).1, put_room hl _ _ _ _, (put_wf h _ _ _ _ _).2⟩
theorem foldl_ok {rm : Int} (h2 : 2 ≤ rm) (h3 : rm ≤ 100000) : ∀ (l : List Five) (ns : List Node), Wf ns → (ns.length : Int) ≤ rm → Wf (l.foldl (putRaw rm) ns) ∧ ((l.foldl (putRaw rm) ns).length : Int) ≤ rm
 | [], ns, h, hl => ⟨h, hl⟩
 | r :: l, ns, h, hl => by
  obtain ⟨a, b, _⟩ := putRaw_ok h2 h3 h hl r
  exact foldl_ok h2 h3 l _ a b
theorem store_ok {rm : Int} (h2 : 2 ≤ rm) (h3 : rm ≤ 100000) (l : List Five) : Wf (store rm l) ∧ ((store rm l).length : Int) ≤ rm := foldl_ok h2 h3 _ _ new_wf (by simpa using h2)
theorem cell16_bd (r : Cell) : -8 ≤ (cell16 r).x ∧ (cell16 r).x < 8 ∧ -8 ≤ (cell16 r).y ∧ (cell16 r).y < 8 := by
 have a := pk_bd (c := r.x) (n := 16) (by omega)
 have b := pk_bd (c := r.y) (n := 16) (by omega)
 unfold cell16
 simp only
 omega
theorem mem_set {raw : List Cell} {c : Cell} (h : c ∈ set raw) : -8 ≤ c.x ∧ c.x < 8 ∧ -8 ≤ c.y ∧ c.y < 8 := by
 unfold set at h
 rw [R1.mem_puts] at h
 obtain ⟨r, _, rfl⟩ := List.mem_map.1 h
 exact cell16_bd r
theorem set_le (raw : List Cell) : (set raw).length ≤ 60 := by
 have key : ∀ (l acc : List Cell), (l.foldl R1.put acc).length ≤ acc.length + l.length := by
  intro l
  induction l with
  | nil => intro acc; simp
  | cons c l ih =>
   intro acc
   have h1 := ih (R1.put acc c)
   have h2 := R1.put_len acc c
   simp only [List.foldl_cons, List.length_cons]
   omega
 have := key ((raw.take 60).map cell16) []
 rw [List.length_map, List.length_take] at this
 unfold set R1.puts
 simp only [List.length_nil] at this
 omega
theorem set_right (raw : List Cell) : R1.right (set raw) := R1.right_of (R1.puts_srt _) (fun c hc => by have := mem_set hc; unfold R1.inB; omega) (by have := set_le raw; omega)
theorem p8 {lv : Nat} (h : 3 ≤ lv) : (8:Int) ≤ 2 ^ lv := by
 have h2 : (2:Nat) ^ 3 ≤ 2 ^ lv := Nat.pow_le_pow_right (by omega) h
 have h3 : (2:Int) ^ lv = ((2 ^ lv : Nat) : Int) := by simp
 rw [h3]; omega
/-- The raw square: a node of the set's cells. -/
structure Sq (c : Int) (nodes : List Five) (raw : List Cell) (level : Int) (lv : Nat) (ms : List Node) (m : Int) : Prop where
 lv3 : 3 ≤ lv ∧ lv ≤ 6
 lve : ((lv + 1 : Nat) : Int) = 4 + pk level 4
 eq : square c nodes raw level = (ms, m, 0)
 wf : Wf ms
 is : IsN ms (lv + 1) m
 len : (ms.length : Int) ≤ room c + 427
 pre : store (room c) nodes <+: ms
 sem : ∀ d : Cell, inL ((lv + 1 : Nat) : Int) d → al ms (lv + 1) m (d.x + 2 ^ lv) (d.y + 2 ^ lv) = decide (d ∈ set raw)
theorem square_ok (c : Int) (nodes : List Five) (raw : List Cell) (level : Int) : ∃ lv ms m, Sq c nodes raw level lv ms m := by
 have hrm := room_bd c
 have hpk := pk_bd (c := level) (n := 4) (by omega)
 obtain ⟨hw, hl⟩ := store_ok (rm := room c) (by omega) (by omega) nodes
 obtain ⟨lv, hlv⟩ : ∃ lv : Nat, ((lv + 1 : Nat) : Int) = 4 + pk level 4 := ⟨(3 + pk level 4).toNat, by omega⟩
 have hs := side_succ lv
 have h8 := p8 (lv := lv) (by omega)
 have hlen := set_le raw
 have hE := E_le (store (room c) nodes) 7
 have hmul : (set raw).length * (lv + 1) ≤ 60 * 7 := Nat.mul_le_mul hlen (by omega)
 obtain ⟨ms, m, e, ok, sem⟩ := make_ok (room := room c + 500) (L := 7) (lv := lv) (by omega) (by omega) (right_iff.2 ⟨⟨by omega, by omega, by omega⟩, hw⟩) (set_right raw) (fun d hd => by have := mem_set hd; unfold inL; rw [hs]; omega) (by omega)
 refine ⟨lv, ms, m, ⟨by omega, hlv, ?_, ok.wf, ok.is, ?_, ok.pre, sem⟩⟩
 ·unfold square; rw [← hlv]; exact e
 ·have := ok.len; omega
end RL
/-! ### Sixteen and nine -/
namespace R8
theorem s16_is {ns : List Node} (h : Wf ns) {lv : Nat} {n : Int} (hn : IsN ns (lv + 2) n) : ∀ i : Int, 0 ≤ i → i < 16 → IsN ns lv (g (s16 ns n) i) := by
 obtain ⟨a, b, c, d⟩ := kids4 h hn
 obtain ⟨a0, a1, a2, a3⟩ := kids4 h a
 obtain ⟨b0, b1, b2, b3⟩ := kids4 h b
 obtain ⟨c0, c1, c2, c3⟩ := kids4 h c
 obtain ⟨d0, d1, d2, d3⟩ := kids4 h d
 intro i h0 h16
 obtain ⟨k, rfl⟩ : ∃ k : Nat, i = k := ⟨i.toNat, by omega⟩
 have hk : k < 16 := by omega
 unfold g s16
 rw [Int.toNat_natCast]
 match k, hk with
 | 0, _ => exact a0
 | 1, _ => exact a1
 | 2, _ => exact b0
 | 3, _ => exact b1
 | 4, _ => exact a2
 | 5, _ => exact a3
 | 6, _ => exact b2
 | 7, _ => exact b3
 | 8, _ => exact c0
 | 9, _ => exact c1
 | 10, _ => exact d0
 | 11, _ => exact d1
 | 12, _ => exact c2
 | 13, _ => exact c3
 | 14, _ => exact d2
 | 15, _ => exact d3
/-- A square of the sixteen. -/
def sqK (l : List Int) (y x : Int) : List Int := [g l (4 * y + x), g l (4 * y + x + 1), g l (4 * y + x + 4), g l (4 * y + x + 5)]
/-- A node that is a square of the sixteen. -/
structure IsSq (ms : List Node) (lv : Nat) (l : List Int) (y x m : Int) : Prop where
 is : IsN ms (lv + 1) m
 kids : (nd ms m).kids = sqK l y x
theorem IsSq.pre {ns ms : List Node} (hp : ns <+: ms) {lv : Nat} {l : List Int} {y x m : Int} (h : IsSq ns lv l y x m) : IsSq ms lv l y x m := ⟨h.is.pre hp, by rw [nd_pre hp h.is.1]; exact h.kids⟩
theorem putSq_ok {ns : List Node} {room : Int} {lv : Nat} (hl : lv + 1 ≤ 42) (h : Wf ns) {l : List Int} (hi : ∀ i : Int, 0 ≤ i → i < 16 → IsN ns lv (g l i)) {y x : Int} (hy : 0 ≤ y ∧ y ≤ 2) (hx : 0 ≤ x ∧ x ≤ 2) (hr : (ns.length : Int) < room) :
  ∃ ms m, putSq ns room l y x = (ms, m, 0) ∧ Wf ms ∧ ns <+: ms ∧ ms.length ≤ ns.length + 1 ∧ IsSq ms lv l y x m := by
 have i0 := hi (4 * y + x) (by omega) (by omega)
 obtain ⟨ms, m, e, ok⟩ := put_ok h (room := room) (fit4_of hl i0 (hi (4 * y + x + 1) (by omega) (by omega)) (hi (4 * y + x + 4) (by omega) (by omega)) (hi (4 * y + x + 5) (by omega) (by omega))) (.inr hr)
 exact ⟨ms, m, e, ok.wf, ok.pre, ok.len, ⟨ok.mem, by rw [ok.lv, i0.2]; omega⟩, ok.kids⟩
/-- Nine squares. -/
structure Nine9 (ns : List Node) (room : Int) (lv : Nat) (l : List Int) (ms : List Node) (q0 q1 q2 q3 q4 q5 q6 q7 q8 : Int) : Prop where
 wf : Wf ms
 pre : ns <+: ms
 len : ms.length ≤ ns.length + 9
 s0 : IsSq ms lv l 0 0 q0
 s1 : IsSq ms lv l 0 1 q1
 s2 : IsSq ms lv l 0 2 q2
 s3 : IsSq ms lv l 1 0 q3
 s4 : IsSq ms lv l 1 1 q4
 s5 : IsSq ms lv l 1 2 q5
 s6 : IsSq ms lv l 2 0 q6
 s7 : IsSq ms lv l 2 1 q7
 s8 : IsSq ms lv l 2 2 q8
theorem nine_ok {ns : List Node} {room : Int} {lv : Nat} {n : Int} (h : R6.right ns room) (hn : IsN ns (lv + 2) n) (hr : (ns.length : Int) + 9 ≤ room) :
  ∃ ms q0 q1 q2 q3 q4 q5 q6 q7 q8, nine ns room n = (ms, [q0, q1, q2, q3, q4, q5, q6, q7, q8], 0) ∧ Nine9 ns room lv (s16 ns n) ms q0 q1 q2 q3 q4 q5 q6 q7 q8 := by
 have hw := (right_iff.1 h).2
 have hlv := (hw.lvb hn.1).2
 rw [hn.2] at hlv
 have hi := s16_is hw hn
 generalize hl : s16 ns n = l at *
 obtain ⟨a0, q0, e0, w0, p0, l0, s0⟩ := putSq_ok (room := room) (by omega) hw hi (y := 0) (x := 0) (by omega) (by omega) (by omega)
 obtain ⟨a1, q1, e1, w1, p1, l1, s1⟩ := putSq_ok (room := room) (by omega) w0 (fun i a b => (hi i a b).pre p0) (y := 0) (x := 1) (by omega) (by omega) (by omega)
 obtain ⟨a2, q2, e2, w2, p2, l2, s2⟩ := putSq_ok (room := room) (by omega) w1 (fun i a b => ((hi i a b).pre p0).pre p1) (y := 0) (x := 2) (by omega) (by omega) (by omega)
 obtain ⟨a3, q3, e3, w3, p3, l3, s3⟩ := putSq_ok (room := room) (by omega) w2 (fun i a b => (((hi i a b).pre p0).pre p1).pre p2) (y := 1) (x := 0) (by omega) (by omega) (by omega)
 obtain ⟨a4, q4, e4, w4, p4, l4, s4⟩ := putSq_ok (room := room) (by omega) w3 (fun i a b => ((((hi i a b).pre p0).pre p1).pre p2).pre p3) (y := 1) (x := 1) (by omega) (by omega) (by omega)
 obtain ⟨a5, q5, e5, w5, p5, l5, s5⟩ := putSq_ok (room := room) (by omega) w4 (fun i a b => (((((hi i a b).pre p0).pre p1).pre p2).pre p3).pre p4) (y := 1) (x := 2) (by omega) (by omega) (by omega)
 obtain ⟨a6, q6, e6, w6, p6, l6, s6⟩ := putSq_ok (room := room) (by omega) w5 (fun i a b => ((((((hi i a b).pre p0).pre p1).pre p2).pre p3).pre p4).pre p5) (y := 2) (x := 0) (by omega) (by omega) (by omega)
 obtain ⟨a7, q7, e7, w7, p7, l7, s7⟩ := putSq_ok (room := room) (by omega) w6 (fun i a b => (((((((hi i a b).pre p0).pre p1).pre p2).pre p3).pre p4).pre p5).pre p6) (y := 2) (x := 1) (by omega) (by omega) (by omega)
 obtain ⟨a8, q8, e8, w8, p8, l8, s8⟩ := putSq_ok (room := room) (by omega) w7 (fun i a b => ((((((((hi i a b).pre p0).pre p1).pre p2).pre p3).pre p4).pre p5).pre p6).pre p7) (y := 2) (x := 2) (by omega) (by omega) (by omega)
 have t1 := p1
 have t2 := p2
 refine ⟨a8, q0, q1, q2, q3, q4, q5, q6, q7, q8, ?_, ⟨w8, ((((((((p0.trans p1).trans p2).trans p3).trans p4).trans p5).trans p6).trans p7).trans p8), by omega, ?_, ?_, ?_, ?_, ?_, ?_, ?_, ?_, s8⟩⟩
 ·unfold nine
  rw [if_pos ⟨h, hn.1, by rw [hn.2]; omega⟩]
  unfold all
  rw [hl]
  simp only [e0, e1, e2, e3, e4, e5, e6, e7, e8]
  simp
 ·exact ((((((((s0.pre p1).pre p2).pre p3).pre p4).pre p5).pre p6).pre p7).pre p8)
 ·exact (((((((s1.pre p2).pre p3).pre p4).pre p5).pre p6).pre p7).pre p8)
 ·exact ((((((s2.pre p3).pre p4).pre p5).pre p6).pre p7).pre p8)
 ·exact (((((s3.pre p4).pre p5).pre p6).pre p7).pre p8)
 ·exact ((((s4.pre p5).pre p6).pre p7).pre p8)
 ·exact (((s5.pre p6).pre p7).pre p8)
 ·exact ((s6.pre p7).pre p8)
 ·exact s7.pre p8
end R8
end Go.GL

set_option linter.unusedVariables false
namespace Go.GL
namespace R6
open R7 (IsN)
/-! ### Kids of one level -/
theorem Wf.lv_le {ns : List Node} (h : Wf ns) : ∀ (i : Nat), i < ns.length → (nd ns i).lv + 1 ≤ max (i : Int) 1 := by
 intro i
 induction i using Nat.strongRecOn with
 | _ i ih =>
  intro hi
  by_cases hl : (nd ns i).lv = 0
  ·omega
  ·have hn : inS ns (i : Int) := ⟨by omega, by omega⟩
   have h2 := h.two hn hl
   obtain ⟨k1, k2, k3⟩ := h.kid hn hl (q := (nd ns i).k0) (by simp [Node.kids])
   have := ih (nd ns i).k0.toNat (by have := k1.1; omega) (by have := k1.1; have := k1.2; omega)
   rw [show (((nd ns i).k0.toNat : Nat) : Int) = (nd ns i).k0 from Int.toNat_of_nonneg k1.1] at this
   have := k1.1
   omega
theorem Wf.lv_len {ns : List Node} (h : Wf ns) {n : Int} (hn : inS ns n) : (nd ns n).lv + 2 ≤ ns.length := by
 have h1 := h.lv_le n.toNat (by have := hn.1; have := hn.2; omega)
 rw [Int.toNat_of_nonneg hn.1] at h1
 have := hn.2
 have := h.len
 omega
theorem kids_same {ns : List Node} (h : Wf ns) (r : Five) : 0 < (RL.same ns r).length ∧ ∀ q ∈ RL.same ns r, inS ns q ∧ (nd ns q).lv = RL.lev ns r := by
 have hl := h.len
 have hlev : RL.lev ns r = (nd ns (pk r.r4 ns.length)).lv := by unfold RL.lev; rw [if_pos (by omega)]
 have hp := pk_bd (c := r.r4) (n := ns.length) (by omega)
 constructor
 ·have hm : (pk r.r4 ns.length) ∈ RL.same ns r := by
   have : ∀ (xs : List Node) (i j : Nat), j < xs.length → (xs.getD j default).lv = RL.lev ns r → ((i + j : Nat) : Int) ∈ RL.sameFrom (RL.lev ns r) i xs := by
    intro xs
    induction xs with
    | nil => intro i j hj; exact absurd hj (by simp)
    | cons x xs ih =>
     intro i j hj hx
     simp only [RL.sameFrom]
     cases j with
     | zero =>
      rw [if_pos (by simpa using hx)]
      exact List.mem_cons_self
     | succ j =>
      have := ih (i + 1) j (by simpa using hj) (by simpa using hx)
      rw [show i + 1 + j = i + (j + 1) by omega] at this
      split
      ·exact List.mem_cons_of_mem _ this
      ·exact this
   have := this ns 0 (pk r.r4 ns.length).toNat (by omega) (by rw [hlev]; rfl)
   rwa [Nat.zero_add, Int.toNat_of_nonneg hp.1] at this
  exact List.length_pos_of_mem hm
 ·intro q hq
  obtain ⟨j, hj, rfl, hlv⟩ := RL.sameFrom_mem hq
  rw [Nat.zero_add]
  refine ⟨⟨by omega, by omega⟩, ?_⟩
  unfold nd
  rw [Int.toNat_natCast]
  exact hlv
theorem kids_lv {ns : List Node} (h : Wf ns) (r : Five) : (inS ns (RL.kids ns r).1 ∧ (nd ns (RL.kids ns r).1).lv = RL.lev ns r) ∧ (inS ns (RL.kids ns r).2.1 ∧ (nd ns (RL.kids ns r).2.1).lv = RL.lev ns r) ∧ (inS ns (RL.kids ns r).2.2.1 ∧ (nd ns (RL.kids ns r).2.2.1).lv = RL.lev ns r) ∧ (inS ns (RL.kids ns r).2.2.2 ∧ (nd ns (RL.kids ns r).2.2.2).lv = RL.lev ns r) := by
 obtain ⟨h1, h2⟩ := kids_same h r
 have key : ∀ c, inS ns (RL.one (RL.same ns r) c) ∧ (nd ns (RL.one (RL.same ns r) c)).lv = RL.lev ns r := fun c => by
  have hp := pk_bd (c := c) (n := (RL.same ns r).length) (by omega)
  have : RL.one (RL.same ns r) c ∈ RL.same ns r := by
   unfold RL.one
   rw [if_pos (by omega)]
   have hlt : (pk c (RL.same ns r).length).toNat < (RL.same ns r).length := by omega
   rw [List.getD_eq_getElem?_getD, List.getElem?_eq_getElem hlt]
   exact List.getElem_mem hlt
  exact h2 _ this
 exact ⟨key _, key _, key _, key _⟩
theorem kids_fit {ns : List Node} (h : Wf ns) (hl : ns.length ≤ 43) (r : Five) : fit4 ns (RL.kids ns r).1 (RL.kids ns r).2.1 (RL.kids ns r).2.2.1 (RL.kids ns r).2.2.2 := by
 obtain ⟨⟨a1, a2⟩, ⟨b1, b2⟩, ⟨c1, c2⟩, ⟨d1, d2⟩⟩ := kids_lv h r
 have := h.lv_len a1
 exact ⟨a1, ⟨b1, by rw [b2, a2]⟩, ⟨c1, by rw [c2, a2]⟩, ⟨d1, by rw [d2, a2]⟩, by omega⟩
/-- The laws' stores. -/
structure St (room : Int) (s : List Node) : Prop where
 wf : Wf s
 le : (s.length : Int) ≤ room
 lo : 2 ≤ room
 hi : room ≤ 61
 few : s.length ≤ 42
theorem store_st (c : Int) (raw : List Five) : St (RL.room c) (RL.store (RL.room c) raw) := by
 have hb := RL.room_bd c
 obtain ⟨h1, h2⟩ := RL.store_ok (rm := RL.room c) (by omega) (by omega) raw
 refine ⟨h1, h2, by omega, by omega, ?_⟩
 unfold RL.store
 have key : ∀ (l : List Five) (s : List Node), (l.foldl (RL.putRaw (RL.room c)) s).length ≤ s.length + l.length := by
  intro l
  induction l with
  | nil => intro s; simp
  | cons r l ih =>
   intro s
   have h1 := ih (RL.putRaw (RL.room c) s r)
   have h2 : (RL.putRaw (RL.room c) s r).length ≤ s.length + 1 := by
    unfold RL.putRaw intern put
    split
    ·split
     ·split
      ·simp
      ·split
       ·simp
       ·simp
     ·simp
    ·simp
   simp only [List.foldl_cons, List.length_cons]
   omega
 have := key (raw.take 40) [n0, n1]
 rw [List.length_take] at this
 simp only [List.length_cons, List.length_nil] at this
 omega
theorem St.right {room : Int} {s : List Node} (h : St room s) : R6.right s room := right_iff.2 ⟨⟨h.lo, by have := h.hi; omega, h.le⟩, h.wf⟩
theorem intern_eq {ns : List Node} {room : Int} (h : R6.right ns room) (q0 q1 q2 q3 : Int) : intern ns room q0 q1 q2 q3 = put ns room q0 q1 q2 q3 := if_pos h
/-- What a put comes to: it has room, or it has none. -/
theorem put_cases {ns : List Node} (h : Wf ns) {room : Int} {q0 q1 q2 q3 : Int} (hf : fit4 ns q0 q1 q2 q3) :
  (∃ ms m, put ns room q0 q1 q2 q3 = (ms, m, 0) ∧ PutOk ns q0 q1 q2 q3 ms m) ∨ (put ns room q0 q1 q2 q3 = (ns, 0, 40) ∧ ¬ 0 ≤ R6.at_ ns [q0, q1, q2, q3] ∧ room ≤ (ns.length : Int)) := by
 by_cases hat : 0 ≤ R6.at_ ns [q0, q1, q2, q3]
 ·exact .inl (put_ok h hf (.inl hat))
 ·by_cases hr : (ns.length : Int) < room
  ·exact .inl (put_ok h hf (.inr hr))
  ·refine .inr ⟨?_, hat, by omega⟩
   unfold put
   rw [if_pos hf, if_neg hat, if_pos (by omega)]
theorem PutOk.lv0 {ns ms : List Node} {q0 q1 q2 q3 m : Int} (h : PutOk ns q0 q1 q2 q3 ms m) (hw : Wf ns) (hf : fit4 ns q0 q1 q2 q3) : (R6.nd ms m).lv ≠ 0 := by
 rw [h.lv]
 have := hw.lvb hf.1
 omega
/-- Put, and another put, and the first again. -/
theorem once {room : Int} {s : List Node} (h : St room s) (one two : Five) {r1 r2 r3 : List Node × Int × Int} (h1 : intern s room (RL.kids s one).1 (RL.kids s one).2.1 (RL.kids s one).2.2.1 (RL.kids s one).2.2.2 = r1)
  (h2 : intern r1.1 room (RL.kids r1.1 two).1 (RL.kids r1.1 two).2.1 (RL.kids r1.1 two).2.2.1 (RL.kids r1.1 two).2.2.2 = r2)
  (h3 : intern r2.1 room (RL.kids s one).1 (RL.kids s one).2.1 (RL.kids s one).2.2.1 (RL.kids s one).2.2.2 = r3) :
  (r1.2.2 ≠ 0 → r1.2.2 = 40 ∧ (s.length : Int) = room ∧ r1.1 = s) ∧ (r1.2.2 = 0 → r3.2.2 = 0 ∧ r3.2.1 = r1.2.1 ∧ r3.1 = r2.1 ∧ R6.right r2.1 room ∧ s.length ≤ r1.1.length ∧ r1.1.length ≤ s.length + 1 ∧ s <+: r1.1 ∧ inS r1.1 r1.2.1 ∧ (nd r1.1 r1.2.1).kids = [(RL.kids s one).1, (RL.kids s one).2.1, (RL.kids s one).2.2.1, (RL.kids s one).2.2.2]) := by
 have hf := kids_fit h.wf (by have := h.few; omega) one
 have hw := h.wf
 rw [intern_eq h.right] at h1
 generalize (RL.kids s one).1 = q0 at *
 generalize (RL.kids s one).2.1 = q1 at *
 generalize (RL.kids s one).2.2.1 = q2 at *
 generalize (RL.kids s one).2.2.2 = q3 at *
 have hle := h.le
 rcases put_cases hw (room := room) hf with ⟨ms, m, e, ok⟩ | ⟨e, hat, hr⟩
 ·rw [e] at h1
  subst h1
  refine ⟨fun hx => absurd rfl hx, fun _ => ?_⟩
  simp only at h2 h3 ⊢
  have hms : (ms.length : Int) ≤ room := by
   have := put_room hle q0 q1 q2 q3
   rw [e] at this
   exact this
  have hrt : R6.right ms room := right_iff.2 ⟨⟨h.lo, by have := h.hi; omega, hms⟩, ok.wf⟩
  rw [intern_eq hrt] at h2
  obtain ⟨w2, p2⟩ := put_wf ok.wf room (RL.kids ms two).1 (RL.kids ms two).2.1 (RL.kids ms two).2.2.1 (RL.kids ms two).2.2.2
  have l2 := put_room hms (RL.kids ms two).1 (RL.kids ms two).2.1 (RL.kids ms two).2.2.1 (RL.kids ms two).2.2.2
  rw [h2] at w2 p2 l2
  have hrt2 : R6.right r2.1 room := right_iff.2 ⟨⟨h.lo, by have := h.hi; omega, l2⟩, w2⟩
  rw [intern_eq hrt2] at h3
  have hpre := ok.pre.trans p2
  have hmb : inS r2.1 m := inS_pre p2 ok.mem
  have hnb : R6.nd r2.1 m = R6.nd ms m := nd_pre p2 ok.mem
  have := put_again w2 (room := room) (fit4_pre hpre hf) hmb (by rw [hnb]; exact ok.lv0 hw hf) (by rw [hnb]; exact ok.kids)
  rw [this] at h3
  subst h3
  exact ⟨rfl, rfl, rfl, hrt2, ok.pre.length_le, ok.len, ok.pre, ok.mem, ok.kids⟩
 ·rw [e] at h1
  subst h1
  exact ⟨fun _ => ⟨rfl, by show (s.length : Int) = room; omega, rfl⟩, fun hx => by cases hx⟩
/-- A store that is full, and one with room for one more. -/
theorem full {room : Int} {s : List Node} (h : St room s) (r : Five) {r1 r2 : List Node × Int × Int} (h1 : intern s s.length (RL.kids s r).1 (RL.kids s r).2.1 (RL.kids s r).2.2.1 (RL.kids s r).2.2.2 = r1) (h2 : intern s ((s.length : Int) + 1) (RL.kids s r).1 (RL.kids s r).2.1 (RL.kids s r).2.2.1 (RL.kids s r).2.2.2 = r2) :
  (0 ≤ R6.at_ s [(RL.kids s r).1, (RL.kids s r).2.1, (RL.kids s r).2.2.1, (RL.kids s r).2.2.2] → r1 = (s, R6.at_ s [(RL.kids s r).1, (RL.kids s r).2.1, (RL.kids s r).2.2.1, (RL.kids s r).2.2.2], 0) ∧ r2 = (s, R6.at_ s [(RL.kids s r).1, (RL.kids s r).2.1, (RL.kids s r).2.2.1, (RL.kids s r).2.2.2], 0)) ∧
  (¬ 0 ≤ R6.at_ s [(RL.kids s r).1, (RL.kids s r).2.1, (RL.kids s r).2.2.1, (RL.kids s r).2.2.2] → r1 = (s, 0, 40) ∧ r2.2.2 = 0 ∧ r2.2.1 = s.length ∧ r2.1.length = s.length + 1) := by
 have hf := kids_fit h.wf (by have := h.few; omega) r
 have hw := h.wf
 have hl2 := hw.len
 have hfew := h.few
 rw [intern_eq (right_iff.2 ⟨⟨by omega, by omega, Int.le_refl _⟩, hw⟩)] at h1
 rw [intern_eq (right_iff.2 ⟨⟨by omega, by omega, by omega⟩, hw⟩)] at h2
 generalize (RL.kids s r).1 = q0 at *
 generalize (RL.kids s r).2.1 = q1 at *
 generalize (RL.kids s r).2.2.1 = q2 at *
 generalize (RL.kids s r).2.2.2 = q3 at *
 unfold put at h1 h2
 rw [if_pos hf] at h1 h2
 constructor
 ·intro hat
  rw [if_pos hat] at h1 h2
  exact ⟨h1.symm, h2.symm⟩
 ·intro hat
  rw [if_neg hat, if_pos (Int.le_refl _)] at h1
  rw [if_neg hat, if_neg (by omega)] at h2
  refine ⟨h1.symm, ?_⟩
  subst h2
  exact ⟨rfl, rfl, by simp⟩
theorem pop4_sum {ns : List Node} {q0 q1 q2 q3 : Int} (h0 : 0 ≤ (nd ns q0).pop) (h1 : 0 ≤ (nd ns q1).pop) (h2 : 0 ≤ (nd ns q2).pop) (h3 : 0 ≤ (nd ns q3).pop) : pop4 ns q0 q1 q2 q3 = mn ((nd ns q0).pop + (nd ns q1).pop + (nd ns q2).pop + (nd ns q3).pop) cap62 := by
 unfold pop4 mn cap62
 repeat' split
 all_goals omega
/-- One of the four turns of four. -/
def Rot (q0 q1 q2 q3 t0 t1 t2 t3 : Int) : Prop := (t0 = q0 ∧ t1 = q1 ∧ t2 = q2 ∧ t3 = q3) ∨ (t0 = q1 ∧ t1 = q2 ∧ t2 = q3 ∧ t3 = q0) ∨ (t0 = q2 ∧ t1 = q3 ∧ t2 = q0 ∧ t3 = q1) ∨ (t0 = q3 ∧ t1 = q0 ∧ t2 = q1 ∧ t3 = q2)
theorem Rot.fit {ns : List Node} {q0 q1 q2 q3 t0 t1 t2 t3 : Int} (h : Rot q0 q1 q2 q3 t0 t1 t2 t3) (hf : fit4 ns q0 q1 q2 q3) : fit4 ns t0 t1 t2 t3 ∧ (nd ns t0).lv = (nd ns q0).lv := by
 obtain ⟨a, ⟨b, b'⟩, ⟨c, c'⟩, ⟨d, d'⟩, e⟩ := hf
 rcases h with ⟨rfl, rfl, rfl, rfl⟩ | ⟨rfl, rfl, rfl, rfl⟩ | ⟨rfl, rfl, rfl, rfl⟩ | ⟨rfl, rfl, rfl, rfl⟩
 ·exact ⟨⟨a, ⟨b, b'⟩, ⟨c, c'⟩, ⟨d, d'⟩, e⟩, rfl⟩
 ·exact ⟨⟨b, ⟨c, by omega⟩, ⟨d, by omega⟩, ⟨a, by omega⟩, by omega⟩, b'⟩
 ·exact ⟨⟨c, ⟨d, by omega⟩, ⟨a, by omega⟩, ⟨b, by omega⟩, by omega⟩, c'⟩
 ·exact ⟨⟨d, ⟨a, by omega⟩, ⟨b, by omega⟩, ⟨c, by omega⟩, by omega⟩, d'⟩
theorem Rot.pop {ns : List Node} (hw : Wf ns) {q0 q1 q2 q3 t0 t1 t2 t3 : Int} (h : Rot q0 q1 q2 q3 t0 t1 t2 t3) (hf : fit4 ns q0 q1 q2 q3) : pop4 ns t0 t1 t2 t3 = pop4 ns q0 q1 q2 q3 := by
 obtain ⟨a, ⟨b, b'⟩, ⟨c, c'⟩, ⟨d, d'⟩, e⟩ := hf
 have ha := (hw.mod.nd a).2.2.1
 have hb := (hw.mod.nd b).2.2.1
 have hc := (hw.mod.nd c).2.2.1
 have hd := (hw.mod.nd d).2.2.1
 rcases h with ⟨rfl, rfl, rfl, rfl⟩ | ⟨rfl, rfl, rfl, rfl⟩ | ⟨rfl, rfl, rfl, rfl⟩ | ⟨rfl, rfl, rfl, rfl⟩
 ·rfl
 all_goals
  rw [pop4_sum (by assumption) (by assumption) (by assumption) (by assumption), pop4_sum (by assumption) (by assumption) (by assumption) (by assumption)]
  congr 1
  omega
theorem pops {room : Int} {s : List Node} (h : St room s) {q0 q1 q2 q3 t0 t1 t2 t3 : Int} (hf : fit4 s q0 q1 q2 q3) (hrot : Rot q0 q1 q2 q3 t0 t1 t2 t3) {r1 r2 : List Node × Int × Int} (h1 : intern s (room + 2) q0 q1 q2 q3 = r1) (h2 : intern r1.1 (room + 2) t0 t1 t2 t3 = r2) :
  r1.2.2 = 0 ∧ r2.2.2 = 0 ∧ r1.1.length ≤ s.length + 1 ∧ inS r2.1 r1.2.1 ∧ inS r2.1 r2.2.1 ∧ (nd r2.1 r1.2.1).pop = pop4 s q0 q1 q2 q3 ∧ (nd r2.1 r2.2.1).pop = pop4 s q0 q1 q2 q3 ∧ (nd r2.1 r1.2.1).lv = (nd r2.1 r2.2.1).lv ∧ (r1.2.1 = r2.2.1 ↔ [q0, q1, q2, q3] = [t0, t1, t2, t3]) := by
 have hw := h.wf
 have hle := h.le
 have hhi := h.hi
 have hlo := h.lo
 rw [intern_eq (right_iff.2 ⟨⟨by omega, by omega, by omega⟩, hw⟩)] at h1
 obtain ⟨ms, m, e, ok⟩ := put_ok hw (room := room + 2) hf (.inr (by omega))
 rw [e] at h1
 subst h1
 have hl1 := ok.len
 simp only at h2 ⊢
 rw [intern_eq (right_iff.2 ⟨⟨by omega, by omega, by omega⟩, ok.wf⟩)] at h2
 obtain ⟨hft, hlt⟩ := hrot.fit hf
 obtain ⟨ms2, m2, e2, ok2⟩ := put_ok ok.wf (room := room + 2) (fit4_pre ok.pre hft) (.inr (by omega))
 rw [e2] at h2
 subst h2
 simp only
 have hn : inS ms2 m := inS_pre ok2.pre ok.mem
 have en : R6.nd ms2 m = mk4 s q0 q1 q2 q3 := by rw [nd_pre ok2.pre ok.mem, ok.nd]
 have em : R6.nd ms2 m2 = mk4 s t0 t1 t2 t3 := by rw [ok2.nd, mk4_pre ok.pre hft]
 refine ⟨by first | rfl | trivial, by first | rfl | trivial, ok.len, hn, ok2.mem, by rw [en]; rfl, by rw [em]; exact hrot.pop hw hf, by rw [en, em]; show (R6.nd s q0).lv + 1 = (R6.nd s t0).lv + 1; rw [hlt], ?_⟩
 constructor
 ·intro he
  rw [he] at en
  rw [em] at en
  have := congrArg Node.kids en
  exact this.symm
 ·intro he
  have hl : ∀ x, (mk4 s x q1 q2 q3).kids = [x, q1, q2, q3] := fun x => rfl
  refine ok2.wf.uniq hn ok2.mem ?_ ?_ ?_
  ·rw [en]
   have := (hw.lvb hf.1).1
   show (R6.nd s q0).lv + 1 ≠ 0
   omega
  ·rw [em]
   have := (hw.lvb hft.1).1
   show (R6.nd s t0).lv + 1 ≠ 0
   omega
  ·rw [en, em]
   exact he
/-! ### empty nodes -/
theorem dead_below {ns : List Node} (h : Wf ns) : ∀ (k j : Nat) (n : Int), IsN ns (j + k) n → (nd ns n).pop = 0 → ∃ q, IsN ns j q ∧ (nd ns q).pop = 0
 | 0, j, n, hn, hp => ⟨n, hn, hp⟩
 | k + 1, j, n, hn, hp => dead_below h k j _ (R7.kids4 h (lv := j + k) hn).1 ((R7.dead_kids h (lv := j + k) hn).1 hp).1
theorem E_zero {ns : List Node} (h : Wf ns) {v : Nat} {n : Int} (hn : IsN ns v n) (hp : (nd ns n).pop = 0) : ∀ j, j ≤ v → R7.E ns j = 0
 | 0, _ => rfl
 | j + 1, hj => by
  have ih := E_zero h hn hp j (by omega)
  obtain ⟨k, rfl⟩ : ∃ k, v = j + 1 + k := ⟨v - (j + 1), by omega⟩
  have hd : R7.deadB ns (j + 1) = true := R7.deadB_iff.2 (dead_below h k (j + 1) n hn hp)
  unfold R7.E
  rw [if_pos hd, ih]
theorem emptyT_eq {ns ms : List Node} {room : Int} {m : Int} {v : Nat} (h : R6.right ns room) (hv : v ≤ 42) (e : R7.empty ns room v = (ms, m, 0)) : emptyT ns room v = (ms, m, 0) := by
 unfold emptyT told
 rw [if_neg (by omega), if_pos h, Int.toNat_natCast, e]
 rfl
theorem empties {room : Int} {s : List Node} (h : St room s) {v1 v2 : Nat} (h1 : v1 ≤ 42) (h2 : v2 ≤ 42) {r1 r2 r3 : List Node × Int × Int} (e1 : emptyT s (room + 50) v1 = r1) (e2 : emptyT r1.1 (room + 50) v2 = r2) (e3 : emptyT r2.1 (room + 50) v1 = r3) :
  (r1.2.2 = 0 ∧ r2.2.2 = 0 ∧ r3.2.2 = 0) ∧ r3.2.1 = r1.2.1 ∧ r3.1 = r2.1 ∧ inS r3.1 r1.2.1 ∧ inS r3.1 r2.2.1 ∧ (nd r3.1 r1.2.1).pop = 0 ∧ (nd r3.1 r1.2.1).lv = v1 ∧ (nd r3.1 r2.2.1).lv = v2 ∧ (r1.2.1 = r2.2.1 ↔ v1 = v2) ∧ r1.1.length ≤ 200 ∧ r2.1.length ≤ s.length + max v1 v2 := by
 have hw := h.wf
 have hle := h.le
 have hhi := h.hi
 have hlo := h.lo
 have hEs := R7.E_le s (max v1 v2)
 obtain ⟨ms1, m1, q1, k1, d1⟩ := R7.empty_ok (room := room + 50) (L := max v1 v2) (by omega) hw (lv := v1) (by omega) (by omega)
 rw [emptyT_eq (right_iff.2 ⟨⟨by omega, by omega, by omega⟩, hw⟩) h1 q1] at e1
 subst e1
 have l1 := k1.len
 obtain ⟨ms2, m2, q2, k2, d2⟩ := R7.empty_ok (room := room + 50) (L := max v1 v2) (by omega) k1.wf (lv := v2) (by omega) (by omega)
 rw [emptyT_eq (right_iff.2 ⟨⟨by omega, by omega, by omega⟩, k1.wf⟩) h2 q2] at e2
 subst e2
 have l2 := k2.len
 have i1 : IsN ms2 v1 m1 := k1.is.pre k2.pre
 have p1 : (nd ms2 m1).pop = 0 := by rw [nd_pre k2.pre k1.is.1]; exact d1
 have hE := E_zero k2.wf i1 p1 v1 (Nat.le_refl _)
 obtain ⟨ms3, m3, q3, k3, d3⟩ := R7.empty_ok (room := room + 50) (L := v1) h1 k2.wf (lv := v1) (Nat.le_refl _) (by omega)
 rw [emptyT_eq (right_iff.2 ⟨⟨by omega, by omega, by omega⟩, k2.wf⟩) h1 q3] at e3
 subst e3
 have l3 := k3.len
 have e : ms2 = ms3 := k3.pre.eq_of_length_le (by omega)
 subst e
 simp only
 refine ⟨⟨by first | rfl | trivial, by first | rfl | trivial, by first | rfl | trivial⟩, R7.dead_uniq k2.wf k3.is i1 d3 p1, by first | rfl | trivial, i1.1, k2.is.1, p1, i1.2, k2.is.2, ?_, by omega, by omega⟩
 constructor
 ·intro hm
  have a := i1.2
  have b := k2.is.2
  rw [hm] at a
  omega
 ·intro hv
  subst hv
  exact R7.dead_uniq k2.wf i1 k2.is p1 d2
end R6
end Go.GL

set_option linter.unusedVariables false
namespace Go.GL
open Go.Proofs
attribute [local irreducible] wpList Code.wp Exit.then Exit.inBlock Ends Tri TriH OpV OpG FnC epf wpAnyH
open R7 (IsN)
set_option maxHeartbeats 2000000 in
set_option maxRecDepth 100000 in
theorem law06_bits {ns : List Node} {a : Option Addr} {cap : Nat} {room : Int} (hw : R6.Wf ns) (hn : ns.length ≤ 1000000000) : ∀ (lv : Nat) {A : List Asrt} {I : List Chunk} {n : Int}, lv ≤ 4 → SlAt I a ns → IsN ns lv n →
  FnC Try.prog 26 [storeV a ns.length cap room, .int .i64 n].toArray A I (fun v A' I' => v = strV (R6.bitsM ns lv n) ∧ A = A' ∧ I = I')
 | 0, A, I, n, hl, hs, hi => by
  have h1 := hi.1.1
  have h2 := hi.1.2
  have hlv : (ns.getD n.toNat default).lv = 0 := hi.2
  have hp : (ns.getD n.toNat default).pop = 0 ∨ (ns.getD n.toNat default).pop = 1 := by
   rcases hw.lv0 hi.1 hlv with rfl | rfl
   ·exact .inl (congrArg Node.pop hw.z)
   ·exact .inr (congrArg Node.pop hw.o)
  skip
  refine fn_enter2 Try.func26 rfl Try.ntmps26 rfl fun w0 => ?_
  refine tS (tR ?_)
  first | refine tri_g (opg_box_agg rfl) rfl ?_ | refine tri_g (opg_box1 rfl rfl) rfl ?_
  rintro _ _ _ ⟨b2, rfl, rfl, rfl⟩
  refine tA rfl rfl (tN (tT (tS (tS (tR (tM rfl rfl ?_))))))
  refine tri_v (opv_lss rfl rfl) rfl ?_
  refine tM rfl rfl ?_
  refine tri_false rfl rfl ((by omega)) ?_
  refine tri_guard_run rfl rfl rfl (tM rfl rfl (tri_guard_run rfl rfl rfl ?_))
  refine tri_v (by first | exact opv_fieldAddr rfl rfl | exact opv_fieldAddrE rfl (by assumption) (by omega) rfl | exact opv_fieldAddrR rfl (by omega) rfl) rfl ?_
  refine tri_guard_run rfl rfl rfl ?_
  refine tri_v (by first | exact opv_load1 rfl rfl rfl | exact opv_loadA rfl rfl rfl | exact opv_loadE1 rfl (by assumption) rfl (by omega) rfl rfl | exact opv_loadEA rfl (by assumption) rfl (by omega) rfl rfl | exact opv_loadRX1 rfl rfl (by omega) rfl rfl | exact opv_loadRXA rfl rfl (by omega) rfl rfl rfl | exact opv_loadIX rfl rfl (by omega) | exact opv_loadR1 rfl rfl rfl | exact opv_loadRA rfl rfl rfl rfl) rfl ?_
  refine tri_guard_run rfl rfl rfl ?_
  refine tri_v (opv_len rfl) rfl ?_
  refine tri_guard_run rfl rfl rfl ?_
  refine tri_v (opv_geq rfl rfl) rfl ?_
  refine tri_v (by first | exact opv_pick_t rfl rfl | exact opv_pick_f rfl rfl | exact opv_pick_bool rfl rfl rfl | exact opv_pick rfl rfl rfl) rfl ?_
  refine tN (tT ?_)
  refine tri_cond_not rfl ((by omega)) ?_
  refine tri_skip (tT (tS (tR ?_)))
  refine tri_v (by first | exact opv_fieldAddr rfl rfl | exact opv_fieldAddrE rfl (by assumption) (by omega) rfl | exact opv_fieldAddrR rfl (by omega) rfl) rfl ?_
  refine tri_v (by first | exact opv_load1 rfl rfl rfl | exact opv_loadA rfl rfl rfl | exact opv_loadE1 rfl (by assumption) rfl (by omega) rfl rfl | exact opv_loadEA rfl (by assumption) rfl (by omega) rfl rfl | exact opv_loadRX1 rfl rfl (by omega) rfl rfl | exact opv_loadRXA rfl rfl (by omega) rfl rfl rfl | exact opv_loadIX rfl rfl (by omega) | exact opv_loadR1 rfl rfl rfl | exact opv_loadRA rfl rfl rfl rfl) rfl ?_
  refine tM rfl rfl ?_
  refine tri_v (by first | exact opv_indexAddrA rfl rfl (by first | decide | omega) (by first | decide | omega) | exact opv_indexAddrSN rfl rfl (by omega) (by assumption) rfl | exact opv_indexAddrS rfl rfl (by omega) (by omega) (by assumption) rfl | exact opv_indexAddrE rfl (by assumption) (by omega) rfl (by first | decide | omega) (by first | decide | omega) | exact opv_indexAddrRN rfl rfl (by omega) | exact opv_indexAddrR rfl rfl (by omega) (by omega) | exact opv_indexAddrRA rfl (by omega) rfl (by first | decide | omega) (by first | decide | omega)) rfl ?_
  refine tri_v (by first | exact opv_load1 rfl rfl rfl | exact opv_loadA rfl rfl rfl | exact opv_loadE1 rfl (by assumption) rfl (by omega) rfl rfl | exact opv_loadEA rfl (by assumption) rfl (by omega) rfl rfl | exact opv_loadRX1 rfl rfl (by omega) rfl rfl | exact opv_loadRXA rfl rfl (by omega) rfl rfl rfl | exact opv_loadIX rfl rfl (by omega) | exact opv_loadR1 rfl rfl rfl | exact opv_loadRA rfl rfl rfl rfl) rfl ?_
  refine tri_g opg_alloc rfl ?_
  rintro _ _ _ ⟨b5, rfl, rfl, rfl⟩
  refine tri_g (opg_store rfl rfl rfl rfl rfl rfl) rfl ?_
  rintro _ _ _ ⟨rfl, rfl⟩
  refine tN (tT (tS (tS (tR ?_))))
  refine tri_v (by first | exact opv_fieldAddr rfl rfl | exact opv_fieldAddrE rfl (by assumption) (by omega) rfl | exact opv_fieldAddrR rfl (by omega) rfl) rfl ?_
  refine tri_v (by first | exact opv_load1 rfl rfl rfl | exact opv_loadA rfl rfl rfl | exact opv_loadE1 rfl (by assumption) rfl (by omega) rfl rfl | exact opv_loadEA rfl (by assumption) rfl (by omega) rfl rfl | exact opv_loadRX1 rfl rfl (by omega) rfl rfl | exact opv_loadRXA rfl rfl (by omega) rfl rfl rfl | exact opv_loadIX rfl rfl (by omega) | exact opv_loadR1 rfl rfl rfl | exact opv_loadRA rfl rfl rfl rfl) rfl ?_
  refine tri_v (opv_gtr rfl rfl) rfl ?_
  refine tN (tT ?_)
  refine tri_cond_not rfl ((by omega)) ?_
  refine tri_skip (tT (tS (tS (tR ?_))))
  refine tri_v (by first | exact opv_fieldAddr rfl rfl | exact opv_fieldAddrE rfl (by assumption) (by omega) rfl | exact opv_fieldAddrR rfl (by omega) rfl) rfl ?_
  refine tri_v (by first | exact opv_load1 rfl rfl rfl | exact opv_loadA rfl rfl rfl | exact opv_loadE1 rfl (by assumption) rfl (by omega) rfl rfl | exact opv_loadEA rfl (by assumption) rfl (by omega) rfl rfl | exact opv_loadRX1 rfl rfl (by omega) rfl rfl | exact opv_loadRXA rfl rfl (by omega) rfl rfl rfl | exact opv_loadIX rfl rfl (by omega) | exact opv_loadR1 rfl rfl rfl | exact opv_loadRA rfl rfl rfl rfl) rfl ?_
  refine tri_v (opv_lss rfl rfl) rfl ?_
  refine tN (tT ?_)
  refine tri_cond_is rfl ((by omega)) ?_
  skip
  refine tS (tR ?_)
  refine tri_v (by first | exact opv_fieldAddr rfl rfl | exact opv_fieldAddrE rfl (by assumption) (by omega) rfl | exact opv_fieldAddrR rfl (by omega) rfl) rfl ?_
  refine tri_v (by first | exact opv_load1 rfl rfl rfl | exact opv_loadA rfl rfl rfl | exact opv_loadE1 rfl (by assumption) rfl (by omega) rfl rfl | exact opv_loadEA rfl (by assumption) rfl (by omega) rfl rfl | exact opv_loadRX1 rfl rfl (by omega) rfl rfl | exact opv_loadRXA rfl rfl (by omega) rfl rfl rfl | exact opv_loadIX rfl rfl (by omega) | exact opv_loadR1 rfl rfl rfl | exact opv_loadRA rfl rfl rfl rfl) rfl ?_
  refine tri_v (by first | exact opv_add rfl rfl (w64 (by omega) (by omega))) rfl ?_
  refine tri_v (opv_convert rfl rfl) rfl ?_
  refine tri_g (opg_buildSlice rfl rfl rfl rfl) rfl ?_
  rintro _ _ _ ⟨b37, rfl, rfl, rfl⟩
  refine tri_v (opv_bytesS (ns := [IntKind.u8.wrap (48 + (ns.getD n.toNat default).pop)]) rfl rfl) rfl ?_
  refine tA rfl rfl (tN (tT (tri_ret (tri_then_ret ?_))))
  refine tri_end A Suf.h rfl (.cons (rv_tmp rfl) .nil) ⟨?_, rfl, rfl⟩
  rfl
 | lv + 1, A, I, n, hl, hs, hi => by
  have h1 := hi.1.1
  have h2 := hi.1.2
  have hlv : (ns.getD n.toNat default).lv = ((lv + 1 : Nat) : Int) := hi.2
  obtain ⟨k0, k1, k2, k3⟩ := R7.kids4 hw hi
  skip
  refine fn_enter2 Try.func26 rfl Try.ntmps26 rfl fun w0 => ?_
  refine tS (tR ?_)
  first | refine tri_g (opg_box_agg rfl) rfl ?_ | refine tri_g (opg_box1 rfl rfl) rfl ?_
  rintro _ _ _ ⟨b2, rfl, rfl, rfl⟩
  refine tA rfl rfl (tN (tT (tS (tS (tR (tM rfl rfl ?_))))))
  refine tri_v (opv_lss rfl rfl) rfl ?_
  refine tM rfl rfl ?_
  refine tri_false rfl rfl ((by omega)) ?_
  refine tri_guard_run rfl rfl rfl (tM rfl rfl (tri_guard_run rfl rfl rfl ?_))
  refine tri_v (by first | exact opv_fieldAddr rfl rfl | exact opv_fieldAddrE rfl (by assumption) (by omega) rfl | exact opv_fieldAddrR rfl (by omega) rfl) rfl ?_
  refine tri_guard_run rfl rfl rfl ?_
  refine tri_v (by first | exact opv_load1 rfl rfl rfl | exact opv_loadA rfl rfl rfl | exact opv_loadE1 rfl (by assumption) rfl (by omega) rfl rfl | exact opv_loadEA rfl (by assumption) rfl (by omega) rfl rfl | exact opv_loadRX1 rfl rfl (by omega) rfl rfl | exact opv_loadRXA rfl rfl (by omega) rfl rfl rfl | exact opv_loadIX rfl rfl (by omega) | exact opv_loadR1 rfl rfl rfl | exact opv_loadRA rfl rfl rfl rfl) rfl ?_
  refine tri_guard_run rfl rfl rfl ?_
  refine tri_v (opv_len rfl) rfl ?_
  refine tri_guard_run rfl rfl rfl ?_
  refine tri_v (opv_geq rfl rfl) rfl ?_
  refine tri_v (by first | exact opv_pick_t rfl rfl | exact opv_pick_f rfl rfl | exact opv_pick_bool rfl rfl rfl | exact opv_pick rfl rfl rfl) rfl ?_
  refine tN (tT ?_)
  refine tri_cond_not rfl ((by omega)) ?_
  refine tri_skip (tT (tS (tR ?_)))
  refine tri_v (by first | exact opv_fieldAddr rfl rfl | exact opv_fieldAddrE rfl (by assumption) (by omega) rfl | exact opv_fieldAddrR rfl (by omega) rfl) rfl ?_
  refine tri_v (by first | exact opv_load1 rfl rfl rfl | exact opv_loadA rfl rfl rfl | exact opv_loadE1 rfl (by assumption) rfl (by omega) rfl rfl | exact opv_loadEA rfl (by assumption) rfl (by omega) rfl rfl | exact opv_loadRX1 rfl rfl (by omega) rfl rfl | exact opv_loadRXA rfl rfl (by omega) rfl rfl rfl | exact opv_loadIX rfl rfl (by omega) | exact opv_loadR1 rfl rfl rfl | exact opv_loadRA rfl rfl rfl rfl) rfl ?_
  refine tM rfl rfl ?_
  refine tri_v (by first | exact opv_indexAddrA rfl rfl (by first | decide | omega) (by first | decide | omega) | exact opv_indexAddrSN rfl rfl (by omega) (by assumption) rfl | exact opv_indexAddrS rfl rfl (by omega) (by omega) (by assumption) rfl | exact opv_indexAddrE rfl (by assumption) (by omega) rfl (by first | decide | omega) (by first | decide | omega) | exact opv_indexAddrRN rfl rfl (by omega) | exact opv_indexAddrR rfl rfl (by omega) (by omega) | exact opv_indexAddrRA rfl (by omega) rfl (by first | decide | omega) (by first | decide | omega)) rfl ?_
  refine tri_v (by first | exact opv_load1 rfl rfl rfl | exact opv_loadA rfl rfl rfl | exact opv_loadE1 rfl (by assumption) rfl (by omega) rfl rfl | exact opv_loadEA rfl (by assumption) rfl (by omega) rfl rfl | exact opv_loadRX1 rfl rfl (by omega) rfl rfl | exact opv_loadRXA rfl rfl (by omega) rfl rfl rfl | exact opv_loadIX rfl rfl (by omega) | exact opv_loadR1 rfl rfl rfl | exact opv_loadRA rfl rfl rfl rfl) rfl ?_
  refine tri_g opg_alloc rfl ?_
  rintro _ _ _ ⟨b5, rfl, rfl, rfl⟩
  refine tri_g (opg_store rfl rfl rfl rfl rfl rfl) rfl ?_
  rintro _ _ _ ⟨rfl, rfl⟩
  refine tN (tT (tS (tS (tR ?_))))
  refine tri_v (by first | exact opv_fieldAddr rfl rfl | exact opv_fieldAddrE rfl (by assumption) (by omega) rfl | exact opv_fieldAddrR rfl (by omega) rfl) rfl ?_
  refine tri_v (by first | exact opv_load1 rfl rfl rfl | exact opv_loadA rfl rfl rfl | exact opv_loadE1 rfl (by assumption) rfl (by omega) rfl rfl | exact opv_loadEA rfl (by assumption) rfl (by omega) rfl rfl | exact opv_loadRX1 rfl rfl (by omega) rfl rfl | exact opv_loadRXA rfl rfl (by omega) rfl rfl rfl | exact opv_loadIX rfl rfl (by omega) | exact opv_loadR1 rfl rfl rfl | exact opv_loadRA rfl rfl rfl rfl) rfl ?_
  refine tri_v (opv_gtr rfl rfl) rfl ?_
  refine tN (tT ?_)
  refine tri_cond_not rfl ((by omega)) ?_
  refine tri_skip (tT (tS (tS (tR ?_))))
  refine tri_v (by first | exact opv_fieldAddr rfl rfl | exact opv_fieldAddrE rfl (by assumption) (by omega) rfl | exact opv_fieldAddrR rfl (by omega) rfl) rfl ?_
  refine tri_v (by first | exact opv_load1 rfl rfl rfl | exact opv_loadA rfl rfl rfl | exact opv_loadE1 rfl (by assumption) rfl (by omega) rfl rfl | exact opv_loadEA rfl (by assumption) rfl (by omega) rfl rfl | exact opv_loadRX1 rfl rfl (by omega) rfl rfl | exact opv_loadRXA rfl rfl (by omega) rfl rfl rfl | exact opv_loadIX rfl rfl (by omega) | exact opv_loadR1 rfl rfl rfl | exact opv_loadRA rfl rfl rfl rfl) rfl ?_
  refine tri_v (opv_lss rfl rfl) rfl ?_
  refine tN (tT ?_)
  refine tri_cond_not rfl ((by omega)) ?_
  refine tri_skip (tT (tS (tR ?_)))
  refine tri_g opg_alloc rfl ?_
  rintro _ _ _ ⟨b6, rfl, rfl, rfl⟩
  refine tN (tT (tS (tS (tR (tA rfl rfl (tN (tT ?_)))))))
  refine tri_block ?_
  refine tri_rounds 5 ?_
  refine tri_round ?_
  refine tS (tS (tR (tM rfl rfl ?_)))
  refine tri_v (opv_lss rfl rfl) rfl ?_
  refine tN (tT ?_)
  refine tri_cond_is rfl ((by decide)) ?_
  skip
  refine tri_skip (tT (tS (tri_block ?_)))
  refine tri_draw [0, 1, 2, 3, 4, 5, 6, 7, 8] rfl [_] rfl mixed ?_
  refine th_take rfl rfl (by kernel_rfl)  (opv_move rfl) ?_
  refine th_take rfl rfl (by kernel_rfl)  (by first | exact opv_load1 rfl rfl rfl | exact opv_loadA rfl rfl rfl | exact opv_loadE1 rfl (by assumption) rfl (by omega) rfl rfl | exact opv_loadEA rfl (by assumption) rfl (by omega) rfl rfl | exact opv_loadRX1 rfl rfl (by omega) rfl rfl | exact opv_loadRXA rfl rfl (by omega) rfl rfl rfl | exact opv_loadIX rfl rfl (by omega) | exact opv_loadR1 rfl rfl rfl | exact opv_loadRA rfl rfl rfl rfl) ?_
  refine th_take rfl rfl (by kernel_rfl)  (opv_move rfl) ?_
  refine th_take rfl rfl (by kernel_rfl)  (by first | exact opv_fieldAddr rfl rfl | exact opv_fieldAddrE rfl (by assumption) (by omega) rfl | exact opv_fieldAddrR rfl (by omega) rfl) ?_
  refine th_take rfl rfl (by kernel_rfl)  (by first | exact opv_indexAddrA rfl rfl (by first | decide | omega) (by first | decide | omega) | exact opv_indexAddrSN rfl rfl (by omega) (by assumption) rfl | exact opv_indexAddrS rfl rfl (by omega) (by omega) (by assumption) rfl | exact opv_indexAddrE rfl (by assumption) (by omega) rfl (by first | decide | omega) (by first | decide | omega) | exact opv_indexAddrRN rfl rfl (by omega) | exact opv_indexAddrR rfl rfl (by omega) (by omega) | exact opv_indexAddrRA rfl (by omega) rfl (by first | decide | omega) (by first | decide | omega)) ?_
  refine th_take rfl rfl (by kernel_rfl)  (by first | exact opv_load1 rfl rfl rfl | exact opv_loadA rfl rfl rfl | exact opv_loadE1 rfl (by assumption) rfl (by omega) rfl rfl | exact opv_loadEA rfl (by assumption) rfl (by omega) rfl rfl | exact opv_loadRX1 rfl rfl (by omega) rfl rfl | exact opv_loadRXA rfl rfl (by omega) rfl rfl rfl | exact opv_loadIX rfl rfl (by omega) | exact opv_loadR1 rfl rfl rfl | exact opv_loadRA rfl rfl rfl rfl) ?_
  refine th_one (by kernel_rfl) (step_m rfl rfl (opg_call (xs := [_, _]) rfl (law06_bits hw hn lv (by omega) hs k0)) ?_)
  rintro _ _ _ ⟨rfl, rfl, rfl⟩
  refine ⟨Suf.h, (by first | exact fun _ h => h | assumption | exact fun _ h => (by assumption : _ ⊆ _) ((by assumption : _ ⊆ _) h)), ?_⟩
  refine th_take rfl rfl (by kernel_rfl)  (by first | exact opv_indexAddrA rfl rfl (by first | decide | omega) (by first | decide | omega) | exact opv_indexAddrSN rfl rfl (by omega) (by assumption) rfl | exact opv_indexAddrS rfl rfl (by omega) (by omega) (by assumption) rfl | exact opv_indexAddrE rfl (by assumption) (by omega) rfl (by first | decide | omega) (by first | decide | omega) | exact opv_indexAddrRN rfl rfl (by omega) | exact opv_indexAddrR rfl rfl (by omega) (by omega) | exact opv_indexAddrRA rfl (by omega) rfl (by first | decide | omega) (by first | decide | omega)) ?_
  refine th_one (by kernel_rfl) (step_m rfl rfl (opg_store rfl rfl rfl rfl rfl rfl) ?_)
  rintro _ _ _ ⟨rfl, rfl⟩
  refine ⟨Suf.h, (by first | exact fun _ h => h | assumption | exact fun _ h => (by assumption : _ ⊆ _) ((by assumption : _ ⊆ _) h)), ?_⟩
  refine th_done (by kernel_rfl) ?_
  refine tri_inBlock ?_
  refine tT (tR (tM rfl rfl ?_))
  refine tri_v (by first | exact opv_add rfl rfl (w64 (by omega) (by omega))) rfl ?_
  refine tA rfl rfl (tN (tT ?_))
  refine tri_round ?_
  refine tS (tS (tR (tM rfl rfl ?_)))
  refine tri_v (opv_lss rfl rfl) rfl ?_
  refine tN (tT ?_)
  refine tri_cond_is rfl ((by decide)) ?_
  skip
  refine tri_skip (tT (tS (tri_block ?_)))
  refine tri_draw [0, 1, 2, 3, 4, 5, 6, 7, 8] rfl [_] rfl mixed ?_
  refine th_take rfl rfl (by kernel_rfl)  (opv_move rfl) ?_
  refine th_take rfl rfl (by kernel_rfl)  (by first | exact opv_load1 rfl rfl rfl | exact opv_loadA rfl rfl rfl | exact opv_loadE1 rfl (by assumption) rfl (by omega) rfl rfl | exact opv_loadEA rfl (by assumption) rfl (by omega) rfl rfl | exact opv_loadRX1 rfl rfl (by omega) rfl rfl | exact opv_loadRXA rfl rfl (by omega) rfl rfl rfl | exact opv_loadIX rfl rfl (by omega) | exact opv_loadR1 rfl rfl rfl | exact opv_loadRA rfl rfl rfl rfl) ?_
  refine th_take rfl rfl (by kernel_rfl)  (opv_move rfl) ?_
  refine th_take rfl rfl (by kernel_rfl)  (by first | exact opv_fieldAddr rfl rfl | exact opv_fieldAddrE rfl (by assumption) (by omega) rfl | exact opv_fieldAddrR rfl (by omega) rfl) ?_
  refine th_take rfl rfl (by kernel_rfl)  (by first | exact opv_indexAddrA rfl rfl (by first | decide | omega) (by first | decide | omega) | exact opv_indexAddrSN rfl rfl (by omega) (by assumption) rfl | exact opv_indexAddrS rfl rfl (by omega) (by omega) (by assumption) rfl | exact opv_indexAddrE rfl (by assumption) (by omega) rfl (by first | decide | omega) (by first | decide | omega) | exact opv_indexAddrRN rfl rfl (by omega) | exact opv_indexAddrR rfl rfl (by omega) (by omega) | exact opv_indexAddrRA rfl (by omega) rfl (by first | decide | omega) (by first | decide | omega)) ?_
  refine th_take rfl rfl (by kernel_rfl)  (by first | exact opv_load1 rfl rfl rfl | exact opv_loadA rfl rfl rfl | exact opv_loadE1 rfl (by assumption) rfl (by omega) rfl rfl | exact opv_loadEA rfl (by assumption) rfl (by omega) rfl rfl | exact opv_loadRX1 rfl rfl (by omega) rfl rfl | exact opv_loadRXA rfl rfl (by omega) rfl rfl rfl | exact opv_loadIX rfl rfl (by omega) | exact opv_loadR1 rfl rfl rfl | exact opv_loadRA rfl rfl rfl rfl) ?_
  refine th_one (by kernel_rfl) (step_m rfl rfl (opg_call (xs := [_, _]) rfl (law06_bits hw hn lv (by omega) hs k1)) ?_)
  rintro _ _ _ ⟨rfl, rfl, rfl⟩
  refine ⟨Suf.h, (by first | exact fun _ h => h | assumption | exact fun _ h => (by assumption : _ ⊆ _) ((by assumption : _ ⊆ _) h)), ?_⟩
  refine th_take rfl rfl (by kernel_rfl)  (by first | exact opv_indexAddrA rfl rfl (by first | decide | omega) (by first | decide | omega) | exact opv_indexAddrSN rfl rfl (by omega) (by assumption) rfl | exact opv_indexAddrS rfl rfl (by omega) (by omega) (by assumption) rfl | exact opv_indexAddrE rfl (by assumption) (by omega) rfl (by first | decide | omega) (by first | decide | omega) | exact opv_indexAddrRN rfl rfl (by omega) | exact opv_indexAddrR rfl rfl (by omega) (by omega) | exact opv_indexAddrRA rfl (by omega) rfl (by first | decide | omega) (by first | decide | omega)) ?_
  refine th_one (by kernel_rfl) (step_m rfl rfl (opg_store rfl rfl rfl rfl rfl rfl) ?_)
  rintro _ _ _ ⟨rfl, rfl⟩
  refine ⟨Suf.h, (by first | exact fun _ h => h | assumption | exact fun _ h => (by assumption : _ ⊆ _) ((by assumption : _ ⊆ _) h)), ?_⟩
  refine th_done (by kernel_rfl) ?_
  refine tri_inBlock ?_
  refine tT (tR (tM rfl rfl ?_))
  refine tri_v (by first | exact opv_add rfl rfl (w64 (by omega) (by omega))) rfl ?_
  refine tA rfl rfl (tN (tT ?_))
  refine tri_round ?_
  refine tS (tS (tR (tM rfl rfl ?_)))
  refine tri_v (opv_lss rfl rfl) rfl ?_
  refine tN (tT ?_)
  refine tri_cond_is rfl ((by decide)) ?_
  skip
  refine tri_skip (tT (tS (tri_block ?_)))
  refine tri_draw [0, 1, 2, 3, 4, 5, 6, 7, 8] rfl [_] rfl mixed ?_
  refine th_take rfl rfl (by kernel_rfl)  (opv_move rfl) ?_
  refine th_take rfl rfl (by kernel_rfl)  (by first | exact opv_load1 rfl rfl rfl | exact opv_loadA rfl rfl rfl | exact opv_loadE1 rfl (by assumption) rfl (by omega) rfl rfl | exact opv_loadEA rfl (by assumption) rfl (by omega) rfl rfl | exact opv_loadRX1 rfl rfl (by omega) rfl rfl | exact opv_loadRXA rfl rfl (by omega) rfl rfl rfl | exact opv_loadIX rfl rfl (by omega) | exact opv_loadR1 rfl rfl rfl | exact opv_loadRA rfl rfl rfl rfl) ?_
  refine th_take rfl rfl (by kernel_rfl)  (opv_move rfl) ?_
  refine th_take rfl rfl (by kernel_rfl)  (by first | exact opv_fieldAddr rfl rfl | exact opv_fieldAddrE rfl (by assumption) (by omega) rfl | exact opv_fieldAddrR rfl (by omega) rfl) ?_
  refine th_take rfl rfl (by kernel_rfl)  (by first | exact opv_indexAddrA rfl rfl (by first | decide | omega) (by first | decide | omega) | exact opv_indexAddrSN rfl rfl (by omega) (by assumption) rfl | exact opv_indexAddrS rfl rfl (by omega) (by omega) (by assumption) rfl | exact opv_indexAddrE rfl (by assumption) (by omega) rfl (by first | decide | omega) (by first | decide | omega) | exact opv_indexAddrRN rfl rfl (by omega) | exact opv_indexAddrR rfl rfl (by omega) (by omega) | exact opv_indexAddrRA rfl (by omega) rfl (by first | decide | omega) (by first | decide | omega)) ?_
  refine th_take rfl rfl (by kernel_rfl)  (by first | exact opv_load1 rfl rfl rfl | exact opv_loadA rfl rfl rfl | exact opv_loadE1 rfl (by assumption) rfl (by omega) rfl rfl | exact opv_loadEA rfl (by assumption) rfl (by omega) rfl rfl | exact opv_loadRX1 rfl rfl (by omega) rfl rfl | exact opv_loadRXA rfl rfl (by omega) rfl rfl rfl | exact opv_loadIX rfl rfl (by omega) | exact opv_loadR1 rfl rfl rfl | exact opv_loadRA rfl rfl rfl rfl) ?_
  refine th_one (by kernel_rfl) (step_m rfl rfl (opg_call (xs := [_, _]) rfl (law06_bits hw hn lv (by omega) hs k2)) ?_)
  rintro _ _ _ ⟨rfl, rfl, rfl⟩
  refine ⟨Suf.h, (by first | exact fun _ h => h | assumption | exact fun _ h => (by assumption : _ ⊆ _) ((by assumption : _ ⊆ _) h)), ?_⟩
  refine th_take rfl rfl (by kernel_rfl)  (by first | exact opv_indexAddrA rfl rfl (by first | decide | omega) (by first | decide | omega) | exact opv_indexAddrSN rfl rfl (by omega) (by assumption) rfl | exact opv_indexAddrS rfl rfl (by omega) (by omega) (by assumption) rfl | exact opv_indexAddrE rfl (by assumption) (by omega) rfl (by first | decide | omega) (by first | decide | omega) | exact opv_indexAddrRN rfl rfl (by omega) | exact opv_indexAddrR rfl rfl (by omega) (by omega) | exact opv_indexAddrRA rfl (by omega) rfl (by first | decide | omega) (by first | decide | omega)) ?_
  refine th_one (by kernel_rfl) (step_m rfl rfl (opg_store rfl rfl rfl rfl rfl rfl) ?_)
  rintro _ _ _ ⟨rfl, rfl⟩
  refine ⟨Suf.h, (by first | exact fun _ h => h | assumption | exact fun _ h => (by assumption : _ ⊆ _) ((by assumption : _ ⊆ _) h)), ?_⟩
  refine th_done (by kernel_rfl) ?_
  refine tri_inBlock ?_
  refine tT (tR (tM rfl rfl ?_))
  refine tri_v (by first | exact opv_add rfl rfl (w64 (by omega) (by omega))) rfl ?_
  refine tA rfl rfl (tN (tT ?_))
  refine tri_round ?_
  refine tS (tS (tR (tM rfl rfl ?_)))
  refine tri_v (opv_lss rfl rfl) rfl ?_
  refine tN (tT ?_)
  refine tri_cond_is rfl ((by decide)) ?_
  skip
  refine tri_skip (tT (tS (tri_block ?_)))
  refine tri_draw [0, 1, 2, 3, 4, 5, 6, 7, 8] rfl [_] rfl mixed ?_
  refine th_take rfl rfl (by kernel_rfl)  (opv_move rfl) ?_
  refine th_take rfl rfl (by kernel_rfl)  (by first | exact opv_load1 rfl rfl rfl | exact opv_loadA rfl rfl rfl | exact opv_loadE1 rfl (by assumption) rfl (by omega) rfl rfl | exact opv_loadEA rfl (by assumption) rfl (by omega) rfl rfl | exact opv_loadRX1 rfl rfl (by omega) rfl rfl | exact opv_loadRXA rfl rfl (by omega) rfl rfl rfl | exact opv_loadIX rfl rfl (by omega) | exact opv_loadR1 rfl rfl rfl | exact opv_loadRA rfl rfl rfl rfl) ?_
  refine th_take rfl rfl (by kernel_rfl)  (opv_move rfl) ?_
  refine th_take rfl rfl (by kernel_rfl)  (by first | exact opv_fieldAddr rfl rfl | exact opv_fieldAddrE rfl (by assumption) (by omega) rfl | exact opv_fieldAddrR rfl (by omega) rfl) ?_
  refine th_take rfl rfl (by kernel_rfl)  (by first | exact opv_indexAddrA rfl rfl (by first | decide | omega) (by first | decide | omega) | exact opv_indexAddrSN rfl rfl (by omega) (by assumption) rfl | exact opv_indexAddrS rfl rfl (by omega) (by omega) (by assumption) rfl | exact opv_indexAddrE rfl (by assumption) (by omega) rfl (by first | decide | omega) (by first | decide | omega) | exact opv_indexAddrRN rfl rfl (by omega) | exact opv_indexAddrR rfl rfl (by omega) (by omega) | exact opv_indexAddrRA rfl (by omega) rfl (by first | decide | omega) (by first | decide | omega)) ?_
  refine th_take rfl rfl (by kernel_rfl)  (by first | exact opv_load1 rfl rfl rfl | exact opv_loadA rfl rfl rfl | exact opv_loadE1 rfl (by assumption) rfl (by omega) rfl rfl | exact opv_loadEA rfl (by assumption) rfl (by omega) rfl rfl | exact opv_loadRX1 rfl rfl (by omega) rfl rfl | exact opv_loadRXA rfl rfl (by omega) rfl rfl rfl | exact opv_loadIX rfl rfl (by omega) | exact opv_loadR1 rfl rfl rfl | exact opv_loadRA rfl rfl rfl rfl) ?_
  refine th_one (by kernel_rfl) (step_m rfl rfl (opg_call (xs := [_, _]) rfl (law06_bits hw hn lv (by omega) hs k3)) ?_)
  rintro _ _ _ ⟨rfl, rfl, rfl⟩
  refine ⟨Suf.h, (by first | exact fun _ h => h | assumption | exact fun _ h => (by assumption : _ ⊆ _) ((by assumption : _ ⊆ _) h)), ?_⟩
  refine th_take rfl rfl (by kernel_rfl)  (by first | exact opv_indexAddrA rfl rfl (by first | decide | omega) (by first | decide | omega) | exact opv_indexAddrSN rfl rfl (by omega) (by assumption) rfl | exact opv_indexAddrS rfl rfl (by omega) (by omega) (by assumption) rfl | exact opv_indexAddrE rfl (by assumption) (by omega) rfl (by first | decide | omega) (by first | decide | omega) | exact opv_indexAddrRN rfl rfl (by omega) | exact opv_indexAddrR rfl rfl (by omega) (by omega) | exact opv_indexAddrRA rfl (by omega) rfl (by first | decide | omega) (by first | decide | omega)) ?_
  refine th_one (by kernel_rfl) (step_m rfl rfl (opg_store rfl rfl rfl rfl rfl rfl) ?_)
  rintro _ _ _ ⟨rfl, rfl⟩
  refine ⟨Suf.h, (by first | exact fun _ h => h | assumption | exact fun _ h => (by assumption : _ ⊆ _) ((by assumption : _ ⊆ _) h)), ?_⟩
  refine th_done (by kernel_rfl) ?_
  refine tri_inBlock ?_
  refine tT (tR (tM rfl rfl ?_))
  refine tri_v (by first | exact opv_add rfl rfl (w64 (by omega) (by omega))) rfl ?_
  refine tA rfl rfl (tN (tT ?_))
  refine tri_round ?_
  refine tS (tS (tR (tM rfl rfl ?_)))
  refine tri_v (opv_lss rfl rfl) rfl ?_
  refine tN (tT ?_)
  refine tri_cond_not rfl ((by decide)) ?_
  skip
  refine tri_exit ?_
  refine tri_then_exit ?_
  refine tri_then_exit ?_
  refine tri_inBlock_hit rfl ?_
  refine tT (tS (tR ?_))
  refine tri_v (by first | exact opv_fieldAddr rfl rfl | exact opv_fieldAddrE rfl (by assumption) (by omega) rfl | exact opv_fieldAddrR rfl (by omega) rfl) rfl ?_
  refine tri_v (by first | exact opv_load1 rfl rfl rfl | exact opv_loadA rfl rfl rfl | exact opv_loadE1 rfl (by assumption) rfl (by omega) rfl rfl | exact opv_loadEA rfl (by assumption) rfl (by omega) rfl rfl | exact opv_loadRX1 rfl rfl (by omega) rfl rfl | exact opv_loadRXA rfl rfl (by omega) rfl rfl rfl | exact opv_loadIX rfl rfl (by omega) | exact opv_loadR1 rfl rfl rfl | exact opv_loadRA rfl rfl rfl rfl) rfl ?_
  refine tri_v (by first | exact opv_sub rfl rfl (w64 (by omega) (by omega)) | exact opv_sub rfl rfl rfl) rfl ?_
  refine tri_v (opv_shl1 rfl rfl (by omega) (by omega)) rfl ?_
  have em : (2:Int) ^ ((ns.getD n.toNat default).lv - 1).toNat = ((2 ^ lv : Nat) : Int) := by
   rw [hlv, show (((lv + 1 : Nat) : Int) - 1).toNat = lv by omega]
   simp
  have hm8 : 2 ^ lv ≤ 8 := by
   have := Nat.pow_le_pow_right (n := 2) (by omega) (show lv ≤ 3 by omega)
   omega
  have hm0 : 0 < 2 ^ lv := Nat.two_pow_pos lv
  have hql : ∀ k, (R6.bitsM ns lv ((R6.nd ns n).kids.getD k default)).length = 2 ^ lv * 2 ^ lv := fun k => R6.bitsM_len ns lv _
  have hres : R6.bitsM ns (lv + 1) n = R6.bitsUp (2 ^ lv) (fun k => R6.bitsM ns lv ((R6.nd ns n).kids.getD k default)) (2 * 2 ^ lv) := rfl
  rw [hres]
  rw [em]
  generalize hmm : 2 ^ lv = m at *
  refine tA rfl rfl (tN (tT (tS (tR (tA rfl rfl (tN (tT ?_)))))))
  refine tS (tS (tR (tA rfl rfl (tN (tT (tri_block ?_))))))
  obtain ⟨q, hq⟩ : ∃ q : Nat → List UInt8, q = fun k => R6.bitsM ns lv ((R6.nd ns n).kids.getD k default) := ⟨_, rfl⟩
  rw [← hq]
  have hqm : ∀ k, (q k).length = m * m := fun k => by rw [hq]; exact hql k
  have hst : ∀ k, k < 4 → (strs [R6.bitsM ns lv (R6.nd ns n).k0, R6.bitsM ns lv (R6.nd ns n).k1, R6.bitsM ns lv (R6.nd ns n).k2, R6.bitsM ns lv (R6.nd ns n).k3])[k]? = some (strV (q k)) := by
   intro k hk
   rcases (by omega : k = 0 ∨ k = 1 ∨ k = 2 ∨ k = 3) with rfl | rfl | rfl | rfl <;> (rw [hq]; rfl)
  refine tri_sub (F' := [(6, pt b6 0), (8, .int .i64 (m : Int)), (9, strV (R6.bitsUp m q 0)), (10, .int .i64 ((0 : Nat) : Int))]) ⟨rfl, rfl, rfl, rfl, trivial⟩ ?_
  refine loop_ind (G := Nat) (fun y => 2 * m - y) (fun y => y ≤ 2 * m) (fun y => [(6, pt b6 0), (8, .int .i64 (m : Int)), (9, strV (R6.bitsUp m q y)), (10, .int .i64 (y : Nat))]) (fun _ => _) (fun _ => _) ?_ 0 (by omega)
  rintro y hy K hK
  have hup := R6.bitsUp_len hm0 (fun k _ => hqm k) y hy
  have hmm8 : m * m ≤ 64 := by
   have := Nat.mul_le_mul hm8 hm8
   omega
  have hym : y * (2 * m) ≤ 256 := by
   have := Nat.mul_le_mul hy (Nat.le_refl (2 * m))
   have e4 : 2 * m * (2 * m) = 4 * (m * m) := by rw [Nat.mul_mul_mul_comm]
   omega
  skip
  refine tS (tS (tR (tM rfl rfl (tM rfl rfl ?_))))
  refine tri_v (opv_mulN (a := 2) (z := 2 * m) rfl rfl rfl (by omega)) rfl ?_
  refine tri_v (opv_lss rfl rfl) rfl ?_
  refine tN (tT ?_)
  refine tri_cond_dec rfl (fun hlt => ?_) (fun hlt => ?_)
  ·have hlt' : y < 2 * m := by omega
   obtain ⟨d, hd⟩ : ∃ d, y / m = d := ⟨_, rfl⟩
   obtain ⟨f, hf⟩ : ∃ f, y % m * m = f := ⟨_, rfl⟩
   have hd2 : d < 2 := by rw [← hd]; exact Nat.div_lt_of_lt_mul (by rw [Nat.mul_comm]; exact hlt')
   have hfm : f + m ≤ m * m := by rw [← hf]; exact R6.row_le hm0
   have hA := hst (2 * d) (by omega)
   have hB := hst (2 * d + 1) (by omega)
   have la := hqm (2 * d)
   have lb := hqm (2 * d + 1)
   have hstep : R6.bitsUp m q (y + 1) = R6.bitsUp m q y ++ R6.seg (q (2 * d)) f m ++ R6.seg (q (2 * d + 1)) f m := by
    show R6.bitsUp m q y ++ _ ++ _ = _
    rw [hd, hf]
   generalize q (2 * d) = qa at *
   generalize q (2 * d + 1) = qb at *
   have sa := R6.seg_len (s := qa) (f := f) (m := m) (by omega)
   have sb := R6.seg_len (s := qb) (f := f) (m := m) (by omega)
   have o1 : 0 + ((2 * d : Nat) : Int).toNat * 1 = 2 * d := by omega
   have o2 : 0 + (((2 * d : Nat) : Int) + 1).toNat * 1 = 2 * d + 1 := by omega
   refine tri_skip (tT (tS (tri_block (tS (tR (tM rfl rfl (tM rfl rfl ?_)))))))
   refine tri_v (opv_quoN (z := d) rfl rfl hm0 (by omega) hd) rfl ?_
   skip
   refine tri_v (opv_mulN (a := 2) (z := 2 * d) rfl rfl rfl (by omega)) rfl ?_
   refine tA rfl rfl (tN (tT (tS (tR (tM rfl rfl (tM rfl rfl ?_))))))
   refine tri_v (opv_remN (z := y % m) rfl rfl hm0 rfl) rfl ?_
   refine tM rfl rfl ?_
   refine tri_v (opv_mulN (z := f) rfl rfl hf (by omega)) rfl ?_
   refine tA rfl rfl (tN (tT (tS (tS (tR (tM rfl rfl ?_))))))
   refine tri_v (by first | exact opv_indexAddrA rfl rfl (by first | decide | omega) (by first | decide | omega) | exact opv_indexAddrSN rfl rfl (by omega) (by assumption) rfl | exact opv_indexAddrS rfl rfl (by omega) (by omega) (by assumption) rfl | exact opv_indexAddrE rfl (by assumption) (by omega) rfl (by first | decide | omega) (by first | decide | omega) | exact opv_indexAddrRN rfl rfl (by omega) | exact opv_indexAddrR rfl rfl (by omega) (by omega) | exact opv_indexAddrRA rfl (by omega) rfl (by first | decide | omega) (by first | decide | omega)) rfl ?_
   refine tri_v (opv_load1 rfl rfl (by rw [o1]; exact hA)) rfl ?_
   skip
   refine tri_v (opv_lenS rfl) rfl ?_
   refine tM rfl rfl (tM rfl rfl ?_)
   refine tri_v (by first | exact opv_add rfl rfl (w64 (by omega) (by omega))) rfl ?_
   refine tri_v (opv_lss rfl rfl) rfl ?_
   refine tM rfl rfl ?_
   refine tri_false rfl rfl ((by omega)) ?_
   refine tri_guard_run rfl rfl rfl (tM rfl rfl (tri_guard_run rfl rfl rfl ?_))
   refine tri_v (by first | exact opv_add rfl rfl (w64 (by omega) (by omega))) rfl ?_
   refine tri_guard_run rfl rfl rfl ?_
   refine tri_v (by first | exact opv_indexAddrA rfl rfl (by first | decide | omega) (by first | decide | omega) | exact opv_indexAddrSN rfl rfl (by omega) (by assumption) rfl | exact opv_indexAddrS rfl rfl (by omega) (by omega) (by assumption) rfl | exact opv_indexAddrE rfl (by assumption) (by omega) rfl (by first | decide | omega) (by first | decide | omega) | exact opv_indexAddrRN rfl rfl (by omega) | exact opv_indexAddrR rfl rfl (by omega) (by omega) | exact opv_indexAddrRA rfl (by omega) rfl (by first | decide | omega) (by first | decide | omega)) rfl ?_
   refine tri_guard_run rfl rfl rfl ?_
   refine tri_v (opv_load1 rfl rfl (by rw [o2]; exact hB)) rfl ?_
   skip
   refine tri_guard_run rfl rfl rfl ?_
   refine tri_v (opv_lenS rfl) rfl ?_
   refine tri_guard_run rfl rfl rfl (tM rfl rfl (tri_guard_run rfl rfl rfl (tM rfl rfl (tri_guard_run rfl rfl rfl ?_))))
   refine tri_v (by first | exact opv_add rfl rfl (w64 (by omega) (by omega))) rfl ?_
   refine tri_guard_run rfl rfl rfl ?_
   refine tri_v (opv_lss rfl rfl) rfl ?_
   refine tri_v (by first | exact opv_pick_t rfl rfl | exact opv_pick_f rfl rfl | exact opv_pick_bool rfl rfl rfl | exact opv_pick rfl rfl rfl) rfl ?_
   refine tN (tT ?_)
   refine tri_cond_not rfl ((by omega)) ?_
   refine tri_skip (tT ?_)
   refine tri_draw [0, 1, 2, 3, 4, 5, 6, 7, 8, 9, 10, 11, 12, 13, 14, 15, 16, 17, 18, 19, 20] rfl [] rfl mixed ?_
   refine th_take rfl rfl (by kernel_rfl)  (opv_move rfl) ?_
   refine th_take rfl rfl (by kernel_rfl)  (opv_move rfl) ?_
   refine th_take rfl rfl (by kernel_rfl)  (by first | exact opv_indexAddrA rfl rfl (by first | decide | omega) (by first | decide | omega) | exact opv_indexAddrSN rfl rfl (by omega) (by assumption) rfl | exact opv_indexAddrS rfl rfl (by omega) (by omega) (by assumption) rfl | exact opv_indexAddrE rfl (by assumption) (by omega) rfl (by first | decide | omega) (by first | decide | omega) | exact opv_indexAddrRN rfl rfl (by omega) | exact opv_indexAddrR rfl rfl (by omega) (by omega) | exact opv_indexAddrRA rfl (by omega) rfl (by first | decide | omega) (by first | decide | omega)) ?_
   refine th_take rfl rfl (by kernel_rfl)  (opv_load1 rfl rfl (by rw [o1]; exact hA)) ?_
   refine th_take rfl rfl (by kernel_rfl)  (opv_move rfl) ?_
   refine th_take rfl rfl (by kernel_rfl)  (opv_move rfl) ?_
   refine th_take rfl rfl (by kernel_rfl)  (opv_move rfl) ?_
   refine th_take rfl rfl (by kernel_rfl)  (by first | exact opv_add rfl rfl (w64 (by omega) (by omega))) ?_
   refine th_take rfl rfl (by kernel_rfl)  (opv_sliceS (i := (f : Int)) (j := (f : Int) + (m : Int)) rfl rfl rfl (by omega) (by omega) (by omega)) ?_
   skip
   refine th_take rfl rfl (by kernel_rfl)  (opv_addS (l := 1000) (b := R6.seg qa f m) rfl rfl (by omega) (by omega) rfl) ?_
   refine th_take rfl rfl (by kernel_rfl)  (opv_move rfl) ?_
   refine th_take rfl rfl (by kernel_rfl)  (by first | exact opv_add rfl rfl (w64 (by omega) (by omega))) ?_
   refine th_take rfl rfl (by kernel_rfl)  (by first | exact opv_indexAddrA rfl rfl (by first | decide | omega) (by first | decide | omega) | exact opv_indexAddrSN rfl rfl (by omega) (by assumption) rfl | exact opv_indexAddrS rfl rfl (by omega) (by omega) (by assumption) rfl | exact opv_indexAddrE rfl (by assumption) (by omega) rfl (by first | decide | omega) (by first | decide | omega) | exact opv_indexAddrRN rfl rfl (by omega) | exact opv_indexAddrR rfl rfl (by omega) (by omega) | exact opv_indexAddrRA rfl (by omega) rfl (by first | decide | omega) (by first | decide | omega)) ?_
   refine th_take rfl rfl (by kernel_rfl)  (opv_load1 rfl rfl (by rw [o2]; exact hB)) ?_
   refine th_take rfl rfl (by kernel_rfl)  (opv_move rfl) ?_
   refine th_take rfl rfl (by kernel_rfl)  (opv_move rfl) ?_
   refine th_take rfl rfl (by kernel_rfl)  (opv_move rfl) ?_
   refine th_take rfl rfl (by kernel_rfl)  (by first | exact opv_add rfl rfl (w64 (by omega) (by omega))) ?_
   refine th_take rfl rfl (by kernel_rfl)  (opv_sliceS (i := (f : Int)) (j := (f : Int) + (m : Int)) rfl rfl rfl (by omega) (by omega) (by omega)) ?_
   skip
   refine th_take rfl rfl (by kernel_rfl)  (opv_addS (l := 1000) (b := R6.seg qb f m) rfl rfl (by rw [List.length_append]; omega) (by omega) rfl) ?_
   refine th_take rfl rfl (by kernel_rfl)  (opv_assign rfl) ?_
   refine th_done (by kernel_rfl) ?_
   refine tri_inBlock ?_
   refine tT (tR (tM rfl rfl ?_))
   refine tri_v (by first | exact opv_add rfl rfl (w64 (by omega) (by omega))) rfl ?_
   refine tA rfl rfl (tN (tT ?_))
   refine tri_sub ?_ (hK (y + 1) (by omega) (by omega))
   exact ⟨rfl, rfl, by rw [hstep]; rfl, rfl, trivial⟩
  ·have ey : y = 2 * m := by omega
   subst ey
   refine tri_exit ?_
   refine tri_then_exit ?_
   refine tri_then_exit ?_
   refine tri_inBlock_hit rfl ?_
   refine tT (tS (tR (tM rfl rfl (tA rfl rfl (tN (tT (tri_ret ?_)))))))
   refine tri_end A Suf.h rfl (.cons (rv_tmp rfl) .nil) ⟨rfl, rfl, rfl⟩
end Go.GL

set_option linter.unusedVariables false
namespace Go.GL
namespace R6
open R7 (IsN)
/-! ### Squares told by their cells -/
theorem bitsUp_seg {m : Nat} (hm : 0 < m) {q q' : Nat → List UInt8} (hq : ∀ k, k < 4 → (q k).length = m * m) (hq' : ∀ k, k < 4 → (q' k).length = m * m) : ∀ y, y ≤ 2 * m → bitsUp m q y = bitsUp m q' y →
  ∀ i, i < y → seg (q (2 * (i / m))) (i % m * m) m = seg (q' (2 * (i / m))) (i % m * m) m ∧ seg (q (2 * (i / m) + 1)) (i % m * m) m = seg (q' (2 * (i / m) + 1)) (i % m * m) m
 | 0, _, _, i, hi => by omega
 | y + 1, hy, h, i, hi => by
  have hd : y / m < 2 := Nat.div_lt_of_lt_mul (by rw [Nat.mul_comm]; omega)
  have hr := row_le (y := y) hm
  have l1 := seg_len (s := q (2 * (y / m) + 1)) (f := y % m * m) (m := m) (by rw [hq _ (by omega)]; exact hr)
  have l2 := seg_len (s := q' (2 * (y / m) + 1)) (f := y % m * m) (m := m) (by rw [hq' _ (by omega)]; exact hr)
  have l3 := seg_len (s := q (2 * (y / m))) (f := y % m * m) (m := m) (by rw [hq _ (by omega)]; exact hr)
  have l4 := seg_len (s := q' (2 * (y / m))) (f := y % m * m) (m := m) (by rw [hq' _ (by omega)]; exact hr)
  have h' : bitsUp m q y ++ seg (q (2 * (y / m))) (y % m * m) m ++ seg (q (2 * (y / m) + 1)) (y % m * m) m = bitsUp m q' y ++ seg (q' (2 * (y / m))) (y % m * m) m ++ seg (q' (2 * (y / m) + 1)) (y % m * m) m := h
  obtain ⟨h1, h2⟩ := List.append_inj' h' (by rw [l1, l2])
  obtain ⟨h3, h4⟩ := List.append_inj' h1 (by rw [l3, l4])
  by_cases e : i = y
  ·subst e
   exact ⟨h4, h2⟩
  ·exact bitsUp_seg hm hq hq' y (by omega) h3 i (by omega)
theorem seg_get {s : List UInt8} {f m j : Nat} (hj : j < m) : (seg s f m)[j]? = s[f + j]? := by
 unfold seg
 rw [List.getElem?_take, if_pos (by omega), List.getElem?_drop]
theorem of_segs {m : Nat} (hm : 0 < m) {s t : List UInt8} (hs : s.length = m * m) (ht : t.length = m * m) (h : ∀ r, r < m → seg s (r * m) m = seg t (r * m) m) : s = t := by
 apply List.ext_getElem?
 intro i
 by_cases hi : i < m * m
 ·have h1 : i / m < m := Nat.div_lt_of_lt_mul hi
  have h2 : i % m < m := Nat.mod_lt _ hm
  have h3 : i / m * m + i % m = i := by rw [Nat.mul_comm]; exact Nat.div_add_mod i m
  have := congrArg (·[i % m]?) (h (i / m) h1)
  simp only [seg_get h2, h3] at this
  exact this
 ·rw [List.getElem?_eq_none (by omega), List.getElem?_eq_none (by omega)]
theorem bitsUp_inj {m : Nat} (hm : 0 < m) {q q' : Nat → List UInt8} (hq : ∀ k, k < 4 → (q k).length = m * m) (hq' : ∀ k, k < 4 → (q' k).length = m * m) (h : bitsUp m q (2 * m) = bitsUp m q' (2 * m)) : ∀ k, k < 4 → q k = q' k := by
 intro k hk
 refine of_segs hm (hq k hk) (hq' k hk) fun r hr => ?_
 have key := bitsUp_seg hm hq hq' (2 * m) (Nat.le_refl _) h
 have a1 : r / m = 0 := Nat.div_eq_of_lt hr
 have a2 : r % m = r := Nat.mod_eq_of_lt hr
 have b1 : (m + r) / m = 1 := by rw [Nat.add_div_left _ hm, a1]
 have b2 : (m + r) % m = r := by rw [Nat.add_mod_left, a2]
 have k1 := key r (by omega)
 have k2 := key (m + r) (by omega)
 rw [a1, a2] at k1
 rw [b1, b2] at k2
 match k, hk with
 | 0, _ => exact k1.1
 | 1, _ => exact k1.2
 | 2, _ => exact k2.1
 | 3, _ => exact k2.2
 | k + 4, hk => omega
theorem pop01 {ns : List Node} (hw : Wf ns) {n : Int} (hn : IsN ns 0 n) : (n = 0 ∧ (nd ns n).pop = 0) ∨ (n = 1 ∧ (nd ns n).pop = 1) := by
 rcases hw.lv0 hn.1 hn.2 with rfl | rfl
 ·exact .inl ⟨rfl, congrArg Node.pop hw.z⟩
 ·exact .inr ⟨rfl, congrArg Node.pop hw.o⟩
theorem bits_inj {ns : List Node} (hw : Wf ns) : ∀ (lv : Nat) (n m : Int), IsN ns lv n → IsN ns lv m → bitsM ns lv n = bitsM ns lv m → n = m
 | 0, n, m, hn, hm, h => by
  unfold bitsM at h
  rcases pop01 hw hn with ⟨rfl, e1⟩ | ⟨rfl, e1⟩ <;> rcases pop01 hw hm with ⟨rfl, e2⟩ | ⟨rfl, e2⟩
  ·rfl
  ·rw [e1, e2] at h; exact absurd h (by decide)
  ·rw [e1, e2] at h; exact absurd h (by decide)
  ·rfl
 | lv + 1, n, m, hn, hm, h => by
  obtain ⟨a0, a1, a2, a3⟩ := R7.kids4 hw hn
  obtain ⟨b0, b1, b2, b3⟩ := R7.kids4 hw hm
  have key := bitsUp_inj (Nat.two_pow_pos lv) (fun k _ => bitsM_len ns lv _) (fun k _ => bitsM_len ns lv _) h
  have e0 := bits_inj hw lv _ _ a0 b0 (key 0 (by omega))
  have e1 := bits_inj hw lv _ _ a1 b1 (key 1 (by omega))
  have e2 := bits_inj hw lv _ _ a2 b2 (key 2 (by omega))
  have e3 := bits_inj hw lv _ _ a3 b3 (key 3 (by omega))
  refine hw.uniq hn.1 hm.1 (by rw [hn.2]; omega) (by rw [hm.2]; omega) ?_
  unfold Node.kids
  rw [e0, e1, e2, e3]
/-! #### how many -/
def cnt : List UInt8 → Int
 | [] => 0
 | b :: l => ((b.toNat : Nat) : Int) - 48 + cnt l
theorem cnt_append : ∀ (s t : List UInt8), cnt (s ++ t) = cnt s + cnt t
 | [], t => by simp [cnt]
 | b :: s, t => by rw [List.cons_append, cnt, cnt_append s t, cnt]; omega
theorem take_seg (s : List UInt8) (r m : Nat) : s.take ((r + 1) * m) = s.take (r * m) ++ seg s (r * m) m := by
 unfold seg
 rw [Nat.succ_mul, List.take_add, Nat.add_sub_cancel_left]
theorem cnt_lo {m : Nat} (hm : 0 < m) (q : Nat → List UInt8) : ∀ y, y ≤ m → cnt (bitsUp m q y) = cnt ((q 0).take (y * m)) + cnt ((q 1).take (y * m))
 | 0, _ => by simp [bitsUp, cnt]
 | y + 1, hy => by
  have a1 : y / m = 0 := Nat.div_eq_of_lt (by omega)
  have a2 : y % m = y := Nat.mod_eq_of_lt (by omega)
  show cnt (bitsUp m q y ++ seg (q (2 * (y / m))) (y % m * m) m ++ seg (q (2 * (y / m) + 1)) (y % m * m) m) = _
  rw [a1, a2, cnt_append, cnt_append, cnt_lo hm q y (by omega), take_seg, take_seg, cnt_append, cnt_append]
  simp only [Nat.mul_zero, Nat.zero_add, Nat.mul_one, Nat.reduceAdd]
  omega
theorem cnt_hi {m : Nat} (hm : 0 < m) (q : Nat → List UInt8) : ∀ y, y ≤ m → cnt (bitsUp m q (m + y)) = cnt ((q 0).take (m * m)) + cnt ((q 1).take (m * m)) + cnt ((q 2).take (y * m)) + cnt ((q 3).take (y * m))
 | 0, _ => by rw [Nat.add_zero, cnt_lo hm q m (Nat.le_refl _)]; simp [cnt]
 | y + 1, hy => by
  have a1 : (m + y) / m = 1 := by rw [Nat.add_div_left _ hm, Nat.div_eq_of_lt (by omega)]
  have a2 : (m + y) % m = y := by rw [Nat.add_mod_left, Nat.mod_eq_of_lt (by omega)]
  show cnt (bitsUp m q (m + y) ++ seg (q (2 * ((m + y) / m))) ((m + y) % m * m) m ++ seg (q (2 * ((m + y) / m) + 1)) ((m + y) % m * m) m) = _
  rw [a1, a2, cnt_append, cnt_append, cnt_hi hm q y (by omega), take_seg, take_seg, cnt_append, cnt_append]
  simp only [Nat.mul_zero, Nat.zero_add, Nat.mul_one, Nat.reduceAdd]
  omega
theorem bits_pop {ns : List Node} (hw : Wf ns) : ∀ (lv : Nat) (n : Int), lv ≤ 4 → IsN ns lv n → cnt (bitsM ns lv n) = (nd ns n).pop ∧ 0 ≤ (nd ns n).pop ∧ (nd ns n).pop ≤ 4 ^ lv
 | 0, n, _, hn => by
  unfold bitsM
  rcases pop01 hw hn with ⟨rfl, e⟩ | ⟨rfl, e⟩
  ·rw [e]; decide
  ·rw [e]; decide
 | lv + 1, n, hl, hn => by
  obtain ⟨a0, a1, a2, a3⟩ := R7.kids4 hw hn
  obtain ⟨c0, x0, y0⟩ := bits_pop hw lv _ (by omega) a0
  obtain ⟨c1, x1, y1⟩ := bits_pop hw lv _ (by omega) a1
  obtain ⟨c2, x2, y2⟩ := bits_pop hw lv _ (by omega) a2
  obtain ⟨c3, x3, y3⟩ := bits_pop hw lv _ (by omega) a3
  have hp := hw.pop hn.1 (by rw [hn.2]; omega)
  rw [pop4_sum x0 x1 x2 x3] at hp
  have h4 : (4:Int) ^ lv ≤ 64 := by
   rcases (by omega : lv = 0 ∨ lv = 1 ∨ lv = 2 ∨ lv = 3) with rfl | rfl | rfl | rfl <;> decide
  have h5 : (4:Int) ^ (lv + 1) = 4 * 4 ^ lv := by rw [Int.pow_succ]; omega
  unfold mn cap62 at hp
  rw [if_neg (by omega)] at hp
  have hm := Nat.two_pow_pos lv
  have hc := cnt_hi hm (fun k => bitsM ns lv ((nd ns n).kids.getD k default)) (2 ^ lv) (Nat.le_refl _)
  rw [← Nat.two_mul] at hc
  have hb : bitsM ns (lv + 1) n = bitsUp (2 ^ lv) (fun k => bitsM ns lv ((nd ns n).kids.getD k default)) (2 * 2 ^ lv) := rfl
  have ht : ∀ k, (bitsM ns lv ((nd ns n).kids.getD k default)).take (2 ^ lv * 2 ^ lv) = bitsM ns lv ((nd ns n).kids.getD k default) := fun k => List.take_of_length_le (by rw [bitsM_len]; exact Nat.le_refl _)
  simp only [ht] at hc
  rw [← hb] at hc
  have hc2 : cnt (bitsM ns (lv + 1) n) = cnt (bitsM ns lv (nd ns n).k0) + cnt (bitsM ns lv (nd ns n).k1) + cnt (bitsM ns lv (nd ns n).k2) + cnt (bitsM ns lv (nd ns n).k3) := hc
  rw [c0, c1, c2, c3] at hc2
  omega
theorem cnt_bd : ∀ l : List UInt8, -48 * (l.length : Int) ≤ cnt l ∧ cnt l ≤ 255 * (l.length : Int)
 | [] => by simp [cnt]
 | b :: l => by
  have := cnt_bd l
  have h := UInt8.toNat_lt b
  simp only [cnt, List.length_cons]
  omega
theorem cnt_take {l : List UInt8} {i : Nat} (h : i < l.length) : cnt (l.take (i + 1)) = cnt (l.take i) + ((l.getD i default).toNat : Nat) - 48 := by
 rw [List.take_succ_eq_append_getElem h, cnt_append]
 have : l.getD i default = l[i] := by rw [List.getD_eq_getElem?_getD, List.getElem?_eq_getElem h]; rfl
 rw [this]
 simp only [cnt]
 omega
theorem squares {room : Int} {s : List Node} (h : St room s) (one two : Five) {r1 r2 : List Node × Int × Int} (h1 : intern s room (RL.kids s one).1 (RL.kids s one).2.1 (RL.kids s one).2.2.1 (RL.kids s one).2.2.2 = r1)
  (h2 : intern r1.1 room (RL.kids r1.1 two).1 (RL.kids r1.1 two).2.1 (RL.kids r1.1 two).2.2.1 (RL.kids r1.1 two).2.2.2 = r2) :
  (r1.2.2 ≠ 0 → r1.2.2 = 40) ∧ (r1.2.2 = 0 → (r2.2.2 ≠ 0 → r2.2.2 = 40) ∧ (r2.2.2 = 0 → Wf r2.1 ∧ inS r2.1 r1.2.1 ∧ inS r2.1 r2.2.1)) := by
 have hf := kids_fit h.wf (by have := h.few; omega) one
 have hw := h.wf
 rw [intern_eq h.right] at h1
 have hle := h.le
 have hfew := h.few
 rcases put_cases hw (room := room) hf with ⟨ms, m, e, ok⟩ | ⟨e, hat, hr⟩
 ·rw [e] at h1
  subst h1
  refine ⟨fun hx => absurd rfl hx, fun _ => ?_⟩
  simp only at h2 ⊢
  have hl := ok.len
  have hms : (ms.length : Int) ≤ room := by
   have := put_room hle (RL.kids s one).1 (RL.kids s one).2.1 (RL.kids s one).2.2.1 (RL.kids s one).2.2.2
   rw [e] at this
   exact this
  rw [intern_eq (right_iff.2 ⟨⟨h.lo, by have := h.hi; omega, hms⟩, ok.wf⟩)] at h2
  have hf2 := kids_fit ok.wf (by omega) two
  rcases put_cases ok.wf (room := room) hf2 with ⟨ms2, m2, e2, ok2⟩ | ⟨e2, _, _⟩
  ·rw [e2] at h2
   subst h2
   exact ⟨fun hx => absurd rfl hx, fun _ => ⟨ok2.wf, inS_pre ok2.pre ok.mem, ok2.mem⟩⟩
  ·rw [e2] at h2
   subst h2
   exact ⟨fun _ => rfl, fun hx => by cases hx⟩
 ·rw [e] at h1
  subst h1
  exact ⟨fun _ => rfl, fun hx => by cases hx⟩
end R6
end Go.GL

set_option linter.unusedVariables false
namespace Go.GL
open Go.Proofs
attribute [local irreducible] wpList Code.wp Exit.then Exit.inBlock Ends Tri TriH OpV OpG FnC epf wpAnyH
variable {A : List Asrt} {I : List Chunk}
open R7 (IsN)
set_option maxHeartbeats 2000000 in
set_option maxRecDepth 100000 in
theorem law06_squares {raw : List Five} {a2 : Option Addr} {cap2 : Nat} {room : Int} {one two : Five} (h0 : I64 room) (hs2 : SlAt I a2 raw) (hf : RL.Fs raw) (ho : DecOk one) (ht : DecOk two) :
  FnC Try.prog 5 [.int .i64 room, .slice a2 raw.length cap2, int5V one, int5V two].toArray A I (fun v A' I' => v = .bool true ∧ A = A' ∧ I ⊆ I') := by
 obtain ⟨ho0, ho1, ho2, ho3, ho4⟩ := five_ok ho
 obtain ⟨ht0, ht1, ht2, ht3, ht4⟩ := five_ok ht
 have hst := R6.store_st room raw
 skip
 refine fn_enter4 Try.func5 rfl Try.ntmps5 rfl fun w0 => ?_
 refine tS (tR ?_)
 first | refine tri_g (opg_box_agg rfl) rfl ?_ | refine tri_g (opg_box1 rfl rfl) rfl ?_
 rintro _ _ _ ⟨b6, rfl, rfl, rfl⟩
 first | refine tri_g (opg_box_agg rfl) rfl ?_ | refine tri_g (opg_box1 rfl rfl) rfl ?_
 rintro _ _ _ ⟨b7, rfl, rfl, rfl⟩
 refine tA rfl rfl (tN (tT (tS (tR ?_))))
 refine tri_g (opg_call (xs := []) rfl (law06_awake)) rfl ?_
 rintro _ _ I0 ⟨rfl, rfl, hI0⟩
 refine tA rfl rfl (tN (tT (tS (tR (tM rfl rfl (tM rfl rfl ?_))))))
 refine tri_g (opg_call (xs := [_, _]) rfl (law06_store h0 (hs2.mono hI0) hf)) rfl ?_
 rintro _ _ I1 ⟨x1, y1, rfl, hs, rfl, hI1⟩
 generalize RL.store (RL.room room) raw = s at *
 generalize RL.room room = rm at *
 have hfew := hst.few
 obtain ⟨r1, e1⟩ : ∃ r, R6.intern s rm (RL.kids s one).1 (RL.kids s one).2.1 (RL.kids s one).2.2.1 (RL.kids s one).2.2.2 = r := ⟨_, rfl⟩
 obtain ⟨r2, e2⟩ : ∃ r, R6.intern r1.1 rm (RL.kids r1.1 two).1 (RL.kids r1.1 two).2.1 (RL.kids r1.1 two).2.2.1 (RL.kids r1.1 two).2.2.2 = r := ⟨_, rfl⟩
 obtain ⟨hbad, hgood⟩ := R6.squares hst one two e1 e2
 have hl1 := R6.intern_len s rm (RL.kids s one).1 (RL.kids s one).2.1 (RL.kids s one).2.2.1 (RL.kids s one).2.2.2
 have hl2 := R6.intern_len r1.1 rm (RL.kids r1.1 two).1 (RL.kids r1.1 two).2.1 (RL.kids r1.1 two).2.2.1 (RL.kids r1.1 two).2.2.2
 rw [e1] at hl1
 rw [e2] at hl2
 refine tri_g opg_alloc rfl ?_
 rintro _ _ _ ⟨b10, rfl, rfl, rfl⟩
 refine tri_g (opg_store rfl rfl rfl rfl rfl rfl) rfl ?_
 rintro _ _ _ ⟨rfl, rfl⟩
 refine tN (tT (tS ?_))
 refine tri_cut (fun F' A' J => ∃ (x2 : Option Addr) (y2 b11 : Nat), F' = [(7, pt b7 0), (9, .bool true), (10, pt b10 0), (11, pt b11 0), (12, .int .i64 r1.2.1), (13, .int .i64 r1.2.2)] ∧ A' = Box b11 [.slice x2 r1.1.length y2, .int .i64 rm] 25 :: Box b10 [.slice x1 s.length y1, .int .i64 rm] 25 :: Box b7 [.int .i64 two.r0, .int .i64 two.r1, .int .i64 two.r2, .int .i64 two.r3, .int .i64 two.r4] 27 :: Box b6 [.int .i64 one.r0, .int .i64 one.r1, .int .i64 one.r2, .int .i64 one.r3, .int .i64 one.r4] 27 :: A ∧ StA J x2 y2 r1.1 ∧ I1 ⊆ J) ?_ ?_
 ·refine tri_draw [0, 1, 2, 3, 4, 5, 6, 7, 8, 9, 10, 11, 12] rfl [] rfl mixed ?_
  refine th_take rfl rfl (by kernel_rfl)  (by first | exact opv_load1 rfl rfl rfl | exact opv_loadA rfl rfl rfl | exact opv_loadE1 rfl (by assumption) rfl (by omega) rfl rfl | exact opv_loadEA rfl (by assumption) rfl (by omega) rfl rfl | exact opv_loadRX1 rfl rfl (by omega) rfl rfl | exact opv_loadRXA rfl rfl (by omega) rfl rfl rfl | exact opv_loadIX rfl rfl (by omega) | exact opv_loadR1 rfl rfl rfl | exact opv_loadRA rfl rfl rfl rfl) ?_
  refine th_take rfl rfl (by kernel_rfl)  (by first | exact opv_load1 rfl rfl rfl | exact opv_loadA rfl rfl rfl | exact opv_loadE1 rfl (by assumption) rfl (by omega) rfl rfl | exact opv_loadEA rfl (by assumption) rfl (by omega) rfl rfl | exact opv_loadRX1 rfl rfl (by omega) rfl rfl | exact opv_loadRXA rfl rfl (by omega) rfl rfl rfl | exact opv_loadIX rfl rfl (by omega) | exact opv_loadR1 rfl rfl rfl | exact opv_loadRA rfl rfl rfl rfl) ?_
  refine th_take rfl rfl (by kernel_rfl)  (by first | exact opv_load1 rfl rfl rfl | exact opv_loadA rfl rfl rfl | exact opv_loadE1 rfl (by assumption) rfl (by omega) rfl rfl | exact opv_loadEA rfl (by assumption) rfl (by omega) rfl rfl | exact opv_loadRX1 rfl rfl (by omega) rfl rfl | exact opv_loadRXA rfl rfl (by omega) rfl rfl rfl | exact opv_loadIX rfl rfl (by omega) | exact opv_loadR1 rfl rfl rfl | exact opv_loadRA rfl rfl rfl rfl) ?_
  refine th_two (j := 9) [3, 4, 5, 6, 7, 8, 10, 11, 12] (by kernel_rfl) rfl ?_ ?_
  ·refine (step_m rfl rfl (opg_call (xs := [_, _]) rfl (law06_kids (room := rm) hs.sl (by omega) ho0 ho1 ho2 ho3 ho4)) ?_)
   rintro _ _ _ ⟨rfl, rfl, rfl⟩
   refine ⟨Suf.h, fun _ h => h, ?_⟩
   refine th_two (j := 9) [4, 5, 6, 7, 8, 10, 11, 12] (by kernel_rfl) rfl ?_ ?_
   ·refine (step_m rfl rfl (opg_call (xs := [_, _]) rfl (node_internR hs (by omega) e1)) ?_)
    rintro _ _ I2 ⟨x2, y2, rfl, hs3, rfl, hI2⟩
    refine ⟨Suf.h, fun _ h => hI2 h, ?_⟩
    refine th_take rfl rfl (by kernel_rfl)  (opv_move rfl) ?_
    refine th_take rfl rfl (by kernel_rfl)  (opv_extract rfl rfl) ?_
    refine th_take rfl rfl (by kernel_rfl)  (opv_extract rfl rfl) ?_
    refine th_take rfl rfl (by kernel_rfl)  (opv_extract rfl rfl) ?_
    refine th_one (by kernel_rfl) (step_m rfl rfl opg_alloc ?_)
    rintro _ _ _ ⟨b11, rfl, rfl, rfl⟩
    refine ⟨Suf.h, (by first | exact fun _ h => h | assumption | exact fun _ h => (by assumption : _ ⊆ _) ((by assumption : _ ⊆ _) h)), ?_⟩
    refine th_one (by kernel_rfl) (step_m rfl rfl (opg_store rfl rfl rfl rfl rfl rfl) ?_)
    rintro _ _ _ ⟨rfl, rfl⟩
    refine ⟨Suf.h, (by first | exact fun _ h => h | assumption | exact fun _ h => (by assumption : _ ⊆ _) ((by assumption : _ ⊆ _) h)), ?_⟩
    refine th_take rfl rfl (by kernel_rfl)  (opv_assign rfl) ?_
    refine th_take rfl rfl (by kernel_rfl)  (opv_assign rfl) ?_
    refine th_done (by kernel_rfl) ?_
    exact tri_cutEnd _ ⟨x2, y2, b11, rfl, rfl, hs3, hI2⟩ ⟨rfl, rfl, rfl, rfl, rfl, rfl, trivial⟩
   ·refine (step_m rfl rfl opg_alloc ?_)
    rintro _ _ _ ⟨b11, rfl, rfl, rfl⟩
    refine ⟨Suf.h, (by first | exact fun _ h => h | assumption | exact fun _ h => (by assumption : _ ⊆ _) ((by assumption : _ ⊆ _) h)), ?_⟩
    refine th_one (by kernel_rfl) (step_m rfl rfl (opg_call (xs := [_, _]) rfl (node_internR hs (by omega) e1)) ?_)
    rintro _ _ I2 ⟨x2, y2, rfl, hs3, rfl, hI2⟩
    refine ⟨Suf.h, fun _ h => hI2 h, ?_⟩
    refine th_take rfl rfl (by kernel_rfl)  (opv_move rfl) ?_
    refine th_take rfl rfl (by kernel_rfl)  (opv_extract rfl rfl) ?_
    refine th_take rfl rfl (by kernel_rfl)  (opv_extract rfl rfl) ?_
    refine th_take rfl rfl (by kernel_rfl)  (opv_extract rfl rfl) ?_
    refine th_one (by kernel_rfl) (step_m rfl rfl (opg_store rfl rfl rfl rfl rfl rfl) ?_)
    rintro _ _ _ ⟨rfl, rfl⟩
    refine ⟨Suf.h, (by first | exact fun _ h => h | assumption | exact fun _ h => (by assumption : _ ⊆ _) ((by assumption : _ ⊆ _) h)), ?_⟩
    refine th_take rfl rfl (by kernel_rfl)  (opv_assign rfl) ?_
    refine th_take rfl rfl (by kernel_rfl)  (opv_assign rfl) ?_
    refine th_done (by kernel_rfl) ?_
    exact tri_cutEnd _ ⟨x2, y2, b11, rfl, rfl, hs3, hI2⟩ ⟨rfl, rfl, rfl, rfl, rfl, rfl, trivial⟩
  ·refine (step_m rfl rfl opg_alloc ?_)
   rintro _ _ _ ⟨b11, rfl, rfl, rfl⟩
   refine ⟨Suf.h, (by first | exact fun _ h => h | assumption | exact fun _ h => (by assumption : _ ⊆ _) ((by assumption : _ ⊆ _) h)), ?_⟩
   refine th_one (by kernel_rfl) (step_m rfl rfl (opg_call (xs := [_, _]) rfl (law06_kids (room := rm) hs.sl (by omega) ho0 ho1 ho2 ho3 ho4)) ?_)
   rintro _ _ _ ⟨rfl, rfl, rfl⟩
   refine ⟨Suf.h, fun _ h => h, ?_⟩
   refine th_one (by kernel_rfl) (step_m rfl rfl (opg_call (xs := [_, _]) rfl (node_internR hs (by omega) e1)) ?_)
   rintro _ _ I2 ⟨x2, y2, rfl, hs3, rfl, hI2⟩
   refine ⟨Suf.h, fun _ h => hI2 h, ?_⟩
   refine th_take rfl rfl (by kernel_rfl)  (opv_move rfl) ?_
   refine th_take rfl rfl (by kernel_rfl)  (opv_extract rfl rfl) ?_
   refine th_take rfl rfl (by kernel_rfl)  (opv_extract rfl rfl) ?_
   refine th_take rfl rfl (by kernel_rfl)  (opv_extract rfl rfl) ?_
   refine th_one (by kernel_rfl) (step_m rfl rfl (opg_store rfl rfl rfl rfl rfl rfl) ?_)
   rintro _ _ _ ⟨rfl, rfl⟩
   refine ⟨Suf.h, (by first | exact fun _ h => h | assumption | exact fun _ h => (by assumption : _ ⊆ _) ((by assumption : _ ⊆ _) h)), ?_⟩
   refine th_take rfl rfl (by kernel_rfl)  (opv_assign rfl) ?_
   refine th_take rfl rfl (by kernel_rfl)  (opv_assign rfl) ?_
   refine th_done (by kernel_rfl) ?_
   exact tri_cutEnd _ ⟨x2, y2, b11, rfl, rfl, hs3, hI2⟩ ⟨rfl, rfl, rfl, rfl, rfl, rfl, trivial⟩
 rintro _ _ I2 ⟨x2, y2, b11, rfl, rfl, hs3, hI2⟩
 skip
 refine tT (tS (tS (tR (tM rfl rfl ?_))))
 refine tri_v (by first | exact opv_neq rfl rfl | exact opv_neqI rfl rfl rfl rfl rfl rfl | exact opv_neqB rfl rfl) rfl ?_
 refine tN (tT ?_)
 refine tri_cond_dec rfl (fun hx => ?_) (fun hx => ?_)
 ·have c1 := hbad hx
  refine tS (tR (tM rfl rfl (tM rfl rfl ?_)))
  skip
  refine tri_guard_run rfl rfl rfl (tM rfl rfl (tri_guard_run rfl rfl rfl ?_))
  refine tri_v (by first | exact opv_eql rfl rfl | exact opv_eqlI rfl rfl rfl rfl rfl rfl | exact opv_eqlB rfl rfl | exact opv_eqlNil rfl rfl) rfl ?_
  refine tri_v (by first | exact opv_pick_t rfl rfl | exact opv_pick_f rfl rfl | exact opv_pick_bool rfl rfl rfl | exact opv_pick rfl rfl rfl) rfl ?_
  refine tA rfl rfl (tN (tT (tri_ret (tri_then_ret ?_))))
  refine tri_end A Suf.h rfl (.cons (rv_tmp rfl) .nil) ⟨?_, rfl, fun _ h => hI2 (hI1 (hI0 h))⟩
  exact congrArg Value.bool (decide_eq_true c1)
 skip
 obtain ⟨hbad2, hgood2⟩ := hgood (Decidable.not_not.1 hx)
 refine tri_skip (tT (tS ?_))
 refine tri_cut (fun F' A' J => ∃ (x4 : Option Addr) (y4 b14 : Nat), F' = [(9, .bool true), (12, .int .i64 r1.2.1), (14, pt b14 0), (15, .int .i64 r2.2.1), (16, .int .i64 r2.2.2)] ∧ A' = Box b14 [.slice x4 r2.1.length y4, .int .i64 rm] 25 :: Box b11 [.slice x2 r1.1.length y2, .int .i64 rm] 25 :: Box b10 [.slice x1 s.length y1, .int .i64 rm] 25 :: Box b7 [.int .i64 two.r0, .int .i64 two.r1, .int .i64 two.r2, .int .i64 two.r3, .int .i64 two.r4] 27 :: Box b6 [.int .i64 one.r0, .int .i64 one.r1, .int .i64 one.r2, .int .i64 one.r3, .int .i64 one.r4] 27 :: A ∧ StA J x4 y4 r2.1 ∧ I2 ⊆ J) ?_ ?_
 ·refine tri_draw [0, 1, 2, 3, 4, 5, 6, 7, 8, 9, 10, 11, 12] rfl [] rfl mixed ?_
  refine th_take rfl rfl (by kernel_rfl)  (by first | exact opv_load1 rfl rfl rfl | exact opv_loadA rfl rfl rfl | exact opv_loadE1 rfl (by assumption) rfl (by omega) rfl rfl | exact opv_loadEA rfl (by assumption) rfl (by omega) rfl rfl | exact opv_loadRX1 rfl rfl (by omega) rfl rfl | exact opv_loadRXA rfl rfl (by omega) rfl rfl rfl | exact opv_loadIX rfl rfl (by omega) | exact opv_loadR1 rfl rfl rfl | exact opv_loadRA rfl rfl rfl rfl) ?_
  refine th_take rfl rfl (by kernel_rfl)  (by first | exact opv_load1 rfl rfl rfl | exact opv_loadA rfl rfl rfl | exact opv_loadE1 rfl (by assumption) rfl (by omega) rfl rfl | exact opv_loadEA rfl (by assumption) rfl (by omega) rfl rfl | exact opv_loadRX1 rfl rfl (by omega) rfl rfl | exact opv_loadRXA rfl rfl (by omega) rfl rfl rfl | exact opv_loadIX rfl rfl (by omega) | exact opv_loadR1 rfl rfl rfl | exact opv_loadRA rfl rfl rfl rfl) ?_
  refine th_take rfl rfl (by kernel_rfl)  (by first | exact opv_load1 rfl rfl rfl | exact opv_loadA rfl rfl rfl | exact opv_loadE1 rfl (by assumption) rfl (by omega) rfl rfl | exact opv_loadEA rfl (by assumption) rfl (by omega) rfl rfl | exact opv_loadRX1 rfl rfl (by omega) rfl rfl | exact opv_loadRXA rfl rfl (by omega) rfl rfl rfl | exact opv_loadIX rfl rfl (by omega) | exact opv_loadR1 rfl rfl rfl | exact opv_loadRA rfl rfl rfl rfl) ?_
  refine th_two (j := 9) [3, 4, 5, 6, 7, 8, 10, 11, 12] (by kernel_rfl) rfl ?_ ?_
  ·refine (step_m rfl rfl (opg_call (xs := [_, _]) rfl (law06_kids (room := rm) hs3.sl (by omega) ht0 ht1 ht2 ht3 ht4)) ?_)
   rintro _ _ _ ⟨rfl, rfl, rfl⟩
   refine ⟨Suf.h, fun _ h => h, ?_⟩
   refine th_two (j := 9) [4, 5, 6, 7, 8, 10, 11, 12] (by kernel_rfl) rfl ?_ ?_
   ·refine (step_m rfl rfl (opg_call (xs := [_, _]) rfl (node_internR hs3 (by omega) e2)) ?_)
    rintro _ _ I3 ⟨x4, y4, rfl, hs4, rfl, hI3⟩
    refine ⟨Suf.h, fun _ h => hI3 h, ?_⟩
    refine th_take rfl rfl (by kernel_rfl)  (opv_move rfl) ?_
    refine th_take rfl rfl (by kernel_rfl)  (opv_extract rfl rfl) ?_
    refine th_take rfl rfl (by kernel_rfl)  (opv_extract rfl rfl) ?_
    refine th_take rfl rfl (by kernel_rfl)  (opv_extract rfl rfl) ?_
    refine th_one (by kernel_rfl) (step_m rfl rfl opg_alloc ?_)
    rintro _ _ _ ⟨b14, rfl, rfl, rfl⟩
    refine ⟨Suf.h, (by first | exact fun _ h => h | assumption | exact fun _ h => (by assumption : _ ⊆ _) ((by assumption : _ ⊆ _) h)), ?_⟩
    refine th_one (by kernel_rfl) (step_m rfl rfl (opg_store rfl rfl rfl rfl rfl rfl) ?_)
    rintro _ _ _ ⟨rfl, rfl⟩
    refine ⟨Suf.h, (by first | exact fun _ h => h | assumption | exact fun _ h => (by assumption : _ ⊆ _) ((by assumption : _ ⊆ _) h)), ?_⟩
    refine th_take rfl rfl (by kernel_rfl)  (opv_assign rfl) ?_
    refine th_take rfl rfl (by kernel_rfl)  (opv_assign rfl) ?_
    refine th_done (by kernel_rfl) ?_
    exact tri_cutEnd _ ⟨x4, y4, b14, rfl, rfl, hs4, hI3⟩ ⟨rfl, rfl, rfl, rfl, rfl, trivial⟩
   ·refine (step_m rfl rfl opg_alloc ?_)
    rintro _ _ _ ⟨b14, rfl, rfl, rfl⟩
    refine ⟨Suf.h, (by first | exact fun _ h => h | assumption | exact fun _ h => (by assumption : _ ⊆ _) ((by assumption : _ ⊆ _) h)), ?_⟩
    refine th_one (by kernel_rfl) (step_m rfl rfl (opg_call (xs := [_, _]) rfl (node_internR hs3 (by omega) e2)) ?_)
    rintro _ _ I3 ⟨x4, y4, rfl, hs4, rfl, hI3⟩
    refine ⟨Suf.h, fun _ h => hI3 h, ?_⟩
    refine th_take rfl rfl (by kernel_rfl)  (opv_move rfl) ?_
    refine th_take rfl rfl (by kernel_rfl)  (opv_extract rfl rfl) ?_
    refine th_take rfl rfl (by kernel_rfl)  (opv_extract rfl rfl) ?_
    refine th_take rfl rfl (by kernel_rfl)  (opv_extract rfl rfl) ?_
    refine th_one (by kernel_rfl) (step_m rfl rfl (opg_store rfl rfl rfl rfl rfl rfl) ?_)
    rintro _ _ _ ⟨rfl, rfl⟩
    refine ⟨Suf.h, (by first | exact fun _ h => h | assumption | exact fun _ h => (by assumption : _ ⊆ _) ((by assumption : _ ⊆ _) h)), ?_⟩
    refine th_take rfl rfl (by kernel_rfl)  (opv_assign rfl) ?_
    refine th_take rfl rfl (by kernel_rfl)  (opv_assign rfl) ?_
    refine th_done (by kernel_rfl) ?_
    exact tri_cutEnd _ ⟨x4, y4, b14, rfl, rfl, hs4, hI3⟩ ⟨rfl, rfl, rfl, rfl, rfl, trivial⟩
  ·refine (step_m rfl rfl opg_alloc ?_)
   rintro _ _ _ ⟨b14, rfl, rfl, rfl⟩
   refine ⟨Suf.h, (by first | exact fun _ h => h | assumption | exact fun _ h => (by assumption : _ ⊆ _) ((by assumption : _ ⊆ _) h)), ?_⟩
   refine th_one (by kernel_rfl) (step_m rfl rfl (opg_call (xs := [_, _]) rfl (law06_kids (room := rm) hs3.sl (by omega) ht0 ht1 ht2 ht3 ht4)) ?_)
   rintro _ _ _ ⟨rfl, rfl, rfl⟩
   refine ⟨Suf.h, fun _ h => h, ?_⟩
   refine th_one (by kernel_rfl) (step_m rfl rfl (opg_call (xs := [_, _]) rfl (node_internR hs3 (by omega) e2)) ?_)
   rintro _ _ I3 ⟨x4, y4, rfl, hs4, rfl, hI3⟩
   refine ⟨Suf.h, fun _ h => hI3 h, ?_⟩
   refine th_take rfl rfl (by kernel_rfl)  (opv_move rfl) ?_
   refine th_take rfl rfl (by kernel_rfl)  (opv_extract rfl rfl) ?_
   refine th_take rfl rfl (by kernel_rfl)  (opv_extract rfl rfl) ?_
   refine th_take rfl rfl (by kernel_rfl)  (opv_extract rfl rfl) ?_
   refine th_one (by kernel_rfl) (step_m rfl rfl (opg_store rfl rfl rfl rfl rfl rfl) ?_)
   rintro _ _ _ ⟨rfl, rfl⟩
   refine ⟨Suf.h, (by first | exact fun _ h => h | assumption | exact fun _ h => (by assumption : _ ⊆ _) ((by assumption : _ ⊆ _) h)), ?_⟩
   refine th_take rfl rfl (by kernel_rfl)  (opv_assign rfl) ?_
   refine th_take rfl rfl (by kernel_rfl)  (opv_assign rfl) ?_
   refine th_done (by kernel_rfl) ?_
   exact tri_cutEnd _ ⟨x4, y4, b14, rfl, rfl, hs4, hI3⟩ ⟨rfl, rfl, rfl, rfl, rfl, trivial⟩
 rintro _ _ I3 ⟨x4, y4, b14, rfl, rfl, hs4, hI3⟩
 skip
 refine tT (tS (tS (tR (tM rfl rfl ?_))))
 refine tri_v (by first | exact opv_neq rfl rfl | exact opv_neqI rfl rfl rfl rfl rfl rfl | exact opv_neqB rfl rfl) rfl ?_
 refine tN (tT ?_)
 refine tri_cond_dec rfl (fun hx2 => ?_) (fun hx2 => ?_)
 ·have c1 := hbad2 hx2
  refine tS (tR (tM rfl rfl (tM rfl rfl ?_)))
  skip
  refine tri_guard_run rfl rfl rfl (tM rfl rfl (tri_guard_run rfl rfl rfl ?_))
  refine tri_v (by first | exact opv_eql rfl rfl | exact opv_eqlI rfl rfl rfl rfl rfl rfl | exact opv_eqlB rfl rfl | exact opv_eqlNil rfl rfl) rfl ?_
  refine tri_v (by first | exact opv_pick_t rfl rfl | exact opv_pick_f rfl rfl | exact opv_pick_bool rfl rfl rfl | exact opv_pick rfl rfl rfl) rfl ?_
  refine tA rfl rfl (tN (tT (tri_ret (tri_then_ret ?_))))
  refine tri_end A Suf.h rfl (.cons (rv_tmp rfl) .nil) ⟨?_, rfl, fun _ h => hI3 (hI2 (hI1 (hI0 h)))⟩
  exact congrArg Value.bool (decide_eq_true c1)
 refine tri_skip (tT (tS (tS (tR (tM rfl rfl ?_)))))
 refine tri_v (by first | exact opv_fieldAddr rfl rfl | exact opv_fieldAddrE rfl (by assumption) (by omega) rfl | exact opv_fieldAddrR rfl (by omega) rfl) rfl ?_
 refine tri_v (by first | exact opv_load1 rfl rfl rfl | exact opv_loadA rfl rfl rfl | exact opv_loadE1 rfl (by assumption) rfl (by omega) rfl rfl | exact opv_loadEA rfl (by assumption) rfl (by omega) rfl rfl | exact opv_loadRX1 rfl rfl (by omega) rfl rfl | exact opv_loadRXA rfl rfl (by omega) rfl rfl rfl | exact opv_loadIX rfl rfl (by omega) | exact opv_loadR1 rfl rfl rfl | exact opv_loadRA rfl rfl rfl rfl) rfl ?_
 refine tri_v (opv_len rfl) rfl ?_
 refine tri_v (opv_geq rfl rfl) rfl ?_
 refine tM rfl rfl ?_
 obtain ⟨hw, hn, hm⟩ := hgood2 (Decidable.not_not.1 hx2)
 have hn0 := hn.1
 have hn1 := hn.2
 have hm0 := hm.1
 have hm1 := hm.2
 have hs4l := hs4.sl
 have hlvn := hw.lvb hn
 have hlvm := hw.lvb hm
 refine tri_false rfl rfl ((by omega)) ?_
 refine tri_guard_run rfl rfl rfl (tM rfl rfl (tri_guard_run rfl rfl rfl ?_))
 refine tri_v (by first | exact opv_fieldAddr rfl rfl | exact opv_fieldAddrE rfl (by assumption) (by omega) rfl | exact opv_fieldAddrR rfl (by omega) rfl) rfl ?_
 refine tri_guard_run rfl rfl rfl ?_
 refine tri_v (by first | exact opv_load1 rfl rfl rfl | exact opv_loadA rfl rfl rfl | exact opv_loadE1 rfl (by assumption) rfl (by omega) rfl rfl | exact opv_loadEA rfl (by assumption) rfl (by omega) rfl rfl | exact opv_loadRX1 rfl rfl (by omega) rfl rfl | exact opv_loadRXA rfl rfl (by omega) rfl rfl rfl | exact opv_loadIX rfl rfl (by omega) | exact opv_loadR1 rfl rfl rfl | exact opv_loadRA rfl rfl rfl rfl) rfl ?_
 refine tri_guard_run rfl rfl rfl ?_
 refine tri_v (opv_len rfl) rfl ?_
 refine tri_guard_run rfl rfl rfl ?_
 refine tri_v (opv_geq rfl rfl) rfl ?_
 refine tri_v (by first | exact opv_pick_t rfl rfl | exact opv_pick_f rfl rfl | exact opv_pick_bool rfl rfl rfl | exact opv_pick rfl rfl rfl) rfl ?_
 refine tM rfl rfl ?_
 refine tri_false rfl rfl ((by omega)) ?_
 refine tri_guard_run rfl rfl rfl ?_
 refine tri_v (by first | exact opv_fieldAddr rfl rfl | exact opv_fieldAddrE rfl (by assumption) (by omega) rfl | exact opv_fieldAddrR rfl (by omega) rfl) rfl ?_
 refine tri_guard_run rfl rfl rfl ?_
 refine tri_v (by first | exact opv_load1 rfl rfl rfl | exact opv_loadA rfl rfl rfl | exact opv_loadE1 rfl (by assumption) rfl (by omega) rfl rfl | exact opv_loadEA rfl (by assumption) rfl (by omega) rfl rfl | exact opv_loadRX1 rfl rfl (by omega) rfl rfl | exact opv_loadRXA rfl rfl (by omega) rfl rfl rfl | exact opv_loadIX rfl rfl (by omega) | exact opv_loadR1 rfl rfl rfl | exact opv_loadRA rfl rfl rfl rfl) rfl ?_
 refine tri_guard_run rfl rfl rfl (tM rfl rfl (tri_guard_run rfl rfl rfl ?_))
 refine tri_v (by first | exact opv_indexAddrA rfl rfl (by first | decide | omega) (by first | decide | omega) | exact opv_indexAddrSN rfl rfl (by omega) (by assumption) rfl | exact opv_indexAddrS rfl rfl (by omega) (by omega) (by assumption) rfl | exact opv_indexAddrE rfl (by assumption) (by omega) rfl (by first | decide | omega) (by first | decide | omega) | exact opv_indexAddrRN rfl rfl (by omega) | exact opv_indexAddrR rfl rfl (by omega) (by omega) | exact opv_indexAddrRA rfl (by omega) rfl (by first | decide | omega) (by first | decide | omega)) rfl ?_
 refine tri_guard_run rfl rfl rfl ?_
 refine tri_v (by first | exact opv_fieldAddr rfl rfl | exact opv_fieldAddrE rfl (by assumption) (by omega) rfl | exact opv_fieldAddrR rfl (by omega) rfl) rfl ?_
 refine tri_guard_run rfl rfl rfl ?_
 refine tri_v (by first | exact opv_load1 rfl rfl rfl | exact opv_loadA rfl rfl rfl | exact opv_loadE1 rfl (by assumption) rfl (by omega) rfl rfl | exact opv_loadEA rfl (by assumption) rfl (by omega) rfl rfl | exact opv_loadRX1 rfl rfl (by omega) rfl rfl | exact opv_loadRXA rfl rfl (by omega) rfl rfl rfl | exact opv_loadIX rfl rfl (by omega) | exact opv_loadR1 rfl rfl rfl | exact opv_loadRA rfl rfl rfl rfl) rfl ?_
 refine tri_guard_run rfl rfl rfl ?_
 refine tri_v (opv_gtr rfl rfl) rfl ?_
 refine tri_v (by first | exact opv_pick_t rfl rfl | exact opv_pick_f rfl rfl | exact opv_pick_bool rfl rfl rfl | exact opv_pick rfl rfl rfl) rfl ?_
 refine tM rfl rfl ?_
 have bad : (.bool (decide (r2.2.1 < (r2.1.length : Int))) : Value) = .bool true := congrArg Value.bool (decide_eq_true hm1)
 refine tri_split rfl rfl (fun h4 => ?_) (fun h4 => ?_)
 ·refine tri_guard_skip rfl rfl rfl rfl (tri_guard_skip rfl rfl rfl rfl (tri_guard_skip rfl rfl rfl rfl (tri_guard_skip rfl rfl rfl rfl (tri_guard_skip rfl rfl rfl rfl (tri_guard_skip rfl rfl rfl rfl (tri_guard_skip rfl rfl rfl rfl ?_))))))
  refine tri_v (by first | exact opv_pick_t rfl rfl | exact opv_pick_f rfl rfl | exact opv_pick_bool rfl rfl rfl | exact opv_pick rfl rfl rfl) rfl ?_
  refine tN (tT ?_)
  refine tri_cond_true rfl ?_
  refine tS (tR (tM rfl rfl (tM rfl rfl ?_)))
  skip
  refine tri_guard_run rfl rfl rfl (tM rfl rfl (tri_guard_run rfl rfl rfl ?_))
  refine tri_v (by first | exact opv_fieldAddr rfl rfl | exact opv_fieldAddrE rfl (by assumption) (by omega) rfl | exact opv_fieldAddrR rfl (by omega) rfl) rfl ?_
  refine tri_guard_run rfl rfl rfl ?_
  refine tri_v (by first | exact opv_load1 rfl rfl rfl | exact opv_loadA rfl rfl rfl | exact opv_loadE1 rfl (by assumption) rfl (by omega) rfl rfl | exact opv_loadEA rfl (by assumption) rfl (by omega) rfl rfl | exact opv_loadRX1 rfl rfl (by omega) rfl rfl | exact opv_loadRXA rfl rfl (by omega) rfl rfl rfl | exact opv_loadIX rfl rfl (by omega) | exact opv_loadR1 rfl rfl rfl | exact opv_loadRA rfl rfl rfl rfl) rfl ?_
  refine tri_guard_run rfl rfl rfl ?_
  refine tri_v (opv_len rfl) rfl ?_
  refine tri_guard_run rfl rfl rfl ?_
  refine tri_v (opv_lss rfl rfl) rfl ?_
  refine tri_v (by first | exact opv_pick_t rfl rfl | exact opv_pick_f rfl rfl | exact opv_pick_bool rfl rfl rfl | exact opv_pick rfl rfl rfl) rfl ?_
  refine tM rfl rfl ?_
  refine tri_true rfl rfl ((by omega)) ?_
  refine tri_guard_run rfl rfl rfl (tM rfl rfl (tri_guard_run rfl rfl rfl ?_))
  refine tri_v (by first | exact opv_fieldAddr rfl rfl | exact opv_fieldAddrE rfl (by assumption) (by omega) rfl | exact opv_fieldAddrR rfl (by omega) rfl) rfl ?_
  refine tri_guard_run rfl rfl rfl ?_
  refine tri_v (by first | exact opv_load1 rfl rfl rfl | exact opv_loadA rfl rfl rfl | exact opv_loadE1 rfl (by assumption) rfl (by omega) rfl rfl | exact opv_loadEA rfl (by assumption) rfl (by omega) rfl rfl | exact opv_loadRX1 rfl rfl (by omega) rfl rfl | exact opv_loadRXA rfl rfl (by omega) rfl rfl rfl | exact opv_loadIX rfl rfl (by omega) | exact opv_loadR1 rfl rfl rfl | exact opv_loadRA rfl rfl rfl rfl) rfl ?_
  refine tri_guard_run rfl rfl rfl ?_
  refine tri_v (opv_len rfl) rfl ?_
  refine tri_guard_run rfl rfl rfl ?_
  refine tri_v (opv_lss rfl rfl) rfl ?_
  refine tri_v (by first | exact opv_pick_t rfl rfl | exact opv_pick_f rfl rfl | exact opv_pick_bool rfl rfl rfl | exact opv_pick rfl rfl rfl) rfl ?_
  refine tA rfl rfl (tN (tT (tri_ret (tri_then_ret ?_))))
  refine tri_end A Suf.h rfl (.cons (rv_tmp rfl) .nil) ⟨bad, rfl, fun _ h => hI3 (hI2 (hI1 (hI0 h)))⟩
 refine tri_guard_run rfl rfl rfl ?_
 refine tri_v (by first | exact opv_fieldAddr rfl rfl | exact opv_fieldAddrE rfl (by assumption) (by omega) rfl | exact opv_fieldAddrR rfl (by omega) rfl) rfl ?_
 refine tri_guard_run rfl rfl rfl ?_
 refine tri_v (by first | exact opv_load1 rfl rfl rfl | exact opv_loadA rfl rfl rfl | exact opv_loadE1 rfl (by assumption) rfl (by omega) rfl rfl | exact opv_loadEA rfl (by assumption) rfl (by omega) rfl rfl | exact opv_loadRX1 rfl rfl (by omega) rfl rfl | exact opv_loadRXA rfl rfl (by omega) rfl rfl rfl | exact opv_loadIX rfl rfl (by omega) | exact opv_loadR1 rfl rfl rfl | exact opv_loadRA rfl rfl rfl rfl) rfl ?_
 refine tri_guard_run rfl rfl rfl (tM rfl rfl (tri_guard_run rfl rfl rfl ?_))
 refine tri_v (by first | exact opv_indexAddrA rfl rfl (by first | decide | omega) (by first | decide | omega) | exact opv_indexAddrSN rfl rfl (by omega) (by assumption) rfl | exact opv_indexAddrS rfl rfl (by omega) (by omega) (by assumption) rfl | exact opv_indexAddrE rfl (by assumption) (by omega) rfl (by first | decide | omega) (by first | decide | omega) | exact opv_indexAddrRN rfl rfl (by omega) | exact opv_indexAddrR rfl rfl (by omega) (by omega) | exact opv_indexAddrRA rfl (by omega) rfl (by first | decide | omega) (by first | decide | omega)) rfl ?_
 refine tri_guard_run rfl rfl rfl ?_
 refine tri_v (by first | exact opv_fieldAddr rfl rfl | exact opv_fieldAddrE rfl (by assumption) (by omega) rfl | exact opv_fieldAddrR rfl (by omega) rfl) rfl ?_
 refine tri_guard_run rfl rfl rfl ?_
 refine tri_v (by first | exact opv_load1 rfl rfl rfl | exact opv_loadA rfl rfl rfl | exact opv_loadE1 rfl (by assumption) rfl (by omega) rfl rfl | exact opv_loadEA rfl (by assumption) rfl (by omega) rfl rfl | exact opv_loadRX1 rfl rfl (by omega) rfl rfl | exact opv_loadRXA rfl rfl (by omega) rfl rfl rfl | exact opv_loadIX rfl rfl (by omega) | exact opv_loadR1 rfl rfl rfl | exact opv_loadRA rfl rfl rfl rfl) rfl ?_
 refine tri_guard_run rfl rfl rfl ?_
 refine tri_v (opv_gtr rfl rfl) rfl ?_
 refine tri_v (by first | exact opv_pick_t rfl rfl | exact opv_pick_f rfl rfl | exact opv_pick_bool rfl rfl rfl | exact opv_pick rfl rfl rfl) rfl ?_
 refine tN (tT ?_)
 refine tri_cond_dec rfl (fun h5 => ?_) (fun h5 => ?_)
 ·refine tS (tR (tM rfl rfl (tM rfl rfl ?_)))
  skip
  refine tri_guard_run rfl rfl rfl (tM rfl rfl (tri_guard_run rfl rfl rfl ?_))
  refine tri_v (by first | exact opv_fieldAddr rfl rfl | exact opv_fieldAddrE rfl (by assumption) (by omega) rfl | exact opv_fieldAddrR rfl (by omega) rfl) rfl ?_
  refine tri_guard_run rfl rfl rfl ?_
  refine tri_v (by first | exact opv_load1 rfl rfl rfl | exact opv_loadA rfl rfl rfl | exact opv_loadE1 rfl (by assumption) rfl (by omega) rfl rfl | exact opv_loadEA rfl (by assumption) rfl (by omega) rfl rfl | exact opv_loadRX1 rfl rfl (by omega) rfl rfl | exact opv_loadRXA rfl rfl (by omega) rfl rfl rfl | exact opv_loadIX rfl rfl (by omega) | exact opv_loadR1 rfl rfl rfl | exact opv_loadRA rfl rfl rfl rfl) rfl ?_
  refine tri_guard_run rfl rfl rfl ?_
  refine tri_v (opv_len rfl) rfl ?_
  refine tri_guard_run rfl rfl rfl ?_
  refine tri_v (opv_lss rfl rfl) rfl ?_
  refine tri_v (by first | exact opv_pick_t rfl rfl | exact opv_pick_f rfl rfl | exact opv_pick_bool rfl rfl rfl | exact opv_pick rfl rfl rfl) rfl ?_
  refine tM rfl rfl ?_
  refine tri_true rfl rfl ((by omega)) ?_
  refine tri_guard_run rfl rfl rfl (tM rfl rfl (tri_guard_run rfl rfl rfl ?_))
  refine tri_v (by first | exact opv_fieldAddr rfl rfl | exact opv_fieldAddrE rfl (by assumption) (by omega) rfl | exact opv_fieldAddrR rfl (by omega) rfl) rfl ?_
  refine tri_guard_run rfl rfl rfl ?_
  refine tri_v (by first | exact opv_load1 rfl rfl rfl | exact opv_loadA rfl rfl rfl | exact opv_loadE1 rfl (by assumption) rfl (by omega) rfl rfl | exact opv_loadEA rfl (by assumption) rfl (by omega) rfl rfl | exact opv_loadRX1 rfl rfl (by omega) rfl rfl | exact opv_loadRXA rfl rfl (by omega) rfl rfl rfl | exact opv_loadIX rfl rfl (by omega) | exact opv_loadR1 rfl rfl rfl | exact opv_loadRA rfl rfl rfl rfl) rfl ?_
  refine tri_guard_run rfl rfl rfl ?_
  refine tri_v (opv_len rfl) rfl ?_
  refine tri_guard_run rfl rfl rfl ?_
  refine tri_v (opv_lss rfl rfl) rfl ?_
  refine tri_v (by first | exact opv_pick_t rfl rfl | exact opv_pick_f rfl rfl | exact opv_pick_bool rfl rfl rfl | exact opv_pick rfl rfl rfl) rfl ?_
  refine tA rfl rfl (tN (tT (tri_ret (tri_then_ret ?_))))
  refine tri_end A Suf.h rfl (.cons (rv_tmp rfl) .nil) ⟨bad, rfl, fun _ h => hI3 (hI2 (hI1 (hI0 h)))⟩
 refine tri_skip (tT (tS (tR ?_)))
 refine tri_v (by first | exact opv_load1 rfl rfl rfl | exact opv_loadA rfl rfl rfl | exact opv_loadE1 rfl (by assumption) rfl (by omega) rfl rfl | exact opv_loadEA rfl (by assumption) rfl (by omega) rfl rfl | exact opv_loadRX1 rfl rfl (by omega) rfl rfl | exact opv_loadRXA rfl rfl (by omega) rfl rfl rfl | exact opv_loadIX rfl rfl (by omega) | exact opv_loadR1 rfl rfl rfl | exact opv_loadRA rfl rfl rfl rfl) rfl ?_
 refine tM rfl rfl ?_
 obtain ⟨lvn, en⟩ : ∃ lv : Nat, (R6.nd r2.1 r1.2.1).lv = lv := ⟨(R6.nd r2.1 r1.2.1).lv.toNat, by omega⟩
 obtain ⟨lvm, em⟩ : ∃ lv : Nat, (R6.nd r2.1 r2.2.1).lv = lv := ⟨(R6.nd r2.1 r2.2.1).lv.toNat, by omega⟩
 have en' : (r2.1.getD r1.2.1.toNat default).lv = lvn := en
 have em' : (r2.1.getD r2.2.1.toNat default).lv = lvm := em
 have hin : IsN r2.1 lvn r1.2.1 := ⟨hn, en⟩
 have him : IsN r2.1 lvm r2.2.1 := ⟨hm, em⟩
 refine tri_g (opg_call (xs := [_, _]) rfl (law06_bits hw (by omega) lvn (by omega) hs4l hin)) rfl ?_
 rintro _ _ _ ⟨rfl, rfl, rfl⟩
 refine tA rfl rfl (tN (tT (tS (tR ?_))))
 refine tri_v (by first | exact opv_load1 rfl rfl rfl | exact opv_loadA rfl rfl rfl | exact opv_loadE1 rfl (by assumption) rfl (by omega) rfl rfl | exact opv_loadEA rfl (by assumption) rfl (by omega) rfl rfl | exact opv_loadRX1 rfl rfl (by omega) rfl rfl | exact opv_loadRXA rfl rfl (by omega) rfl rfl rfl | exact opv_loadIX rfl rfl (by omega) | exact opv_loadR1 rfl rfl rfl | exact opv_loadRA rfl rfl rfl rfl) rfl ?_
 refine tM rfl rfl ?_
 refine tri_g (opg_call (xs := [_, _]) rfl (law06_bits hw (by omega) lvm (by omega) hs4l him)) rfl ?_
 rintro _ _ _ ⟨rfl, rfl, rfl⟩
 skip
 refine tA rfl rfl (tN (tT (tS (tR (tA rfl rfl (tN (tT ?_)))))))
 refine tS (tS (tR (tA rfl rfl (tN (tT (tri_block ?_))))))
 have hp := R6.bits_pop hw lvn _ (by omega) hin
 have hxl := R6.bitsM_len r2.1 lvn r1.2.1
 have hyl := R6.bitsM_len r2.1 lvm r2.2.1
 have hlen : (R6.bitsM r2.1 lvn r1.2.1).length ≤ 256 ∧ ((R6.bitsM r2.1 lvn r1.2.1).length : Int) = 2 ^ (2 * (r2.1.getD r1.2.1.toNat default).lv).toNat := by
  rw [hxl, en']
  rcases (by omega : lvn = 0 ∨ lvn = 1 ∨ lvn = 2 ∨ lvn = 3 ∨ lvn = 4) with rfl | rfl | rfl | rfl | rfl <;> decide
 have heq : r1.2.1 = r2.2.1 ↔ R6.bitsM r2.1 lvn r1.2.1 = R6.bitsM r2.1 lvm r2.2.1 := by
  constructor
  ·intro h
   have : lvn = lvm := by rw [h] at en; omega
   rw [this, h]
  ·intro h
   have h1 := congrArg List.length h
   rw [hxl, hyl] at h1
   have : lvn = lvm := by
    rcases (by omega : lvn = 0 ∨ lvn = 1 ∨ lvn = 2 ∨ lvn = 3 ∨ lvn = 4) with rfl | rfl | rfl | rfl | rfl <;>
    rcases (by omega : lvm = 0 ∨ lvm = 1 ∨ lvm = 2 ∨ lvm = 3 ∨ lvm = 4) with rfl | rfl | rfl | rfl | rfl <;>
    first | rfl | (exfalso; revert h1; decide)
   subst this
   exact R6.bits_inj hw lvn _ _ hin him h
 generalize R6.bitsM r2.1 lvn r1.2.1 = x at *
 generalize R6.bitsM r2.1 lvm r2.2.1 = y at *
 refine tri_sub (F' := [(9, .bool true), (12, .int .i64 r1.2.1), (14, pt b14 0), (15, .int .i64 r2.2.1), (17, strV x), (18, strV y), (19, .int .i64 (R6.cnt (x.take 0))), (20, .int .i64 ((0 : Nat) : Int))]) ⟨rfl, rfl, rfl, rfl, rfl, rfl, rfl, rfl, trivial⟩ ?_
 refine loop_ind (G := Nat) (fun g => x.length - g) (fun g => g ≤ x.length) (fun g => [(9, .bool true), (12, .int .i64 r1.2.1), (14, pt b14 0), (15, .int .i64 r2.2.1), (17, strV x), (18, strV y), (19, .int .i64 (R6.cnt (x.take g))), (20, .int .i64 (g : Nat))]) (fun _ => _) (fun _ => _) ?_ 0 (by omega)
 rintro i hi K hK
 have hb := R6.cnt_bd (x.take i)
 rw [List.length_take, Nat.min_eq_left hi] at hb
 skip
 refine tS (tS (tR (tM rfl rfl (tM rfl rfl ?_))))
 refine tri_v (opv_lenS rfl) rfl ?_
 refine tri_v (opv_lss rfl rfl) rfl ?_
 refine tN (tT ?_)
 refine tri_cond_dec rfl (fun h => ?_) (fun h => ?_)
 ·have hil : i < x.length := by omega
  have hstep := R6.cnt_take hil
  have hu := UInt8.toNat_lt (x.getD (i : Int).toNat default)
  refine tri_skip (tT (tS (tri_block (tR (tM rfl rfl (tM rfl rfl (tM rfl rfl ?_)))))))
  refine tri_v (opv_indexS rfl rfl (by omega) (by omega)) rfl ?_
  skip
  refine tri_v (opv_convert rfl (w64 (by omega) (by omega))) rfl ?_
  refine tri_v (by first | exact opv_add rfl rfl (w64 (by omega) (by omega))) rfl ?_
  refine tri_v (by first | exact opv_sub rfl rfl (w64 (by omega) (by omega)) | exact opv_sub rfl rfl rfl) rfl ?_
  refine tA rfl rfl (tN ?_)
  refine tri_inBlock ?_
  refine tT (tR (tM rfl rfl ?_))
  refine tri_v (by first | exact opv_add rfl rfl (w64 (by omega) (by omega))) rfl ?_
  refine tA rfl rfl (tN (tT ?_))
  refine tri_sub ?_ (hK (i + 1) (by omega) (by omega))
  exact ⟨rfl, rfl, rfl, rfl, rfl, rfl, by rw [hstep]; rfl, rfl, trivial⟩
 ·have ei : i = x.length := by omega
  rw [ei, List.take_length]
  refine tri_exit ?_
  refine tri_then_exit ?_
  refine tri_then_exit ?_
  refine tri_inBlock_hit rfl ?_
  refine tT (tS (tR (tM rfl rfl (tM rfl rfl ?_))))
  skip
  refine tri_guard_run rfl rfl rfl (tM rfl rfl (tri_guard_run rfl rfl rfl ?_))
  refine tri_v (opv_lenS rfl) rfl ?_
  refine tri_guard_run rfl rfl rfl ?_
  refine tri_v (by first | exact opv_fieldAddr rfl rfl | exact opv_fieldAddrE rfl (by assumption) (by omega) rfl | exact opv_fieldAddrR rfl (by omega) rfl) rfl ?_
  refine tri_guard_run rfl rfl rfl ?_
  refine tri_v (by first | exact opv_load1 rfl rfl rfl | exact opv_loadA rfl rfl rfl | exact opv_loadE1 rfl (by assumption) rfl (by omega) rfl rfl | exact opv_loadEA rfl (by assumption) rfl (by omega) rfl rfl | exact opv_loadRX1 rfl rfl (by omega) rfl rfl | exact opv_loadRXA rfl rfl (by omega) rfl rfl rfl | exact opv_loadIX rfl rfl (by omega) | exact opv_loadR1 rfl rfl rfl | exact opv_loadRA rfl rfl rfl rfl) rfl ?_
  refine tri_guard_run rfl rfl rfl (tM rfl rfl (tri_guard_run rfl rfl rfl ?_))
  refine tri_v (by first | exact opv_indexAddrA rfl rfl (by first | decide | omega) (by first | decide | omega) | exact opv_indexAddrSN rfl rfl (by omega) (by assumption) rfl | exact opv_indexAddrS rfl rfl (by omega) (by omega) (by assumption) rfl | exact opv_indexAddrE rfl (by assumption) (by omega) rfl (by first | decide | omega) (by first | decide | omega) | exact opv_indexAddrRN rfl rfl (by omega) | exact opv_indexAddrR rfl rfl (by omega) (by omega) | exact opv_indexAddrRA rfl (by omega) rfl (by first | decide | omega) (by first | decide | omega)) rfl ?_
  refine tri_guard_run rfl rfl rfl ?_
  refine tri_v (by first | exact opv_fieldAddr rfl rfl | exact opv_fieldAddrE rfl (by assumption) (by omega) rfl | exact opv_fieldAddrR rfl (by omega) rfl) rfl ?_
  refine tri_guard_run rfl rfl rfl ?_
  refine tri_v (by first | exact opv_load1 rfl rfl rfl | exact opv_loadA rfl rfl rfl | exact opv_loadE1 rfl (by assumption) rfl (by omega) rfl rfl | exact opv_loadEA rfl (by assumption) rfl (by omega) rfl rfl | exact opv_loadRX1 rfl rfl (by omega) rfl rfl | exact opv_loadRXA rfl rfl (by omega) rfl rfl rfl | exact opv_loadIX rfl rfl (by omega) | exact opv_loadR1 rfl rfl rfl | exact opv_loadRA rfl rfl rfl rfl) rfl ?_
  refine tri_guard_run rfl rfl rfl ?_
  refine tri_v (by first | exact opv_mul rfl rfl (w64 (by omega) (by omega)) | exact opv_mul rfl rfl (by assumption)) rfl ?_
  refine tri_guard_run rfl rfl rfl ?_
  refine tri_v (opv_shl1 rfl rfl (by omega) (by omega)) rfl ?_
  refine tri_guard_run rfl rfl rfl ?_
  refine tri_v (by first | exact opv_eql rfl rfl | exact opv_eqlI rfl rfl rfl rfl rfl rfl | exact opv_eqlB rfl rfl | exact opv_eqlNil rfl rfl) rfl ?_
  refine tri_v (by first | exact opv_pick_t rfl rfl | exact opv_pick_f rfl rfl | exact opv_pick_bool rfl rfl rfl | exact opv_pick rfl rfl rfl) rfl ?_
  refine tM rfl rfl ?_
  refine tri_true rfl rfl (hlen.2) ?_
  refine tri_guard_run rfl rfl rfl (tM rfl rfl (tri_guard_run rfl rfl rfl ?_))
  refine tri_v (by first | exact opv_fieldAddr rfl rfl | exact opv_fieldAddrE rfl (by assumption) (by omega) rfl | exact opv_fieldAddrR rfl (by omega) rfl) rfl ?_
  refine tri_guard_run rfl rfl rfl ?_
  refine tri_v (by first | exact opv_load1 rfl rfl rfl | exact opv_loadA rfl rfl rfl | exact opv_loadE1 rfl (by assumption) rfl (by omega) rfl rfl | exact opv_loadEA rfl (by assumption) rfl (by omega) rfl rfl | exact opv_loadRX1 rfl rfl (by omega) rfl rfl | exact opv_loadRXA rfl rfl (by omega) rfl rfl rfl | exact opv_loadIX rfl rfl (by omega) | exact opv_loadR1 rfl rfl rfl | exact opv_loadRA rfl rfl rfl rfl) rfl ?_
  refine tri_guard_run rfl rfl rfl (tM rfl rfl (tri_guard_run rfl rfl rfl ?_))
  refine tri_v (by first | exact opv_indexAddrA rfl rfl (by first | decide | omega) (by first | decide | omega) | exact opv_indexAddrSN rfl rfl (by omega) (by assumption) rfl | exact opv_indexAddrS rfl rfl (by omega) (by omega) (by assumption) rfl | exact opv_indexAddrE rfl (by assumption) (by omega) rfl (by first | decide | omega) (by first | decide | omega) | exact opv_indexAddrRN rfl rfl (by omega) | exact opv_indexAddrR rfl rfl (by omega) (by omega) | exact opv_indexAddrRA rfl (by omega) rfl (by first | decide | omega) (by first | decide | omega)) rfl ?_
  refine tri_guard_run rfl rfl rfl ?_
  refine tri_v (by first | exact opv_fieldAddr rfl rfl | exact opv_fieldAddrE rfl (by assumption) (by omega) rfl | exact opv_fieldAddrR rfl (by omega) rfl) rfl ?_
  refine tri_guard_run rfl rfl rfl ?_
  refine tri_v (by first | exact opv_load1 rfl rfl rfl | exact opv_loadA rfl rfl rfl | exact opv_loadE1 rfl (by assumption) rfl (by omega) rfl rfl | exact opv_loadEA rfl (by assumption) rfl (by omega) rfl rfl | exact opv_loadRX1 rfl rfl (by omega) rfl rfl | exact opv_loadRXA rfl rfl (by omega) rfl rfl rfl | exact opv_loadIX rfl rfl (by omega) | exact opv_loadR1 rfl rfl rfl | exact opv_loadRA rfl rfl rfl rfl) rfl ?_
  refine tri_guard_run rfl rfl rfl ?_
  refine tri_v (by first | exact opv_eql rfl rfl | exact opv_eqlI rfl rfl rfl rfl rfl rfl | exact opv_eqlB rfl rfl | exact opv_eqlNil rfl rfl) rfl ?_
  refine tri_v (by first | exact opv_pick_t rfl rfl | exact opv_pick_f rfl rfl | exact opv_pick_bool rfl rfl rfl | exact opv_pick rfl rfl rfl) rfl ?_
  refine tM rfl rfl ?_
  refine tri_true rfl rfl (hp.1) ?_
  refine tri_guard_run rfl rfl rfl (tM rfl rfl (tri_guard_run rfl rfl rfl (tM rfl rfl (tri_guard_run rfl rfl rfl ?_))))
  refine tri_v (by first | exact opv_eql rfl rfl | exact opv_eqlI rfl rfl rfl rfl rfl rfl | exact opv_eqlB rfl rfl | exact opv_eqlNil rfl rfl) rfl ?_
  refine tri_guard_run rfl rfl rfl (tM rfl rfl (tri_guard_run rfl rfl rfl (tM rfl rfl (tri_guard_run rfl rfl rfl ?_))))
  refine tri_v (opv_eqlS rfl rfl) rfl ?_
  refine tri_guard_run rfl rfl rfl ?_
  refine tri_v (by first | exact opv_eql rfl rfl | exact opv_eqlI rfl rfl rfl rfl rfl rfl | exact opv_eqlB rfl rfl | exact opv_eqlNil rfl rfl) rfl ?_
  refine tri_v (by first | exact opv_pick_t rfl rfl | exact opv_pick_f rfl rfl | exact opv_pick_bool rfl rfl rfl | exact opv_pick rfl rfl rfl) rfl ?_
  refine tA rfl rfl (tN (tT (tri_ret ?_)))
  refine tri_end A Suf.h rfl (.cons (rv_tmp rfl) .nil) ⟨?_, rfl, fun _ h => hI3 (hI2 (hI1 (hI0 h)))⟩
  exact congrArg Value.bool (decide_eq_true (by rw [decide_eq_decide]; exact heq))
end Go.GL
