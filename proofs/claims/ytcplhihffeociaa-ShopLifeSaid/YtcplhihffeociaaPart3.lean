/- Part 3: contracts of the functions that the law reaches: each answers as its model does. No condition beyond those that each theorem states. -/
import Derived.Test.YtcplhihffeociaaPart2
import Derived.Lib.Overlaps
import Derived.Laws.Externs
set_option linter.unusedVariables false
namespace Go.GL
open R6 R7
/-! ### What leaps keep to -/
namespace R9
def MemOk (ns : List Node) (mm : Memo) : Prop := ∀ p ∈ mm, ∃ lv : Nat, IsN ns (lv + 2) p.1 ∧ IsN ns (lv + 1) p.2.2
theorem MemOk.pre {ns ms : List Node} (hp : ns <+: ms) {mm : Memo} (h : MemOk ns mm) : MemOk ms mm := fun p hm => by
 obtain ⟨lv, a, b⟩ := h p hm
 exact ⟨lv, a.pre hp, b.pre hp⟩
theorem look9_mem : ∀ {mm : Memo} {n j to : Int}, look9 mm n j = some to → (n, j, to) ∈ mm
 | [], _, _, _, h => by simp [look9] at h
 | p :: mm, n, j, to, h => by
  unfold look9 at h
  split at h
  ·rename_i hp
   obtain ⟨a, b, c⟩ := p
   simp only [Option.some.injEq] at h
   simp only at hp
   obtain ⟨rfl, rfl⟩ := hp
   subst h
   exact List.mem_cons_self
  ·exact List.mem_cons_of_mem _ (look9_mem h)
structure Lk (room : Int) (s : LS) : Prop where
 right : R6.right s.ns room
 mem : MemOk s.ns s.mm
theorem Lk.wf {room : Int} {s : LS} (h : Lk room s) : Wf s.ns := (right_iff.1 h.right).2
/-- What came of a state without an error. -/
structure Gd (room : Int) (s : LS) (r : L9) (lv : Nat) : Prop where
 lk : Lk room r.1
 pre : s.ns <+: r.1.ns
 is : IsN r.1.ns lv r.2.1
theorem put_gd {ns : List Node} (h : Wf ns) {room q0 q1 q2 q3 : Int} {lv : Nat} (hq : IsN ns lv q0) (he : (put ns room q0 q1 q2 q3).2.2 = 0) : IsN (put ns room q0 q1 q2 q3).1 (lv + 1) (put ns room q0 q1 q2 q3).2.1 := by
 have hf : fit4 ns q0 q1 q2 q3 := Decidable.byContradiction fun hf => by
  unfold put at he; rw [if_neg hf] at he; cases he
 have hr : 0 ≤ R6.at_ ns [q0, q1, q2, q3] ∨ (ns.length : Int) < room := Decidable.byContradiction fun hr => by
  unfold put at he
  rw [if_pos hf, if_neg (by omega), if_pos (by omega)] at he
  cases he
 obtain ⟨ms, m, e, ok⟩ := put_ok h hf hr
 rw [e]
 exact ⟨ok.mem, by rw [ok.lv, hq.2]; omega⟩
theorem right_put {ns : List Node} {room : Int} (h : R6.right ns room) (q0 q1 q2 q3 : Int) : R6.right (put ns room q0 q1 q2 q3).1 room ∧ ns <+: (put ns room q0 q1 q2 q3).1 := by
 obtain ⟨⟨a, b, c⟩, hw⟩ := right_iff.1 h
 obtain ⟨d, e⟩ := put_wf hw room q0 q1 q2 q3
 exact ⟨right_iff.2 ⟨⟨a, b, put_room c q0 q1 q2 q3⟩, d⟩, e⟩
theorem putS_gd {room : Int} {s : LS} (h : Lk room s) {q0 q1 q2 q3 : Int} {lv : Nat} (hq : IsN s.ns lv q0) (he : (putS room s q0 q1 q2 q3).2.2 = 0) : Gd room s (putS room s q0 q1 q2 q3) (lv + 1) := by
 obtain ⟨a, b⟩ := right_put h.right q0 q1 q2 q3
 exact ⟨⟨a, h.mem.pre b⟩, b, put_gd h.wf hq he⟩
theorem s16_isN {ns : List Node} (h : Wf ns) {lv : Nat} {n : Int} (hn : IsN ns (lv + 2) n) : ∀ i : Int, 0 ≤ i → i < 16 → IsN ns lv (R8.g (R8.s16 ns n) i) := by
 obtain ⟨a, b, c, d⟩ := kids4 h hn
 obtain ⟨a0, a1, a2, a3⟩ := kids4 h a
 obtain ⟨b0, b1, b2, b3⟩ := kids4 h b
 obtain ⟨c0, c1, c2, c3⟩ := kids4 h c
 obtain ⟨d0, d1, d2, d3⟩ := kids4 h d
 intro i h0 h16
 obtain ⟨k, rfl⟩ : ∃ k : Nat, i = k := ⟨i.toNat, by omega⟩
 have hk : k < 16 := by omega
 unfold R8.g R8.s16
 rw [Int.toNat_natCast]
 match k, hk with
 | 0, _ => exact a0
 | 1, _ => exact a1
 | 2, _ => exact b0
 | 3, _ => exact b1
 | 4, _ => exact a2
 | 5, _ => exact a3
 | 6, _ => exact b2
 | 7, _ => exact b3
 | 8, _ => exact c0
 | 9, _ => exact c1
 | 10, _ => exact d0
 | 11, _ => exact d1
 | 12, _ => exact c2
 | 13, _ => exact c3
 | 14, _ => exact d2
 | 15, _ => exact d3
theorem midS_gd {room : Int} {s : LS} (h : Lk room s) {lv : Nat} {n : Int} (hn : IsN s.ns (lv + 2) n) (he : (midS room s n).2.2 = 0) : Gd room s (midS room s n) (lv + 1) :=
 putS_gd h (s16_isN h.wf hn 5 (by omega) (by omega)) he
theorem bit_01 (l : List Int) (y x : Int) : R8.bit l y x = 0 ∨ R8.bit l y x = 1 := by unfold R8.bit; split <;> simp
theorem oneS_gd {room : Int} {s : LS} (h : Lk room s) {n : Int} (he : (oneS room s n).2.2 = 0) : Gd room s (oneS room s n) 1 := by
 have h0 : IsN s.ns 0 (R8.bit (R8.s16 s.ns n) 1 1) := by
  rcases bit_01 (R8.s16 s.ns n) 1 1 with e | e <;> rw [e]
  ·exact ⟨h.wf.in0, by rw [h.wf.nd0]; rfl⟩
  ·exact ⟨h.wf.in1, by rw [h.wf.nd1]; rfl⟩
 obtain ⟨a, b⟩ := right_put h.right (R8.bit (R8.s16 s.ns n) 1 1) (R8.bit (R8.s16 s.ns n) 1 2) (R8.bit (R8.s16 s.ns n) 2 1) (R8.bit (R8.s16 s.ns n) 2 2)
 exact ⟨⟨a, h.mem.pre b⟩, b, put_gd h.wf h0 he⟩
theorem mapS_gd {room : Int} {f : LS → Int → L9} {C : List Node → Int → Prop} {lv : Nat} (hC : ∀ ns ms q, ns <+: ms → C ns q → C ms q) (hf : ∀ s q, Lk room s → C s.ns q → (f s q).2.2 = 0 → Gd room s (f s q) lv) : ∀ (qs : List Int) (s : LS), Lk room s → (∀ q ∈ qs, C s.ns q) → (mapS f s qs).2.2 = 0 →
  Lk room (mapS f s qs).1 ∧ s.ns <+: (mapS f s qs).1.ns ∧ (mapS f s qs).2.1.length = qs.length ∧ ∀ q ∈ (mapS f s qs).2.1, IsN (mapS f s qs).1.ns lv q
 | [], s, h, _, _ => ⟨h, List.prefix_refl _, rfl, fun q hq => by simp [mapS] at hq⟩
 | q :: qs, s, h, hq, he => by
  unfold mapS at he ⊢
  by_cases h0 : (f s q).2.2 = 0
  ·rw [if_neg (by simpa using h0)] at he ⊢
   have g := hf s q h (hq q List.mem_cons_self) h0
   obtain ⟨a, b, c, d⟩ := mapS_gd hC hf qs (f s q).1 g.lk (fun x hx => hC _ _ _ g.pre (hq x (List.mem_cons_of_mem _ hx))) he
   refine ⟨a, g.pre.trans b, by simp [c], fun x hx => ?_⟩
   rcases List.mem_cons.1 hx with rfl | hx
   ·exact g.is.pre b
   ·exact d x hx
  ·rw [if_pos h0] at he
   exact absurd he h0
theorem putSq_gd {ns : List Node} {room : Int} (h : R6.right ns room) {lv : Nat} {l : List Int} (hi : ∀ i : Int, 0 ≤ i → i < 16 → IsN ns lv (R8.g l i)) {y x : Int} (hy : 0 ≤ y ∧ y ≤ 2) (hx : 0 ≤ x ∧ x ≤ 2) (he : (R8.putSq ns room l y x).2.2 = 0) :
  R6.right (R8.putSq ns room l y x).1 room ∧ ns <+: (R8.putSq ns room l y x).1 ∧ IsN (R8.putSq ns room l y x).1 (lv + 1) (R8.putSq ns room l y x).2.1 := by
 have hw := (right_iff.1 h).2
 obtain ⟨a, b⟩ := right_put h (R8.g l (4 * y + x)) (R8.g l (4 * y + x + 1)) (R8.g l (4 * y + x + 4)) (R8.g l (4 * y + x + 5))
 exact ⟨a, b, put_gd hw (hi _ (by omega) (by omega)) he⟩
theorem all_gd {ns : List Node} {room : Int} (h : R6.right ns room) {lv : Nat} {n : Int} (hn : IsN ns (lv + 2) n) (he : (R8.all ns room n).2.2 = 0) :
  R6.right (R8.all ns room n).1 room ∧ ns <+: (R8.all ns room n).1 ∧ (R8.all ns room n).2.1.length = 9 ∧ ∀ q ∈ (R8.all ns room n).2.1, IsN (R8.all ns room n).1 (lv + 1) q := by
 have hi := s16_isN (right_iff.1 h).2 hn
 unfold R8.all at he ⊢
 dsimp only at he ⊢
 generalize R8.s16 ns n = l at *
 have key := fun {ms : List Node} (hr : R6.right ms room) (hp : ns <+: ms) {y x : Int} (hy : 0 ≤ y ∧ y ≤ 2) (hx : 0 ≤ x ∧ x ≤ 2) (he : (R8.putSq ms room l y x).2.2 = 0) => putSq_gd hr (fun i a b => (hi i a b).pre hp) hy hx he
 by_cases e0 : (R8.putSq ns room l 0 0).2.2 = 0
 case neg => rw [if_pos e0] at he; exact absurd he e0
 rw [if_neg (by simpa using e0)] at he ⊢
 obtain ⟨r0, p0, i0⟩ := key h (List.prefix_refl _) (by omega) (by omega) e0
 generalize R8.putSq ns room l 0 0 = P0 at *
 by_cases e1 : (R8.putSq P0.1 room l 0 1).2.2 = 0
 case neg => rw [if_pos e1] at he; exact absurd he e1
 rw [if_neg (by simpa using e1)] at he ⊢
 obtain ⟨r1, p1, i1⟩ := key r0 p0 (by omega) (by omega) e1
 generalize R8.putSq P0.1 room l 0 1 = P1 at *
 have t1 := p0.trans p1
 by_cases e2 : (R8.putSq P1.1 room l 0 2).2.2 = 0
 case neg => rw [if_pos e2] at he; exact absurd he e2
 rw [if_neg (by simpa using e2)] at he ⊢
 obtain ⟨r2, p2, i2⟩ := key r1 t1 (by omega) (by omega) e2
 generalize R8.putSq P1.1 room l 0 2 = P2 at *
 have t2 := t1.trans p2
 by_cases e3 : (R8.putSq P2.1 room l 1 0).2.2 = 0
 case neg => rw [if_pos e3] at he; exact absurd he e3
 rw [if_neg (by simpa using e3)] at he ⊢
 obtain ⟨r3, p3, i3⟩ := key r2 t2 (by omega) (by omega) e3
 generalize R8.putSq P2.1 room l 1 0 = P3 at *
 have t3 := t2.trans p3
 by_cases e4 : (R8.putSq P3.1 room l 1 1).2.2 = 0
 case neg => rw [if_pos e4] at he; exact absurd he e4
 rw [if_neg (by simpa using e4)] at he ⊢
 obtain ⟨r4, p4, i4⟩ := key r3 t3 (by omega) (by omega) e4
 generalize R8.putSq P3.1 room l 1 1 = P4 at *
 have t4 := t3.trans p4
 by_cases e5 : (R8.putSq P4.1 room l 1 2).2.2 = 0
 case neg => rw [if_pos e5] at he; exact absurd he e5
 rw [if_neg (by simpa using e5)] at he ⊢
 obtain ⟨r5, p5, i5⟩ := key r4 t4 (by omega) (by omega) e5
 generalize R8.putSq P4.1 room l 1 2 = P5 at *
 have t5 := t4.trans p5
 by_cases e6 : (R8.putSq P5.1 room l 2 0).2.2 = 0
 case neg => rw [if_pos e6] at he; exact absurd he e6
 rw [if_neg (by simpa using e6)] at he ⊢
 obtain ⟨r6, p6, i6⟩ := key r5 t5 (by omega) (by omega) e6
 generalize R8.putSq P5.1 room l 2 0 = P6 at *
 have t6 := t5.trans p6
 by_cases e7 : (R8.putSq P6.1 room l 2 1).2.2 = 0
 case neg => rw [if_pos e7] at he; exact absurd he e7
 rw [if_neg (by simpa using e7)] at he ⊢
 obtain ⟨r7, p7, i7⟩ := key r6 t6 (by omega) (by omega) e7
 generalize R8.putSq P6.1 room l 2 1 = P7 at *
 have t7 := t6.trans p7
 by_cases e8 : (R8.putSq P7.1 room l 2 2).2.2 = 0
 case neg => rw [if_pos e8] at he; exact absurd he e8
 rw [if_neg (by simpa using e8)] at he ⊢
 obtain ⟨r8, p8, i8⟩ := key r7 t7 (by omega) (by omega) e8
 generalize R8.putSq P7.1 room l 2 2 = P8 at *
 refine ⟨r8, t7.trans p8, rfl, fun q hq => ?_⟩
 simp only [List.mem_cons, List.not_mem_nil, or_false] at hq
 rcases hq with rfl | rfl | rfl | rfl | rfl | rfl | rfl | rfl | rfl
 ·exact i0.pre (((((((p1.trans p2).trans p3).trans p4).trans p5).trans p6).trans p7).trans p8)
 ·exact i1.pre ((((((p2.trans p3).trans p4).trans p5).trans p6).trans p7).trans p8)
 ·exact i2.pre (((((p3.trans p4).trans p5).trans p6).trans p7).trans p8)
 ·exact i3.pre ((((p4.trans p5).trans p6).trans p7).trans p8)
 ·exact i4.pre (((p5.trans p6).trans p7).trans p8)
 ·exact i5.pre ((p6.trans p7).trans p8)
 ·exact i6.pre (p7.trans p8)
 ·exact i7.pre p8
 ·exact i8
theorem g_mem {l : List Int} {i : Int} (h0 : 0 ≤ i) (h1 : i < l.length) : R8.g l i ∈ l := by
 unfold R8.g
 have : i.toNat < l.length := by omega
 rw [List.getD_eq_getElem?_getD, List.getElem?_eq_getElem this]
 exact List.getElem_mem this
theorem isN_mono {lv : Nat} : ∀ ns ms q, ns <+: ms → IsN ns lv q → IsN ms lv q := fun _ _ _ hp h => h.pre hp
theorem bindM_gd {r : LS × List Int × Int} {f : LS → List Int → L9} {P : L9 → Prop} (he : (bindM r f).2.2 = 0) (h : r.2.2 = 0 → (f r.1 r.2.1).2.2 = 0 → P (f r.1 r.2.1)) : P (bindM r f) := by
 by_cases e : r.2.2 = 0
 ·rw [bindM_ok e] at he ⊢; exact h e he
 ·rw [bindM_err e] at he; exact absurd he e
theorem half_gd {room : Int} {k : Nat} {lp : LS → Int → Int → L9} (hlp : ∀ s q j, Lk room s → IsN s.ns (k + 2) q → (lp s q j).2.2 = 0 → Gd room s (lp s q j) (k + 1)) {full : Bool} {s : LS} {n j : Int} {r1 : LS × List Int × Int} (h : Lk room s) (hn : IsN s.ns (k + 3) n) (h1 : half lp room full s n j = r1) (he : r1.2.2 = 0) :
  Lk room r1.1 ∧ s.ns <+: r1.1.ns ∧ r1.2.1.length = 9 ∧ ∀ q ∈ r1.2.1, IsN r1.1.ns (k + 1) q := by
 subst h1
 unfold half at he ⊢
 by_cases e0 : (R8.all s.ns room n).2.2 = 0
 case neg => rw [if_pos e0] at he; exact absurd he e0
 rw [if_neg (by simpa using e0)] at he ⊢
 obtain ⟨r0, p0, l0, i0⟩ := all_gd h.right hn e0
 have m1 := mapS_gd (room := room) (f := halfF lp room full j) (C := fun ns q => IsN ns (k + 2) q) (lv := k + 1) isN_mono (fun s q hs hq he => by
  unfold halfF at he ⊢
  cases full
  ·exact midS_gd hs hq he
  ·exact hlp s q (j - 1) hs hq he) (R8.all s.ns room n).2.1 ⟨(R8.all s.ns room n).1, s.mm⟩ ⟨r0, h.mem.pre p0⟩ i0 he
 exact ⟨m1.1, p0.trans m1.2.1, by rw [m1.2.2.1, l0], m1.2.2.2⟩
theorem four_gd {room : Int} {k : Nat} {t : LS} {l : List Int} (h : Lk room t) (hl : l.length = 9) (hi : ∀ q ∈ l, IsN t.ns (k + 1) q) (he : (mapS (fourP room l) t fourE).2.2 = 0) :
  Lk room (mapS (fourP room l) t fourE).1 ∧ t.ns <+: (mapS (fourP room l) t fourE).1.ns ∧ (mapS (fourP room l) t fourE).2.1.length = 4 ∧ ∀ q ∈ (mapS (fourP room l) t fourE).2.1, IsN (mapS (fourP room l) t fourE).1.ns (k + 2) q :=
 mapS_gd (room := room) (f := fourP room l) (C := fun ns k' => IsN ns (k + 1) (R8.g l k')) (lv := k + 2) (fun _ _ _ hp hq => hq.pre hp) (fun s q hs hq he => putS_gd hs hq he) fourE t h (fun q hq => by
  simp only [fourE, List.mem_cons, List.not_mem_nil, or_false] at hq
  exact hi _ (g_mem (by omega) (by rw [hl]; omega))) he
theorem last_gd {room : Int} {k : Nat} {lp : LS → Int → Int → L9} (hlp : ∀ s q j, Lk room s → IsN s.ns (k + 2) q → (lp s q j).2.2 = 0 → Gd room s (lp s q j) (k + 1)) {j : Int} {t : LS} {l : List Int} (h : Lk room t) (hi : ∀ q ∈ l, IsN t.ns (k + 2) q) (he : (mapS (lastF lp j) t l).2.2 = 0) :
  Lk room (mapS (lastF lp j) t l).1 ∧ t.ns <+: (mapS (lastF lp j) t l).1.ns ∧ (mapS (lastF lp j) t l).2.1.length = l.length ∧ ∀ q ∈ (mapS (lastF lp j) t l).2.1, IsN (mapS (lastF lp j) t l).1.ns (k + 1) q :=
 mapS_gd (room := room) (f := lastF lp j) (C := fun ns q => IsN ns (k + 2) q) (lv := k + 1) isN_mono (fun s q hs hq he => hlp s q j hs hq he) l t h hi he
theorem far_gd {room : Int} {k : Nat} {lp : LS → Int → Int → L9} (hlp : ∀ s q j, Lk room s → IsN s.ns (k + 2) q → (lp s q j).2.2 = 0 → Gd room s (lp s q j) (k + 1)) {full : Bool} {s : LS} {n j : Int} (h : Lk room s) (hn : IsN s.ns (k + 3) n) (he : (far lp room full s n j).2.2 = 0) : Gd room s (far lp room full s n j) (k + 2) := by
 unfold far at he ⊢
 refine bindM_gd (P := fun r => Gd room s r (k + 2)) he fun e1 he => ?_
 obtain ⟨r1, p1, l1, i1⟩ := half_gd hlp h hn rfl e1
 generalize half lp room full s n j = R1 at *
 refine bindM_gd (P := fun r => Gd room s r (k + 2)) he fun e2 he => ?_
 obtain ⟨r2, p2, l2, i2⟩ := four_gd r1 l1 i1 e2
 generalize mapS (fourP room R1.2.1) R1.1 fourE = R2 at *
 refine bindM_gd (P := fun r => Gd room s r (k + 2)) he fun e3 he => ?_
 obtain ⟨r3, p3, l3, i3⟩ := last_gd hlp (j := if full = true then j - 1 else j) r2 i2 e3
 generalize mapS (lastF lp (if full = true then j - 1 else j)) R2.1 R2.2.1 = R3 at *
 have g := putS_gd r3 (i3 _ (g_mem (i := 0) (by omega) (by rw [l3, l2]; omega))) he
 exact ⟨g.lk, ((p1.trans p2).trans p3).trans g.pre, g.is⟩
theorem keep_gd {room : Int} {s : LS} {n j : Int} {r : L9} {lv : Nat} (hn : IsN s.ns (lv + 2) n) (he : (keep n j r).2.2 = 0) (h : r.2.2 = 0 → Gd room s r (lv + 1)) : Gd room s (keep n j r) (lv + 1) := by
 unfold keep at he ⊢
 by_cases e : r.2.2 = 0
 case neg => rw [if_pos e] at he; exact absurd he e
 rw [if_neg (by simpa using e)]
 obtain ⟨a, b, c⟩ := h e
 refine ⟨⟨a.right, fun p hp => ?_⟩, b, c⟩
 rcases List.mem_append.1 hp with hp | hp
 ·exact a.mem p hp
 ·rw [List.mem_singleton.1 hp]
  exact ⟨lv, hn.pre b, c⟩
theorem leap_found {room : Int} {s : LS} (h : Lk room s) {lv : Nat} {n j to : Int} (hn : IsN s.ns (lv + 2) n) (hl : look9 s.mm n j = some to) : IsN s.ns (lv + 1) to := by
 obtain ⟨lv', a, b⟩ := h.mem _ (look9_mem hl)
 have e : lv' = lv := by
  have h1 := a.2
  have h2 := hn.2
  simp only at h1
  omega
 rw [← e]; exact b
theorem leap_gd {room : Int} : ∀ (k : Nat) (s : LS) (n j : Int), Lk room s → IsN s.ns (k + 2) n → (leap room k s n j).2.2 = 0 → Gd room s (leap room k s n j) (k + 1)
 | 0, s, n, j, h, hn, he => by
  unfold leap at he ⊢
  cases hl : look9 s.mm n j with
  | some to => exact ⟨h, List.prefix_refl _, leap_found h hn hl⟩
  | none =>
   rw [hl] at he
   exact keep_gd hn he fun e => oneS_gd h e
 | k + 1, s, n, j, h, hn, he => by
  unfold leap at he ⊢
  cases hl : look9 s.mm n j with
  | some to => exact ⟨h, List.prefix_refl _, leap_found h hn hl⟩
  | none =>
   rw [hl] at he
   exact keep_gd hn he fun e => far_gd (fun s q j hs hq he => leap_gd k s q j hs hq he) h hn e
/-! #### what is new of what was leapt -/
/-- What came to be kept is of nodes of the levels to K + 2. -/
def New (K : Nat) (mm mm' : Memo) (ns' : List Node) : Prop := ∃ add, mm' = mm ++ add ∧ ∀ p ∈ add, ∃ lv, lv ≤ K ∧ IsN ns' (lv + 2) p.1
theorem New.refl (K : Nat) (mm : Memo) (ns' : List Node) : New K mm mm ns' := ⟨[], by simp, by simp⟩
theorem New.trans {K : Nat} {a b c : Memo} {ns ms : List Node} (h : New K a b ns) (hp : ns <+: ms) (k : New K b c ms) : New K a c ms := by
 obtain ⟨x, rfl, hx⟩ := h
 obtain ⟨y, rfl, hy⟩ := k
 refine ⟨x ++ y, by rw [List.append_assoc], fun p hm => ?_⟩
 rcases List.mem_append.1 hm with hm | hm
 ·obtain ⟨lv, h1, h2⟩ := hx p hm
  exact ⟨lv, h1, h2.pre hp⟩
 ·exact hy p hm
theorem look9_app : ∀ {mm add : Memo} {n j : Int}, (∀ p ∈ add, p.1 ≠ n) → look9 (mm ++ add) n j = look9 mm n j
 | [], [], n, j, _ => rfl
 | [], p :: add, n, j, h => by
  have h1 := h p List.mem_cons_self
  have ih := look9_app (mm := []) (n := n) (j := j) fun q hq => h q (List.mem_cons_of_mem _ hq)
  simp only [List.nil_append] at ih ⊢
  unfold look9
  rw [if_neg (fun e => h1 e.1), ih]
  rfl
 | p :: mm, add, n, j, h => by
  simp only [List.cons_append]
  unfold look9
  split
  ·rfl
  ·exact look9_app h
theorem New.look {K : Nat} {mm mm' : Memo} {ns' : List Node} (h : New K mm mm' ns') {lv : Nat} {n j : Int} (hn : IsN ns' (lv + 2) n) (hlv : K < lv) (hl : look9 mm n j = none) : look9 mm' n j = none := by
 obtain ⟨add, rfl, ha⟩ := h
 rw [look9_app, hl]
 rintro p hp rfl
 obtain ⟨lv', h1, h2⟩ := ha p hp
 have e1 := h2.2
 have e2 := hn.2
 omega
end R9
end Go.GL


namespace Go.GL
open R6 R7
namespace R9
/-! #### empty, grow -/
def growF (room d : Int) (ks : List Int) : LS → Int → L9 := fun s k => putS room s (bigK d k.toNat (ks.getD k.toNat default) 0) (bigK d k.toNat (ks.getD k.toNat default) 1) (bigK d k.toNat (ks.getD k.toNat default) 2) (bigK d k.toNat (ks.getD k.toNat default) 3)
def k4 : List Int := [0, 1, 2, 3]
/-! #### trim, power, run -/
/-- As Gd, of some level from 2 on. -/
structure Ge (room : Int) (s : LS) (r : L9) : Prop where
 lk : Lk room r.1
 pre : s.ns <+: r.1.ns
 is : ∃ k : Nat, IsN r.1.ns (k + 2) r.2.1
theorem Ge.trans {room : Int} {s t : LS} {r : L9} (h : Ge room t r) (hp : s.ns <+: t.ns) : Ge room s r := ⟨h.lk, hp.trans h.pre, h.is⟩
/-- The loop of power: grown i times. -/
def more (room : Int) (j : Int) : Nat → LS → Int → L9
 | 0, s, n => bindS (bindS (grow room s n) (grow room)) (growTo room j 64)
 | 1, s, n => bindS (grow room s n) (growTo room j 64)
 | i + 2, s, n => growTo room j (64 - i) s n
/-- As Ge, of some level from k + 2 on. -/
def Gk (room : Int) (s : LS) (r : L9) (k : Nat) : Prop := Lk room r.1 ∧ s.ns <+: r.1.ns ∧ ∃ k' : Nat, k ≤ k' ∧ IsN r.1.ns (k' + 2) r.2.1
theorem Gk.le {room : Int} {s : LS} {r : L9} {k k2 : Nat} (h : Gk room s r k) (hk : k2 ≤ k) : Gk room s r k2 := by
 obtain ⟨a, b, k', c, d⟩ := h
 exact ⟨a, b, k', by omega, d⟩
end R9
end Go.GL


namespace Go.GL
open R6 R7
namespace R9
/-! #### how many things are kept -/
theorem nodup_len : ∀ (N : Nat) (l : List Nat), l.Nodup → (∀ x ∈ l, x < N) → l.length ≤ N
 | 0, l, _, hb => by
  cases l with
  | nil => exact Nat.le_refl _
  | cons x l => exact absurd (hb x List.mem_cons_self) (by omega)
 | N + 1, l, hn, hb => by
  have h1 := nodup_len N (l.erase N) (hn.erase N) fun x hx => by
   have := (hn.mem_erase_iff).1 hx
   have h2 := hb x this.2
   have h3 := this.1
   omega
  by_cases hm : N ∈ l
  ·have := List.length_erase_of_mem hm
   omega
  ·rw [List.erase_of_not_mem hm] at h1
   omega
/-- No two things that are kept are of the same node and exponent. -/
def Kn (mm : Memo) : Prop := (mm.map fun p => (p.1, p.2.1)).Nodup ∧ ∀ p ∈ mm, 0 ≤ p.2.1 ∧ p.2.1 ≤ 1000000
theorem nodup_map {α β γ : Type} (f : α → β) (g : β → γ) (P : β → Prop) (hg : ∀ a b, P a → P b → g a = g b → a = b) : ∀ l : List α, (∀ x ∈ l, P (f x)) → (l.map f).Nodup → (l.map fun x => g (f x)).Nodup
 | [], _, _ => List.nodup_nil
 | x :: l, hp, hn => by
  simp only [List.map_cons, List.nodup_cons] at hn ⊢
  refine ⟨fun hm => hn.1 ?_, nodup_map f g P hg l (fun y hy => hp y (List.mem_cons_of_mem _ hy)) hn.2⟩
  obtain ⟨y, hy, e⟩ := List.mem_map.1 hm
  rw [← hg _ _ (hp y (List.mem_cons_of_mem _ hy)) (hp x List.mem_cons_self) e]
  exact List.mem_map_of_mem hy
theorem Kn.len {ns : List Node} {mm : Memo} (hm : MemOk ns mm) (hk : Kn mm) (h : ns.length ≤ 100000) : mm.length ≤ 1000000000000 := by
 have h1 := nodup_map (fun p : Int × Int × Int => (p.1, p.2.1)) (fun q : Int × Int => q.1.toNat * 1000001 + q.2.toNat) (fun q => 0 ≤ q.1 ∧ 0 ≤ q.2 ∧ q.2 ≤ 1000000) (fun a b ha hb e => by
  obtain ⟨a1, a2⟩ := a
  obtain ⟨b1, b2⟩ := b
  simp only at ha hb e
  have e1 : a1 = b1 := by omega
  have e2 : a2 = b2 := by omega
  rw [e1, e2]) mm (fun p hp => by
   obtain ⟨lv, a, b⟩ := hm p hp
   exact ⟨a.1.1, hk.2 p hp⟩) hk.1
 have h2 := nodup_len 1000000000000 _ h1 fun x hx => by
  obtain ⟨p, hp, rfl⟩ := List.mem_map.1 hx
  obtain ⟨lv, a, b⟩ := hm p hp
  have h3 := a.1.2
  have h4 := hk.2 p hp
  simp only
  omega
 rw [List.length_map] at h2
 exact h2
theorem look9_none : ∀ {mm : Memo} {n j : Int}, look9 mm n j = none → ∀ p ∈ mm, (p.1, p.2.1) ≠ (n, j)
 | p :: mm, n, j, h, q, hq, e => by
  unfold look9 at h
  split at h
  ·cases h
  ·rename_i h1
   rcases List.mem_cons.1 hq with rfl | hq
   ·exact h1 (by simpa using e)
   ·exact look9_none h q hq e
theorem Kn.snoc {mm : Memo} (h : Kn mm) {n j to : Int} (hl : look9 mm n j = none) (hj : 0 ≤ j ∧ j ≤ 1000000) : Kn (mm ++ [(n, j, to)]) := by
 constructor
 ·rw [List.map_append, List.nodup_append]
  refine ⟨h.1, by simp, fun a ha b hb e => ?_⟩
  obtain ⟨p, hp, rfl⟩ := List.mem_map.1 ha
  simp only [List.map_cons, List.map_nil, List.mem_singleton] at hb
  exact look9_none hl p hp (e.trans hb)
 ·intro p hp
  rcases List.mem_append.1 hp with hp | hp
  ·exact h.2 p hp
  ·rw [List.mem_singleton.1 hp]; exact hj
theorem Kn.nil : Kn [] := ⟨List.nodup_nil, fun p hp => by cases hp⟩
end R9
end Go.GL


namespace Go.GL
/-! ### What the laws of chapter 9 make of raw numbers -/
namespace RL
def fcell (v : Int) (r : Cell) : Cell := ⟨pk r.x (2 * R7.side v) - R7.side v, pk r.y (2 * R7.side v) - R7.side v⟩
def fset (v : Int) (raw : List Cell) : List Cell := R1.puts ((raw.take 30).map (fcell v))
def putN (rm : Int) (ns : List Node) (r : Five) : List Node := (R6.intern ns rm (pk r.r0 2) (pk r.r1 2) (pk r.r2 2) (pk r.r3 2)).1
def fstore (rm : Int) (nodes : List Five) : List Node := (nodes.take 10).foldl (putN rm) [R6.n0, R6.n1]
def fv (level : Int) : Int := 3 + pk level 3
def field (c : Int) (nodes : List Five) (raw : List Cell) (level : Int) : List Node × Int × Int := R7.make (fstore (room c) nodes) (room c + 600) (fset (fv level) raw) (fv level)
theorem fv_bd (level : Int) : 3 ≤ fv level ∧ fv level ≤ 5 := by
 have := pk_bd (c := level) (n := 3) (by omega)
 unfold fv; omega
theorem putN_good {rm : Int} (h2 : 2 ≤ rm) (h3 : rm ≤ 100000) {ns : List Node} (h : R6.Good ns rm) (r : Five) : R6.Good (putN rm ns r) rm := by
 unfold putN R6.intern
 split
 ·exact h.put _ _ _ _
 ·exact h
theorem store0_good9 {rm : Int} (h2 : 2 ≤ rm) (h3 : rm ≤ 100000) : R6.Good [R6.n0, R6.n1] rm := ⟨by unfold R6.Mod; decide, by decide, by omega⟩
theorem foldN_good {rm : Int} (h2 : 2 ≤ rm) (h3 : rm ≤ 100000) : ∀ (l : List Five) (ns : List Node), R6.Good ns rm → R6.Good (l.foldl (putN rm) ns) rm
 | [], ns, h => h
 | r :: l, ns, h => foldN_good h2 h3 l _ (putN_good h2 h3 h r)
theorem new_room9 (c : Int) : R6.new (2 + pk c 60) = ([R6.n0, R6.n1], room c) := by
 have := room_bd c
 unfold room at this
 exact if_neg (by omega)
end RL
theorem R6.Mod.rng9 {ns : List Node} (h : R6.Mod ns) : R6.Rng ns := fun x hx => by have := h x hx; omega
namespace R9
end R9
end Go.GL


namespace Go.GL
open Go.Proofs
attribute [local irreducible] wpList Code.wp Exit.then Exit.inBlock Ends Tri TriH OpV OpG FnC epf wpAnyH
variable {A : List Asrt} {I : List Chunk}
set_option maxRecDepth 100000 in
theorem law09_pick {c n : Int} (h0 : -9223372036854775808 ≤ c) (h1 : c ≤ 9223372036854775807) (hn : 0 < n) : FnC Try.prog 26 [.int .i64 c, .int .i64 n].toArray A I (fun v A' I' => v = .int .i64 (pk c n) ∧ A = A' ∧ I = I') := by
 refine fn_enter2 Try.func26 rfl Try.ntmps26 rfl fun w0 => ?_
 refine tS (tR (tA rfl rfl (tN (tT (tS (tS (tR ?_)))))))
 refine tM rfl rfl (yC rfl rfl (tN (tT ?_)))
 refine tri_cond_dec rfl (fun h => ?_) (fun h => ?_)
 ·refine tR (tM rfl rfl ?_)
  refine yU rfl rfl ?_
  refine tri_v (opv_negE rfl (by omega) (by omega)) rfl ?_
  refine tA rfl rfl (tN (tT (tS (tR (tM rfl rfl (tM rfl rfl ?_))))))
  refine tri_v (opv_remE rfl rfl (by omega) (by omega)) rfl ?_
  refine tA rfl rfl (tN (tT (tri_ret ?_)))
  refine tri_end A Suf.h rfl (.cons (rv_tmp rfl) .nil) ⟨?_, rfl, rfl⟩
  rw [pk, if_pos h]; rfl
 ·refine tri_skip (tT (tS (tR (tM rfl rfl (tM rfl rfl ?_)))))
  refine tri_v (opv_remE rfl rfl (by omega) (by omega)) rfl ?_
  refine tA rfl rfl (tN (tT (tri_ret ?_)))
  refine tri_end A Suf.h rfl (.cons (rv_tmp rfl) .nil) ⟨?_, rfl, rfl⟩
  rw [pk, if_neg h]; rfl
set_option maxRecDepth 100000 in
theorem law09_field {nodes : List Five} {raw : List Cell} {a a2 : Option Addr} {cap cap2 : Nat} {c level : Int} (h0 : I64 c) (hs : SlAt I a nodes) (hf : RL.Fs nodes) (hs2 : SlAt I a2 raw) (hc : RL.Cs raw) (hl : I64 level) :
  FnC Try.prog 10 [.int .i64 c, .slice a nodes.length cap, .slice a2 raw.length cap2, .int .i64 level].toArray A I (fun v A' I' => ∃ a' cap', v = .tuple [storeV a' (RL.field c nodes raw level).1.length cap' (RL.room c + 600), .int .i64 (RL.field c nodes raw level).2.1].toArray ∧ StA I' a' cap' (RL.field c nodes raw level).1 ∧ A = A' ∧ I ⊆ I') := by
 have hrm := RL.room_bd c
 have hpk := pk_bd (c := level) (n := 3) (by decide)
 have hfv := RL.fv_bd level
 have hfd : RL.field c nodes raw level = R7.make (RL.fstore (RL.room c) nodes) (RL.room c + 600) (RL.fset (RL.fv level) raw) (RL.fv level) := rfl
 have hpc := pk_bd (c := c) (n := 60) (by decide)
 skip
 refine fn_enter4 Try.func10 rfl Try.ntmps10 rfl fun w0 => ?_
 refine tS (tR ?_)
 refine tri_g opg_alloc rfl ?_
 rintro _ _ _ ⟨b8, rfl, rfl, rfl⟩
 refine tA rfl rfl (tN (tT (tS (tR (tM rfl rfl ?_)))))
 refine tri_g (opg_call (xs := [_, _]) rfl (law09_pick hl.1 hl.2 (by decide))) rfl ?_
 rintro _ _ _ ⟨rfl, rfl, rfl⟩
 refine yU rfl rfl ?_
 refine tA rfl rfl (tN (tT (tS (tR (tA rfl rfl (tN (tT ?_)))))))
 refine tS (tS (tR (tA rfl rfl (tN (tT ?_)))))
 rw [show (3 : Int) + pk level 3 = RL.fv level from rfl]
 generalize RL.fv level = v at *
 have hsd := R7.side_bd (lv := v) (by omega)
 have hsq : (2 : Int) ^ (v - 1).toNat = R7.side v := rfl
 refine tri_cut (fun F' A' J => ∃ (a1 : Option Addr) (c1 : Nat), F' = [(0, .int .i64 c), (1, .slice a nodes.length cap), (8, pt b8 0), (10, .int .i64 v), (11, .slice a1 (RL.fset v raw).length c1)] ∧ A' = Box b8 [.slice none 0 0, .int .i64 0] 26 :: A ∧ SlAt J a1 (RL.fset v raw) ∧ I ⊆ J) ?_ ?_
 ·refine tri_block ?_
  refine tri_sub (F' := [(0, .int .i64 c), (1, .slice a nodes.length cap), (2, .slice a2 raw.length cap2), (8, pt b8 0), (10, .int .i64 v), (11, .slice none 0 0), (12, .int .i64 (0 : Nat))]) ⟨rfl, rfl, rfl, rfl, rfl, rfl, rfl, trivial⟩ ?_
  refine loop_ind (G := Nat × Option Addr × Nat × List Chunk) (fun g => 30 - g.1) (fun g => g.1 ≤ raw.length ∧ g.1 ≤ 30 ∧ SlAt g.2.2.2 g.2.1 (R1.puts ((raw.take g.1).map (RL.fcell v))) ∧ I ⊆ g.2.2.2) (fun g => [(0, .int .i64 c), (1, .slice a nodes.length cap), (2, .slice a2 raw.length cap2), (8, pt b8 0), (10, .int .i64 v), (11, .slice g.2.1 (R1.puts ((raw.take g.1).map (RL.fcell v))).length g.2.2.1), (12, .int .i64 (g.1 : Nat))]) (fun _ => Box b8 [.slice none 0 0, .int .i64 0] 26 :: A) (fun g => g.2.2.2) ?_ (0, none, 0, I) ⟨by omega, by omega, SlAt.nil, fun _ h => h⟩
  rintro ⟨i, a1, cap1, I1⟩ ⟨hi, hi6, hs1, hI1⟩ K hK
  simp only at hi hi6 hs1 hI1 hK ⊢
  have hsm : SlAt I1 a2 raw := hs2.mono hI1
  have fin : i = raw.length ∨ i = 30 → RL.fset v raw = R1.puts ((raw.take i).map (RL.fcell v)) := by
   rintro (rfl | rfl)
   ·unfold RL.fset
    rw [List.take_length, List.take_of_length_le (by omega)]
   ·rfl
  skip
  refine tS (tS (tR (tM rfl rfl (tM rfl rfl ?_))))
  refine tri_v (opv_len rfl) rfl ?_
  refine yC rfl rfl (tM rfl rfl ?_)
  refine tri_split rfl rfl (fun h => ?_) (fun h => ?_)
  ·refine yR rfl rfl (tM rfl rfl (yR rfl rfl (yC rfl rfl ?_)))
   refine tri_v (opv_pick_t rfl rfl) rfl ?_
   refine tN (tT ?_)
   refine tri_cond_dec rfl (fun h2 => ?_) (fun h2 => ?_)
   ·refine tri_skip (tT (tS (tri_block (tS (tR (tM rfl rfl ?_))))))
    refine tri_v (opv_sub rfl rfl (w64 (by omega) (by omega))) rfl ?_
    refine tri_v (opv_shl1 rfl rfl (by omega) (by omega)) rfl ?_
    refine tA rfl rfl (tN (tT ?_))
    rw [hsq]
    have hlt : i < raw.length := by omega
    have hci := hc i hlt
    have hcx := hci.1
    have hcy := hci.2
    have px := pk_bd (c := (raw.getD i default).x) (n := 2 * R7.side v) (by omega)
    have py := pk_bd (c := (raw.getD i default).y) (n := 2 * R7.side v) (by omega)
    have hl1 := R1.puts_len ((raw.take i).map (RL.fcell v))
    rw [List.length_map, List.length_take] at hl1
    refine tri_draw [0, 1, 2, 3, 4, 5, 6, 7, 9, 11, 12, 13, 14, 15, 16, 17, 19, 8, 10, 18, 20, 21, 22, 23] rfl [] rfl mixed ?_
    refine yM rfl rfl (yM rfl rfl (yM rfl rfl ?_))
    refine th_take rfl rfl (by kernel_rfl)  (opv_indexAddrSN rfl rfl (by omega) (by assumption) rfl) ?_
    refine th_take rfl rfl (by kernel_rfl)  (opv_indexAddrE rfl (by assumption) (by omega) rfl (by decide) (by decide)) ?_
    refine th_take rfl rfl (by kernel_rfl)  (opv_loadE1 rfl (by assumption) rfl (by omega) rfl rfl) ?_
    refine yM rfl rfl ?_
    refine th_take rfl rfl (by kernel_rfl)  (opv_mul rfl rfl (w64 (by omega) (by omega))) ?_
    refine yM rfl rfl (yM rfl rfl (yM rfl rfl ?_))
    refine th_take rfl rfl (by kernel_rfl)  (opv_indexAddrSN rfl rfl (by omega) (by assumption) rfl) ?_
    refine th_take rfl rfl (by kernel_rfl)  (opv_indexAddrE rfl (by assumption) (by omega) rfl (by decide) (by decide)) ?_
    refine th_take rfl rfl (by kernel_rfl)  (opv_loadE1 rfl (by assumption) rfl (by omega) rfl rfl) ?_
    refine yM rfl rfl ?_
    refine th_take rfl rfl (by kernel_rfl)  (opv_mul rfl rfl (w64 (by omega) (by omega))) ?_
    refine yM rfl rfl ?_
    refine th_one (by kernel_rfl) (step_m rfl rfl (opg_call (xs := [_, _]) rfl (law09_pick (c := (raw.getD i default).x) hcx.1 hcx.2 (by omega))) ?_)
    rintro _ _ _ ⟨rfl, rfl, rfl⟩
    refine ⟨Suf.h, (fun _ h => h), ?_⟩
    refine th_take rfl rfl (by kernel_rfl)  (opv_sub rfl rfl (w64 (by omega) (by omega))) ?_
    refine th_one (by kernel_rfl) (step_m rfl rfl (opg_call (xs := [_, _]) rfl (law09_pick (c := (raw.getD i default).y) hcy.1 hcy.2 (by omega))) ?_)
    rintro _ _ _ ⟨rfl, rfl, rfl⟩
    refine ⟨Suf.h, (fun _ h => h), ?_⟩
    refine th_take rfl rfl (by kernel_rfl)  (opv_sub rfl rfl (w64 (by omega) (by omega))) ?_
    refine th_take rfl rfl (by kernel_rfl)  (opv_buildS rfl rfl) ?_
    refine th_one (by kernel_rfl) (step_m rfl rfl (opg_call (xs := [_, _]) rfl (ref01_put (c := RL.fcell v (raw.getD i default)) hs1 (by omega))) ?_)
    rintro _ _ I2 ⟨a3, cap3, rfl, hs3, rfl, hI2⟩
    refine ⟨Suf.h, (by assumption), ?_⟩
    refine yA rfl rfl (yD (tri_inBlock (tT (tR (tM rfl rfl ?_)))))
    refine yU rfl rfl ?_
    refine tA rfl rfl (tN (tT ?_))
    have e : R1.puts ((raw.take (i + 1)).map (RL.fcell v)) = R1.put (R1.puts ((raw.take i).map (RL.fcell v))) (RL.fcell v (raw.getD i default)) := by
     rw [← R1.puts_snoc, List.take_succ_eq_append_getElem hlt, List.map_append, show raw.getD i default = raw[i] by simp [hlt]]; rfl
    refine tri_sub ?_ (hK (i + 1, a3, cap3, I2) ⟨by simp only; omega, by simp only; omega, by simp only [e]; exact hs3, fun _ h => hI2 (hI1 h)⟩ (by simp only; omega))
    simp only [e]
    exact ⟨rfl, rfl, rfl, rfl, rfl, rfl, rfl, trivial⟩
   ·refine tri_exit ?_
    refine tri_then_exit (tri_then_exit ?_)
    refine tri_inBlock_hit rfl ?_
    rw [← fin (by omega)] at hs1
    refine tri_cutEnd _ ⟨a1, cap1, rfl, rfl, hs1, hI1⟩ ⟨rfl, rfl, rfl, rfl, ?_, trivial⟩
    rw [fin (by omega)]; rfl
  ·refine tri_guard_skip rfl rfl rfl rfl (tri_guard_skip rfl rfl rfl rfl ?_)
   refine tri_v (opv_pick_f rfl rfl) rfl ?_
   refine tN (tT ?_)
   refine tri_cond_false rfl ?_
   refine tri_exit ?_
   refine tri_then_exit (tri_then_exit ?_)
   refine tri_inBlock_hit rfl ?_
   rw [← fin (by omega)] at hs1
   refine tri_cutEnd _ ⟨a1, cap1, rfl, rfl, hs1, hI1⟩ ⟨rfl, rfl, rfl, rfl, ?_, trivial⟩
   rw [fin (by omega)]; rfl
 rintro _ _ I1 ⟨a1, cap1, rfl, rfl, hset, hI1⟩
 skip
 refine tT (tS (tR (tM rfl rfl ?_)))
 have hsl : (RL.fset v raw).length ≤ 30 := by
  unfold RL.fset
  have h := R1.puts_len ((raw.take 30).map (RL.fcell v))
  rw [List.length_map, List.length_take] at h
  omega
 generalize hset' : RL.fset v raw = st at *
 skip
 refine tri_g (opg_call (xs := [_, _]) rfl (law09_pick h0.1 h0.2 (by decide))) rfl ?_
 rintro _ _ _ ⟨rfl, rfl, rfl⟩
 refine yU rfl rfl ?_
 refine tri_g (opg_call (xs := [_]) rfl (ref06_new)) rfl ?_
 rintro _ _ I2 ⟨a3, cap3, rfl, hs3, rfl, hI2⟩
 rw [RL.new_room9] at hs3 ⊢
 refine tri_g opg_alloc rfl ?_
 rintro _ _ _ ⟨b14, rfl, rfl, rfl⟩
 refine yG rfl rfl rfl rfl rfl rfl ?_
 rintro _ _ _ ⟨rfl, rfl⟩
 refine tN (tT (tS (tS (tR (tA rfl rfl (tN (tT ?_)))))))
 have hrmb : 2 + pk c 60 = RL.room c := rfl
 generalize RL.room c = rm at *
 refine tri_cut (fun F' A' J => ∃ (a4 : Option Addr) (c4 : Nat), F' = [(8, pt b8 0), (10, .int .i64 v), (11, .slice a1 st.length cap1), (14, pt b14 0)] ∧ A' = Box b14 [.slice a4 (RL.fstore rm nodes).length c4, .int .i64 rm] 26 :: Box b8 [.slice none 0 0, .int .i64 0] 26 :: A ∧ StA J a4 c4 (RL.fstore rm nodes) ∧ I2 ⊆ J) ?_ ?_
 ·refine tri_block ?_
  refine tri_sub (F' := [(1, .slice a nodes.length cap), (8, pt b8 0), (10, .int .i64 v), (11, .slice a1 st.length cap1), (14, pt b14 0), (15, .int .i64 (0 : Nat))]) ⟨rfl, rfl, rfl, rfl, rfl, rfl, trivial⟩ ?_
  refine loop_ind (G := Nat × Option Addr × Nat × List Chunk) (fun g => 10 - g.1) (fun g => g.1 ≤ nodes.length ∧ g.1 ≤ 10 ∧ StA g.2.2.2 g.2.1 g.2.2.1 ((nodes.take g.1).foldl (RL.putN rm) [R6.n0, R6.n1]) ∧ I2 ⊆ g.2.2.2) (fun g => [(1, .slice a nodes.length cap), (8, pt b8 0), (10, .int .i64 v), (11, .slice a1 st.length cap1), (14, pt b14 0), (15, .int .i64 (g.1 : Nat))]) (fun g => Box b14 [.slice g.2.1 ((nodes.take g.1).foldl (RL.putN rm) [R6.n0, R6.n1]).length g.2.2.1, .int .i64 rm] 26 :: Box b8 [.slice none 0 0, .int .i64 0] 26 :: A) (fun g => g.2.2.2) ?_ (0, a3, cap3, I2) ⟨by omega, by omega, hs3, fun _ h => h⟩
  rintro ⟨i, a4, cap4, I3⟩ ⟨hi, hi4, hs4, hI3⟩ K hK
  simp only at hi hi4 hs4 hI3 hK ⊢
  have hsm : SlAt I3 a nodes := (hs.mono hI1).mono (fun _ h => hI3 (hI2 h))
  have fin : i = nodes.length ∨ i = 10 → RL.fstore rm nodes = (nodes.take i).foldl (RL.putN rm) [R6.n0, R6.n1] := by
   rintro (rfl | rfl)
   ·unfold RL.fstore
    rw [List.take_length, List.take_of_length_le (by omega)]
   ·rfl
  have hg := RL.foldN_good (rm := rm) (by omega) (by omega) (nodes.take i) _ (RL.store0_good9 (by omega) (by omega))
  have e : ∀ h : i < nodes.length, (nodes.take (i + 1)).foldl (RL.putN rm) [R6.n0, R6.n1] = RL.putN rm ((nodes.take i).foldl (RL.putN rm) [R6.n0, R6.n1]) (nodes.getD i default) := fun h => by
   rw [List.take_succ_eq_append_getElem h, List.foldl_append, show nodes.getD i default = nodes[i] by simp [h]]; rfl
  generalize hns : (nodes.take i).foldl (RL.putN rm) [R6.n0, R6.n1] = ns at *
  skip
  refine tS (tS (tR (tM rfl rfl (tM rfl rfl ?_))))
  refine tri_v (opv_len rfl) rfl ?_
  refine yC rfl rfl (tM rfl rfl ?_)
  refine tri_split rfl rfl (fun h => ?_) (fun h => ?_)
  ·refine yR rfl rfl (tM rfl rfl (yR rfl rfl (yC rfl rfl ?_)))
   refine tri_v (opv_pick_t rfl rfl) rfl ?_
   refine tN (tT ?_)
   refine tri_cond_dec rfl (fun h2 => ?_) (fun h2 => ?_)
   ·have hlt : i < nodes.length := by omega
    have hfi := hf i hlt
    have es := e hlt
    refine tri_skip (tT (tS (tri_block ?_)))
    refine tri_cut (fun F' A' J => ∃ (a5 : Option Addr) (c5 : Nat), F' = [(1, .slice a nodes.length cap), (8, pt b8 0), (10, .int .i64 v), (11, .slice a1 st.length cap1), (14, pt b14 0), (15, .int .i64 (i : Nat))] ∧ A' = Box b14 [.slice a5 (RL.putN rm ns (nodes.getD i default)).length c5, .int .i64 rm] 26 :: Box b8 [.slice none 0 0, .int .i64 0] 26 :: A ∧ StA J a5 c5 (RL.putN rm ns (nodes.getD i default)) ∧ I3 ⊆ J) ?_ ?_
    ·skip
     refine tri_draw [1, 2, 3, 4, 5, 7, 8, 9, 10, 11, 13, 14, 15, 16, 17, 19, 20, 21, 22, 23, 0, 6, 12, 18, 24, 25, 26, 27, 28, 29, 30, 31] rfl [_] rfl mixed ?_
     refine yM rfl rfl (yM rfl rfl ?_)
     refine th_take rfl rfl (by kernel_rfl)  (opv_indexAddrSN rfl rfl (by omega) (by assumption) rfl) ?_
     refine th_take rfl rfl (by kernel_rfl)  (opv_indexAddrE rfl (by assumption) (by omega) rfl (by decide) (by decide)) ?_
     refine th_take rfl rfl (by kernel_rfl)  (opv_loadE1 rfl (by assumption) rfl (by omega) rfl rfl) ?_
     refine yM rfl rfl (yM rfl rfl ?_)
     refine th_take rfl rfl (by kernel_rfl)  (opv_indexAddrSN rfl rfl (by omega) (by assumption) rfl) ?_
     refine th_take rfl rfl (by kernel_rfl)  (opv_indexAddrE rfl (by assumption) (by omega) rfl (by decide) (by decide)) ?_
     refine th_take rfl rfl (by kernel_rfl)  (opv_loadE1 rfl (by assumption) rfl (by omega) rfl rfl) ?_
     refine yM rfl rfl (yM rfl rfl ?_)
     refine th_take rfl rfl (by kernel_rfl)  (opv_indexAddrSN rfl rfl (by omega) (by assumption) rfl) ?_
     refine th_take rfl rfl (by kernel_rfl)  (opv_indexAddrE rfl (by assumption) (by omega) rfl (by decide) (by decide)) ?_
     refine th_take rfl rfl (by kernel_rfl)  (opv_loadE1 rfl (by assumption) rfl (by omega) rfl rfl) ?_
     refine yM rfl rfl (yM rfl rfl ?_)
     refine th_take rfl rfl (by kernel_rfl)  (opv_indexAddrSN rfl rfl (by omega) (by assumption) rfl) ?_
     refine th_take rfl rfl (by kernel_rfl)  (opv_indexAddrE rfl (by assumption) (by omega) rfl (by decide) (by decide)) ?_
     refine th_take rfl rfl (by kernel_rfl)  (opv_loadE1 rfl (by assumption) rfl (by omega) rfl rfl) ?_
     refine th_two (j := 6) [0, 12, 18, 24, 25, 26, 27, 28, 29, 30, 31] (by kernel_rfl) rfl ?_ ?_
     ·refine (step_m rfl rfl (OpV.toG (opv_loadA rfl rfl rfl)) ?_)
      rintro _ _ _ ⟨rfl, rfl, rfl⟩
      refine ⟨Suf.h, (fun _ h => h), ?_⟩
      refine th_one (by kernel_rfl) (step_m rfl rfl (opg_call (xs := [_, _]) rfl (law09_pick hfi.1.1 hfi.1.2 (by decide))) ?_)
      rintro _ _ _ ⟨rfl, rfl, rfl⟩
      refine ⟨Suf.h, fun _ h => h, ?_⟩
      refine th_one (by kernel_rfl) (step_m rfl rfl (opg_call (xs := [_, _]) rfl (law09_pick hfi.2.1.1 hfi.2.1.2 (by decide))) ?_)
      rintro _ _ _ ⟨rfl, rfl, rfl⟩
      refine ⟨Suf.h, fun _ h => h, ?_⟩
      refine th_one (by kernel_rfl) (step_m rfl rfl (opg_call (xs := [_, _]) rfl (law09_pick hfi.2.2.1.1 hfi.2.2.1.2 (by decide))) ?_)
      rintro _ _ _ ⟨rfl, rfl, rfl⟩
      refine ⟨Suf.h, fun _ h => h, ?_⟩
      refine th_one (by kernel_rfl) (step_m rfl rfl (opg_call (xs := [_, _]) rfl (law09_pick hfi.2.2.2.1.1 hfi.2.2.2.1.2 (by decide))) ?_)
      rintro _ _ _ ⟨rfl, rfl, rfl⟩
      refine ⟨Suf.h, fun _ h => h, ?_⟩
      refine th_take rfl rfl (by kernel_rfl)  (opv_buildA rfl rfl) ?_
      refine th_one (by kernel_rfl) (step_m rfl rfl (opg_call (xs := [_, _]) rfl (ref06_intern (room := rm) hs4 hg.len hg.mod.rng9)) ?_)
      rintro _ _ I4 ⟨a5, cap5, rfl, hs5, rfl, hI4⟩
      refine ⟨Suf.h, fun _ h => hI4 h, ?_⟩
      refine yM rfl rfl (yE rfl rfl rfl (yE rfl rfl rfl (yE rfl rfl rfl ?_)))
      refine th_one (by kernel_rfl) (step_m rfl rfl (opg_store rfl rfl rfl rfl rfl rfl) ?_)
      rintro _ _ _ ⟨rfl, rfl⟩
      refine ⟨Suf.h, (by assumption), ?_⟩
      refine yD ?_
      exact tri_cutEnd _ ⟨a5, cap5, rfl, rfl, hs5, hI4⟩ ⟨rfl, rfl, rfl, rfl, rfl, rfl, trivial⟩
     ·refine (step_m rfl rfl (opg_call (xs := [_, _]) rfl (law09_pick hfi.1.1 hfi.1.2 (by decide))) ?_)
      rintro _ _ _ ⟨rfl, rfl, rfl⟩
      refine ⟨Suf.h, fun _ h => h, ?_⟩
      refine th_two (j := 12) [0, 18, 24, 25, 26, 27, 28, 29, 30, 31] (by kernel_rfl) rfl ?_ ?_
      ·refine (step_m rfl rfl (OpV.toG (opv_loadA rfl rfl rfl)) ?_)
       rintro _ _ _ ⟨rfl, rfl, rfl⟩
       refine ⟨Suf.h, (fun _ h => h), ?_⟩
       refine th_one (by kernel_rfl) (step_m rfl rfl (opg_call (xs := [_, _]) rfl (law09_pick hfi.2.1.1 hfi.2.1.2 (by decide))) ?_)
       rintro _ _ _ ⟨rfl, rfl, rfl⟩
       refine ⟨Suf.h, fun _ h => h, ?_⟩
       refine th_one (by kernel_rfl) (step_m rfl rfl (opg_call (xs := [_, _]) rfl (law09_pick hfi.2.2.1.1 hfi.2.2.1.2 (by decide))) ?_)
       rintro _ _ _ ⟨rfl, rfl, rfl⟩
       refine ⟨Suf.h, fun _ h => h, ?_⟩
       refine th_one (by kernel_rfl) (step_m rfl rfl (opg_call (xs := [_, _]) rfl (law09_pick hfi.2.2.2.1.1 hfi.2.2.2.1.2 (by decide))) ?_)
       rintro _ _ _ ⟨rfl, rfl, rfl⟩
       refine ⟨Suf.h, fun _ h => h, ?_⟩
       refine th_take rfl rfl (by kernel_rfl)  (opv_buildA rfl rfl) ?_
       refine th_one (by kernel_rfl) (step_m rfl rfl (opg_call (xs := [_, _]) rfl (ref06_intern (room := rm) hs4 hg.len hg.mod.rng9)) ?_)
       rintro _ _ I4 ⟨a5, cap5, rfl, hs5, rfl, hI4⟩
       refine ⟨Suf.h, fun _ h => hI4 h, ?_⟩
       refine yM rfl rfl (yE rfl rfl rfl (yE rfl rfl rfl (yE rfl rfl rfl ?_)))
       refine th_one (by kernel_rfl) (step_m rfl rfl (opg_store rfl rfl rfl rfl rfl rfl) ?_)
       rintro _ _ _ ⟨rfl, rfl⟩
       refine ⟨Suf.h, (by assumption), ?_⟩
       refine yD ?_
       exact tri_cutEnd _ ⟨a5, cap5, rfl, rfl, hs5, hI4⟩ ⟨rfl, rfl, rfl, rfl, rfl, rfl, trivial⟩
      ·refine (step_m rfl rfl (opg_call (xs := [_, _]) rfl (law09_pick hfi.2.1.1 hfi.2.1.2 (by decide))) ?_)
       rintro _ _ _ ⟨rfl, rfl, rfl⟩
       refine ⟨Suf.h, fun _ h => h, ?_⟩
       refine th_two (j := 18) [0, 24, 25, 26, 27, 28, 29, 30, 31] (by kernel_rfl) rfl ?_ ?_
       ·refine (step_m rfl rfl (OpV.toG (opv_loadA rfl rfl rfl)) ?_)
        rintro _ _ _ ⟨rfl, rfl, rfl⟩
        refine ⟨Suf.h, (fun _ h => h), ?_⟩
        refine th_one (by kernel_rfl) (step_m rfl rfl (opg_call (xs := [_, _]) rfl (law09_pick hfi.2.2.1.1 hfi.2.2.1.2 (by decide))) ?_)
        rintro _ _ _ ⟨rfl, rfl, rfl⟩
        refine ⟨Suf.h, fun _ h => h, ?_⟩
        refine th_one (by kernel_rfl) (step_m rfl rfl (opg_call (xs := [_, _]) rfl (law09_pick hfi.2.2.2.1.1 hfi.2.2.2.1.2 (by decide))) ?_)
        rintro _ _ _ ⟨rfl, rfl, rfl⟩
        refine ⟨Suf.h, fun _ h => h, ?_⟩
        refine th_take rfl rfl (by kernel_rfl)  (opv_buildA rfl rfl) ?_
        refine th_one (by kernel_rfl) (step_m rfl rfl (opg_call (xs := [_, _]) rfl (ref06_intern (room := rm) hs4 hg.len hg.mod.rng9)) ?_)
        rintro _ _ I4 ⟨a5, cap5, rfl, hs5, rfl, hI4⟩
        refine ⟨Suf.h, fun _ h => hI4 h, ?_⟩
        refine yM rfl rfl (yE rfl rfl rfl (yE rfl rfl rfl (yE rfl rfl rfl ?_)))
        refine th_one (by kernel_rfl) (step_m rfl rfl (opg_store rfl rfl rfl rfl rfl rfl) ?_)
        rintro _ _ _ ⟨rfl, rfl⟩
        refine ⟨Suf.h, (by assumption), ?_⟩
        refine yD ?_
        exact tri_cutEnd _ ⟨a5, cap5, rfl, rfl, hs5, hI4⟩ ⟨rfl, rfl, rfl, rfl, rfl, rfl, trivial⟩
       ·refine (step_m rfl rfl (opg_call (xs := [_, _]) rfl (law09_pick hfi.2.2.1.1 hfi.2.2.1.2 (by decide))) ?_)
        rintro _ _ _ ⟨rfl, rfl, rfl⟩
        refine ⟨Suf.h, fun _ h => h, ?_⟩
        refine th_two (j := 24) [25, 0, 26, 27, 28, 29, 30, 31] (by kernel_rfl) rfl ?_ ?_
        ·refine (step_m rfl rfl (OpV.toG (opv_loadA rfl rfl rfl)) ?_)
         rintro _ _ _ ⟨rfl, rfl, rfl⟩
         refine ⟨Suf.h, (fun _ h => h), ?_⟩
         refine th_one (by kernel_rfl) (step_m rfl rfl (opg_call (xs := [_, _]) rfl (law09_pick hfi.2.2.2.1.1 hfi.2.2.2.1.2 (by decide))) ?_)
         rintro _ _ _ ⟨rfl, rfl, rfl⟩
         refine ⟨Suf.h, fun _ h => h, ?_⟩
         refine th_take rfl rfl (by kernel_rfl)  (opv_buildA rfl rfl) ?_
         refine th_one (by kernel_rfl) (step_m rfl rfl (opg_call (xs := [_, _]) rfl (ref06_intern (room := rm) hs4 hg.len hg.mod.rng9)) ?_)
         rintro _ _ I4 ⟨a5, cap5, rfl, hs5, rfl, hI4⟩
         refine ⟨Suf.h, fun _ h => hI4 h, ?_⟩
         refine yM rfl rfl (yE rfl rfl rfl (yE rfl rfl rfl (yE rfl rfl rfl ?_)))
         refine th_one (by kernel_rfl) (step_m rfl rfl (opg_store rfl rfl rfl rfl rfl rfl) ?_)
         rintro _ _ _ ⟨rfl, rfl⟩
         refine ⟨Suf.h, (by assumption), ?_⟩
         refine yD ?_
         exact tri_cutEnd _ ⟨a5, cap5, rfl, rfl, hs5, hI4⟩ ⟨rfl, rfl, rfl, rfl, rfl, rfl, trivial⟩
        ·refine (step_m rfl rfl (opg_call (xs := [_, _]) rfl (law09_pick hfi.2.2.2.1.1 hfi.2.2.2.1.2 (by decide))) ?_)
         rintro _ _ _ ⟨rfl, rfl, rfl⟩
         refine ⟨Suf.h, fun _ h => h, ?_⟩
         refine th_take rfl rfl (by kernel_rfl)  (opv_buildA rfl rfl) ?_
         refine th_one (by kernel_rfl) (step_m rfl rfl (OpV.toG (opv_loadA rfl rfl rfl)) ?_)
         rintro _ _ _ ⟨rfl, rfl, rfl⟩
         refine ⟨Suf.h, (fun _ h => h), ?_⟩
         refine th_one (by kernel_rfl) (step_m rfl rfl (opg_call (xs := [_, _]) rfl (ref06_intern (room := rm) hs4 hg.len hg.mod.rng9)) ?_)
         rintro _ _ I4 ⟨a5, cap5, rfl, hs5, rfl, hI4⟩
         refine ⟨Suf.h, fun _ h => hI4 h, ?_⟩
         refine yM rfl rfl (yE rfl rfl rfl (yE rfl rfl rfl (yE rfl rfl rfl ?_)))
         refine th_one (by kernel_rfl) (step_m rfl rfl (opg_store rfl rfl rfl rfl rfl rfl) ?_)
         rintro _ _ _ ⟨rfl, rfl⟩
         refine ⟨Suf.h, (by assumption), ?_⟩
         refine yD ?_
         exact tri_cutEnd _ ⟨a5, cap5, rfl, rfl, hs5, hI4⟩ ⟨rfl, rfl, rfl, rfl, rfl, rfl, trivial⟩
    rintro _ _ I4 ⟨a5, cap5, rfl, rfl, hs5, hI4⟩
    skip
    refine tri_inBlock (tT (tR (tM rfl rfl ?_)))
    refine yU rfl rfl ?_
    refine tA rfl rfl (tN (tT ?_))
    skip
    have hk2 := hK (i + 1, a5, cap5, I4) ⟨by simp only; omega, by simp only; omega, by simp only [es]; exact hs5, fun _ h => hI4 (hI3 h)⟩ (by simp only; omega)
    simp only [es] at hk2
    refine tri_sub ?_ hk2
    exact ⟨rfl, rfl, rfl, rfl, rfl, rfl, trivial⟩
   ·refine tri_exit ?_
    refine tri_then_exit (tri_then_exit ?_)
    refine tri_inBlock_hit rfl ?_
    rw [← fin (by omega)] at hs4
    refine tri_cutEnd _ ⟨a4, cap4, rfl, ?_, hs4, hI3⟩ ⟨rfl, rfl, rfl, rfl, trivial⟩
    rw [fin (by omega)]
  ·refine tri_guard_skip rfl rfl rfl rfl (tri_guard_skip rfl rfl rfl rfl ?_)
   refine tri_v (opv_pick_f rfl rfl) rfl ?_
   refine tN (tT ?_)
   refine tri_cond_false rfl ?_
   refine tri_exit ?_
   refine tri_then_exit (tri_then_exit ?_)
   refine tri_inBlock_hit rfl ?_
   rw [← fin (by omega)] at hs4
   refine tri_cutEnd _ ⟨a4, cap4, rfl, ?_, hs4, hI3⟩ ⟨rfl, rfl, rfl, rfl, trivial⟩
   rw [fin (by omega)]
 rintro _ _ I3 ⟨a4, cap4, rfl, rfl, hs4, hI3⟩
 skip
 refine tT (tS (tR (yF rfl ?_)))
 refine yL rfl rfl ?_
 refine yU rfl rfl ?_
 refine yF rfl ?_
 refine yG rfl rfl rfl rfl rfl rfl ?_
 rintro _ _ _ ⟨rfl, rfl⟩
 refine tN (tT (tS (tR ?_)))
 refine yB rfl rfl ?_
 refine tM rfl rfl (tM rfl rfl ?_)
 have hg := RL.foldN_good (rm := rm) (by omega) (by omega) (nodes.take 10) _ (RL.store0_good9 (by omega) (by omega))
 have hset3 := (hset.mono hI2).mono hI3
 skip
 refine tri_g (opg_call (xs := [_, _, _]) rfl (ref07_make (room := rm + 600) (lv := v) hs4 hg.len hg.mod.rng9 hset3 (by omega))) rfl ?_
 rintro _ _ I4 ⟨a5, cap5, rfl, hs5, rfl, hI4⟩
 refine tM rfl rfl ?_
 refine tri_v (opv_extract rfl rfl) rfl ?_
 refine tri_v (opv_extract rfl rfl) rfl ?_
 refine tri_v (opv_extract rfl rfl) rfl ?_
 refine tri_g opg_alloc rfl ?_
 rintro _ _ _ ⟨b16, rfl, rfl, rfl⟩
 refine yG rfl rfl rfl rfl rfl rfl ?_
 rintro _ _ _ ⟨rfl, rfl⟩
 refine tA rfl rfl (tA rfl rfl (tN (tT (tS (tR ?_)))))
 refine yB rfl rfl ?_
 refine tM rfl rfl ?_
 refine yG rfl rfl rfl rfl rfl rfl ?_
 rintro _ _ _ ⟨rfl, rfl⟩
 refine tA rfl rfl (tN (tT (tri_ret ?_)))
 refine tri_end A Suf.h rfl (.cons (rv_cellA rfl rfl rfl) (.cons (rv_tmp rfl) .nil)) ⟨a5, cap5, ?_, ?_, rfl, fun _ h => hI4 (hI3 (hI2 (hI1 h)))⟩
 ·rw [hfd]; rfl
 ·rw [hfd]; exact hs5
end Go.GL


namespace Go.GL
open Go.Proofs
attribute [local irreducible] wpList Code.wp Exit.then Exit.inBlock Ends Tri TriH OpV OpG FnC epf wpAnyH
theorem R6.right.kidN {ns : List Node} {room : Int} (h : R6.right ns room) {n : Int} (hn : R6.inS ns n) {m : Nat} (hl : (R6.nd ns n).lv = ((m + 1 : Nat) : Int)) {q : Int} (hq : q ∈ (R6.nd ns n).kids) : R6.inS ns q ∧ q < n ∧ (R6.nd ns q).lv = m := by
 have h0 := h.1.2.2.2.2.1
 have h1 := h.1.2.2.2.2.2
 obtain ⟨hn0, hn1⟩ := hn
 have h2 : 2 ≤ n.toNat := by
  rcases Nat.lt_or_ge n.toNat 2 with h3 | h3
  ·exfalso
   rcases (by omega : n.toNat = 0 ∨ n.toNat = 1) with e | e
   ·unfold R6.nd at hl; rw [e, h0] at hl; simp [R6.n0] at hl; omega
   ·unfold R6.nd at hl; rw [e, h1] at hl; simp [R6.n1] at hl; omega
  ·exact h3
 obtain ⟨k0, k1, k2, k3, _⟩ := h.2 n.toNat (by omega) h2
 have key : R6.kidOk ns n.toNat q (R6.nd ns n).lv := by
  unfold Node.kids at hq
  simp only [List.mem_cons, List.not_mem_nil, or_false] at hq
  rcases hq with rfl | rfl | rfl | rfl
  ·exact k0
  ·exact k1
  ·exact k2
  ·exact k3
 obtain ⟨g1, g2, g3⟩ := key
 exact ⟨⟨g1, by omega⟩, by omega, by omega⟩
def FlatSpec (lv : Nat) : Prop := ∀ (A : List Asrt) (I : List Chunk) (ns : List Node) (a : Option Addr) (cap : Nat) (room n cx cy : Int) (c : Cell) (r : List Cell), cx = c.x → cy = c.y → R6.right ns room → SlAt I a ns → R6.inS ns n → (R6.nd ns n).lv = lv →
 -1152921504606846976 ≤ c.x ∧ c.x + 2 ^ lv ≤ 1152921504606846976 ∧ -1152921504606846976 ≤ c.y ∧ c.y + 2 ^ lv ≤ 1152921504606846976 → R7.flat ns lv n c = r → r.length ≤ 100000000 →
 FnC Try.prog 41 [storeV a ns.length cap room, .int .i64 n, .agg [.int .i64 cx, .int .i64 cy].toArray].toArray A I (fun v A' I' => ∃ a' cap', v = .slice a' r.length cap' ∧ SlAt I' a' r ∧ A = A' ∧ I ⊆ I')
theorem R7.flat_dead {ns : List Node} {lv : Nat} {n : Int} {c : Cell} (h : (R6.nd ns n).pop = 0) : R7.flat ns lv n c = [] := by unfold R7.flat; rw [if_pos h]
theorem R7.flat_zero {ns : List Node} {n : Int} {c : Cell} (h : ¬ (R6.nd ns n).pop = 0) : R7.flat ns 0 n c = [c] := by unfold R7.flat; rw [if_neg h]
theorem R7.flat_succ {ns : List Node} {m : Nat} {n : Int} {c : Cell} (h : ¬ (R6.nd ns n).pop = 0) : R7.flat ns (m + 1) n c = R7.flat ns m (R6.nd ns n).k0 c ++ R7.flat ns m (R6.nd ns n).k1 ⟨c.x + 2 ^ m, c.y⟩ ++ R7.flat ns m (R6.nd ns n).k2 ⟨c.x, c.y + 2 ^ m⟩ ++ R7.flat ns m (R6.nd ns n).k3 ⟨c.x + 2 ^ m, c.y + 2 ^ m⟩ := by rw [R7.flat]; rw [if_neg h]
set_option maxHeartbeats 1000000 in
set_option maxRecDepth 100000 in
theorem ref07_flat_step (lv : Nat) (ih : ∀ m, m < lv → FlatSpec m) : FlatSpec lv := by
 intro A I ns a cap room n cx cy c r hcx hcy hr hs hn hlv hc hfl hlen
 subst hcx; subst hcy
 obtain ⟨hn0, hn1⟩ := hn
 have hmod := hr.modTo.mod.nd ⟨hn0, hn1⟩
 have hmod' : 0 ≤ (ns.getD n.toNat default).lv ∧ (ns.getD n.toNat default).lv ≤ 42 := ⟨hmod.1, hmod.2.1⟩
 skip
 refine fn_enter3 Try.func41 rfl Try.ntmps41 rfl fun w0 => ?_
 refine tS (tR ?_)
 refine tri_g (opg_box_agg rfl) rfl ?_
 rintro _ _ _ ⟨b3, rfl, rfl, rfl⟩
 refine tri_g (opg_box_agg rfl) rfl ?_
 rintro _ _ _ ⟨b5, rfl, rfl, rfl⟩
 refine tA rfl rfl (tN (tT (tS (tR (yF rfl ?_)))))
 refine yL rfl rfl ?_
 refine tM rfl rfl ?_
 refine tri_v (opv_indexAddrS rfl rfl (by omega) (by omega) (by assumption) rfl) rfl ?_
 refine tri_v (opv_loadEA rfl (by assumption) rfl (by omega) rfl rfl) rfl ?_
 refine tri_g opg_alloc rfl ?_
 rintro _ _ _ ⟨b7, rfl, rfl, rfl⟩
 refine yG rfl rfl rfl rfl rfl rfl ?_
 rintro _ _ _ ⟨rfl, rfl⟩
 refine tN (tT (tS (tS (tR (yF rfl ?_)))))
 refine yL rfl rfl ?_
 refine tri_v (opv_eql rfl rfl) rfl ?_
 refine tN (tT ?_)
 refine tri_cond_dec rfl (fun h0 => ?_) (fun h0 => ?_)
 ·rw [R7.flat_dead h0] at hfl
  subst hfl
  refine tS (tR (tA rfl rfl (tN (tT (tri_ret (tri_then_ret ?_))))))
  refine tri_end A Suf.h rfl (.cons (rv_tmp rfl) .nil) ⟨none, 0, rfl, SlAt.nil, rfl, fun _ h => h⟩
 refine tri_skip (tT (tS (tS (tR (yF rfl ?_)))))
 refine yL rfl rfl ?_
 refine tri_v (opv_eql rfl rfl) rfl ?_
 refine tN (tT ?_)
 refine tri_cond_dec rfl (fun h1 => ?_) (fun h1 => ?_)
 ·have hl0 : lv = 0 := by
   have h2 : (R6.nd ns n).lv = 0 := h1
   omega
  subst hl0
  rw [R7.flat_zero h0] at hfl
  subst hfl
  refine tS (tR ?_)
  refine yB rfl rfl ?_
  refine tri_g (opg_buildSlice rfl rfl rfl rfl) rfl ?_
  rintro _ _ _ ⟨b23, rfl, rfl, rfl⟩
  refine tA rfl rfl (tN (tT (tri_ret (tri_then_ret ?_))))
  refine tri_freezeBoxS [c] rfl fun I' hI hs' => ?_
  refine tri_end A Suf.h rfl (.cons (rv_tmp rfl) .nil) ⟨_, 1, rfl, hs', rfl, hI⟩
 have hl0 : ¬ (R6.nd ns n).lv = 0 := h1
 obtain ⟨m, rfl⟩ : ∃ m, lv = m + 1 := ⟨lv - 1, by omega⟩
 rw [R7.flat_succ h0] at hfl
 have kid := fun q hq => hr.kidN ⟨hn0, hn1⟩ hlv (q := q) hq
 obtain ⟨r0, hr0⟩ : ∃ r, R7.flat ns m (R6.nd ns n).k0 c = r := ⟨_, rfl⟩
 obtain ⟨r1, hr1⟩ : ∃ r, R7.flat ns m (R6.nd ns n).k1 ⟨c.x + 2 ^ m, c.y⟩ = r := ⟨_, rfl⟩
 obtain ⟨r2, hr2⟩ : ∃ r, R7.flat ns m (R6.nd ns n).k2 ⟨c.x, c.y + 2 ^ m⟩ = r := ⟨_, rfl⟩
 obtain ⟨r3, hr3⟩ : ∃ r, R7.flat ns m (R6.nd ns n).k3 ⟨c.x + 2 ^ m, c.y + 2 ^ m⟩ = r := ⟨_, rfl⟩
 rw [hr0, hr1, hr2, hr3] at hfl
 subst hfl
 simp only [List.length_append] at hlen
 have hpow : (2:Int) ^ (m + 1) = 2 ^ m * 2 := Int.pow_succ 2 m
 have hpos : (0:Int) < 2 ^ m := Int.pow_pos (by omega)
 rw [hpow] at hc
 obtain ⟨hc1, hc2, hc3, hc4⟩ := hc
 have e8 : (2:Int) ^ ((R6.nd ns n).lv - 1).toNat = 2 ^ m := by congr 1; omega
 skip
 refine tri_skip (tT (tS (tR (yF rfl ?_))))
 refine yL rfl rfl ?_
 refine tri_v (opv_sub rfl rfl (w64 (by omega) (by omega))) rfl ?_
 refine tri_v (opv_shl1 rfl rfl (by omega) (by omega)) rfl ?_
 refine tA rfl rfl (tN (tT (tS (tR (tA rfl rfl (tN (tT ?_)))))))
 refine tS (tS (tR (tA rfl rfl (tN (tT (tri_block ?_))))))
 refine tri_sub (F' := [(3, pt b3 0), (5, pt b5 0), (7, pt b7 0), (8, .int .i64 (2 ^ m)), (9, .slice none 0 0), (10, .int .i64 (0 : Int))]) ⟨rfl, rfl, rfl, by rw [← e8]; rfl, rfl, rfl, trivial⟩ ?_
 refine tri_nilRow (E := 59) (sz := 2) ?_
 refine tri_rounds 5 ?_
 refine tri_round (tS (tS (tR (tM rfl rfl (yC rfl rfl (tN (tT ?_)))))))
 refine tri_cond_is rfl (by decide) ?_
 skip
 refine tri_skip (tT (tS (tri_block ?_)))
 refine tri_draw [0, 1, 2, 3, 4, 5, 6, 7, 8, 9, 10, 11, 12, 13, 14, 15, 16, 17, 18, 19, 20, 21, 22, 23] rfl [_] rfl mixed ?_
 refine yM rfl rfl ?_
 refine th_take rfl rfl (by kernel_rfl)  (opv_loadA rfl rfl rfl) ?_
 refine yM rfl rfl (yf rfl rfl ?_)
 refine th_take rfl rfl (by kernel_rfl)  (opv_indexAddrA rfl rfl (by decide) (by decide)) ?_
 refine yl rfl rfl rfl ?_
 refine yf rfl rfl ?_
 refine yl rfl rfl rfl ?_
 refine yM rfl rfl ?_
 refine th_take rfl rfl (by kernel_rfl)  (opv_remE rfl rfl (by omega) (by omega)) ?_
 refine yM rfl rfl ?_
 refine th_take rfl rfl (by kernel_rfl)  (opv_mul rfl rfl (w64 (by omega) (by omega))) ?_
 refine th_take rfl rfl (by kernel_rfl)  (opv_add rfl rfl (w64 (by omega) (by omega))) ?_
 refine yf rfl rfl ?_
 refine yl rfl rfl rfl ?_
 refine yM rfl rfl ?_
 refine th_take rfl rfl (by kernel_rfl)  (opv_quoE rfl rfl (by omega) (by omega) (by omega)) ?_
 refine yM rfl rfl ?_
 refine th_take rfl rfl (by kernel_rfl)  (opv_mul rfl rfl (w64 (by omega) (by omega))) ?_
 refine th_take rfl rfl (by kernel_rfl)  (opv_add rfl rfl (w64 (by omega) (by omega))) ?_
 refine th_take rfl rfl (by kernel_rfl)  (opv_buildS rfl rfl) ?_
 refine th_one (by kernel_rfl) (step_m rfl rfl (opg_call (xs := [_, _, _]) rfl (ih m (by omega) _ _ _ _ _ room _ _ _ ⟨c.x, c.y⟩ r0 (by simp only; omega) (by simp only; omega) hr (hs) (kid _ (by simp [Node.kids, R6.nd])).1 (kid _ (by simp [Node.kids, R6.nd])).2.2 (by simp only; omega) hr0 (by omega))) ?_)
 rintro _ _ J1 ⟨a0, c0, rfl, hq0, rfl, hJ1⟩
 refine ⟨Suf.h, (by assumption), ?_⟩
 skip
 refine th_one (by kernel_rfl) (step_m rfl rfl (opg_appendS rfl rfl hq0 rfl rfl (by omega) rfl) ?_)
 rintro _ _ _ ⟨d0, e0, rfl, rfl, rfl⟩
 refine ⟨Suf.h, (by assumption), ?_⟩
 refine yA rfl rfl (yD (tri_inBlock (tT (tR (tM rfl rfl ?_)))))
 refine yU rfl rfl ?_
 refine tA rfl rfl (tN (tT (tri_round (tS (tS (tR (tM rfl rfl ?_)))))))
 refine yC rfl rfl (tN (tT ?_))
 skip
 refine tri_cond_is rfl (by decide) ?_
 skip
 refine tri_skip (tT (tS (tri_block ?_)))
 refine tri_draw [0, 1, 2, 3, 4, 5, 6, 7, 8, 9, 10, 11, 12, 13, 14, 15, 16, 17, 18, 19, 20, 21, 22, 23] rfl [_] rfl mixed ?_
 refine yM rfl rfl ?_
 refine th_take rfl rfl (by kernel_rfl)  (opv_loadA rfl rfl rfl) ?_
 refine yM rfl rfl (yf rfl rfl ?_)
 refine th_take rfl rfl (by kernel_rfl)  (opv_indexAddrA rfl rfl (by decide) (by decide)) ?_
 refine yl rfl rfl rfl ?_
 refine yf rfl rfl ?_
 refine yl rfl rfl rfl ?_
 refine yM rfl rfl ?_
 refine th_take rfl rfl (by kernel_rfl)  (opv_remE rfl rfl (by omega) (by omega)) ?_
 refine yM rfl rfl ?_
 refine th_take rfl rfl (by kernel_rfl)  (opv_mul rfl rfl (w64 (by omega) (by omega))) ?_
 refine th_take rfl rfl (by kernel_rfl)  (opv_add rfl rfl (w64 (by omega) (by omega))) ?_
 refine yf rfl rfl ?_
 refine yl rfl rfl rfl ?_
 refine yM rfl rfl ?_
 refine th_take rfl rfl (by kernel_rfl)  (opv_quoE rfl rfl (by omega) (by omega) (by omega)) ?_
 refine yM rfl rfl ?_
 refine th_take rfl rfl (by kernel_rfl)  (opv_mul rfl rfl (w64 (by omega) (by omega))) ?_
 refine th_take rfl rfl (by kernel_rfl)  (opv_add rfl rfl (w64 (by omega) (by omega))) ?_
 refine th_take rfl rfl (by kernel_rfl)  (opv_buildS rfl rfl) ?_
 refine th_one (by kernel_rfl) (step_m rfl rfl (opg_call (xs := [_, _, _]) rfl (ih m (by omega) _ _ _ _ _ room _ _ _ ⟨c.x + 2 ^ m, c.y⟩ r1 (by simp only; omega) (by simp only; omega) hr (hs.mono hJ1) (kid _ (by simp [Node.kids, R6.nd])).1 (kid _ (by simp [Node.kids, R6.nd])).2.2 (by simp only; omega) hr1 (by omega))) ?_)
 rintro _ _ J2 ⟨a1, c1, rfl, hq1, rfl, hJ2⟩
 refine ⟨Suf.h, (by assumption), ?_⟩
 skip
 refine th_one (by kernel_rfl) (step_m rfl rfl (opg_appendS rfl rfl hq1 rfl rfl (by omega) rfl) ?_)
 rintro _ _ _ ⟨d1, e1, rfl, rfl, rfl⟩
 refine ⟨Suf.h, (by assumption), ?_⟩
 refine yA rfl rfl (yD (tri_inBlock (tT (tR (tM rfl rfl ?_)))))
 refine yU rfl rfl ?_
 refine tA rfl rfl (tN (tT (tri_round (tS (tS (tR (tM rfl rfl ?_)))))))
 refine yC rfl rfl (tN (tT ?_))
 skip
 refine tri_cond_is rfl (by decide) ?_
 skip
 refine tri_skip (tT (tS (tri_block ?_)))
 refine tri_draw [0, 1, 2, 3, 4, 5, 6, 7, 8, 9, 10, 11, 12, 13, 14, 15, 16, 17, 18, 19, 20, 21, 22, 23] rfl [_] rfl mixed ?_
 refine yM rfl rfl ?_
 refine th_take rfl rfl (by kernel_rfl)  (opv_loadA rfl rfl rfl) ?_
 refine yM rfl rfl (yf rfl rfl ?_)
 refine th_take rfl rfl (by kernel_rfl)  (opv_indexAddrA rfl rfl (by decide) (by decide)) ?_
 refine yl rfl rfl rfl ?_
 refine yf rfl rfl ?_
 refine yl rfl rfl rfl ?_
 refine yM rfl rfl ?_
 refine th_take rfl rfl (by kernel_rfl)  (opv_remE rfl rfl (by omega) (by omega)) ?_
 refine yM rfl rfl ?_
 refine th_take rfl rfl (by kernel_rfl)  (opv_mul rfl rfl (w64 (by omega) (by omega))) ?_
 refine th_take rfl rfl (by kernel_rfl)  (opv_add rfl rfl (w64 (by omega) (by omega))) ?_
 refine yf rfl rfl ?_
 refine yl rfl rfl rfl ?_
 refine yM rfl rfl ?_
 refine th_take rfl rfl (by kernel_rfl)  (opv_quoE rfl rfl (by omega) (by omega) (by omega)) ?_
 refine yM rfl rfl ?_
 refine th_take rfl rfl (by kernel_rfl)  (opv_mul rfl rfl (w64 (by omega) (by omega))) ?_
 refine th_take rfl rfl (by kernel_rfl)  (opv_add rfl rfl (w64 (by omega) (by omega))) ?_
 refine th_take rfl rfl (by kernel_rfl)  (opv_buildS rfl rfl) ?_
 refine th_one (by kernel_rfl) (step_m rfl rfl (opg_call (xs := [_, _, _]) rfl (ih m (by omega) _ _ _ _ _ room _ _ _ ⟨c.x, c.y + 2 ^ m⟩ r2 (by simp only; omega) (by simp only; omega) hr ((hs.mono hJ1).mono hJ2) (kid _ (by simp [Node.kids, R6.nd])).1 (kid _ (by simp [Node.kids, R6.nd])).2.2 (by simp only; omega) hr2 (by omega))) ?_)
 rintro _ _ J3 ⟨a2, c2, rfl, hq2, rfl, hJ3⟩
 refine ⟨Suf.h, (by assumption), ?_⟩
 skip
 refine th_one (by kernel_rfl) (step_m rfl rfl (opg_appendS rfl rfl hq2 rfl rfl (by omega) rfl) ?_)
 rintro _ _ _ ⟨d2, e2, rfl, rfl, rfl⟩
 refine ⟨Suf.h, (by assumption), ?_⟩
 refine yA rfl rfl (yD (tri_inBlock (tT (tR (tM rfl rfl ?_)))))
 refine yU rfl rfl ?_
 refine tA rfl rfl (tN (tT (tri_round (tS (tS (tR (tM rfl rfl ?_)))))))
 refine yC rfl rfl (tN (tT ?_))
 skip
 refine tri_cond_is rfl (by decide) ?_
 skip
 refine tri_skip (tT (tS (tri_block ?_)))
 refine tri_draw [0, 1, 2, 3, 4, 5, 6, 7, 8, 9, 10, 11, 12, 13, 14, 15, 16, 17, 18, 19, 20, 21, 22, 23] rfl [_] rfl mixed ?_
 refine yM rfl rfl ?_
 refine th_take rfl rfl (by kernel_rfl)  (opv_loadA rfl rfl rfl) ?_
 refine yM rfl rfl (yf rfl rfl ?_)
 refine th_take rfl rfl (by kernel_rfl)  (opv_indexAddrA rfl rfl (by decide) (by decide)) ?_
 refine yl rfl rfl rfl ?_
 refine yf rfl rfl ?_
 refine yl rfl rfl rfl ?_
 refine yM rfl rfl ?_
 refine th_take rfl rfl (by kernel_rfl)  (opv_remE rfl rfl (by omega) (by omega)) ?_
 refine yM rfl rfl ?_
 refine th_take rfl rfl (by kernel_rfl)  (opv_mul rfl rfl (w64 (by omega) (by omega))) ?_
 refine th_take rfl rfl (by kernel_rfl)  (opv_add rfl rfl (w64 (by omega) (by omega))) ?_
 refine yf rfl rfl ?_
 refine yl rfl rfl rfl ?_
 refine yM rfl rfl ?_
 refine th_take rfl rfl (by kernel_rfl)  (opv_quoE rfl rfl (by omega) (by omega) (by omega)) ?_
 refine yM rfl rfl ?_
 refine th_take rfl rfl (by kernel_rfl)  (opv_mul rfl rfl (w64 (by omega) (by omega))) ?_
 refine th_take rfl rfl (by kernel_rfl)  (opv_add rfl rfl (w64 (by omega) (by omega))) ?_
 refine th_take rfl rfl (by kernel_rfl)  (opv_buildS rfl rfl) ?_
 refine th_one (by kernel_rfl) (step_m rfl rfl (opg_call (xs := [_, _, _]) rfl (ih m (by omega) _ _ _ _ _ room _ _ _ ⟨c.x + 2 ^ m, c.y + 2 ^ m⟩ r3 (by simp only; omega) (by simp only; omega) hr (((hs.mono hJ1).mono hJ2).mono hJ3) (kid _ (by simp [Node.kids, R6.nd])).1 (kid _ (by simp [Node.kids, R6.nd])).2.2 (by simp only; omega) hr3 (by omega))) ?_)
 rintro _ _ J4 ⟨a3, c3, rfl, hq3, rfl, hJ4⟩
 refine ⟨Suf.h, (by assumption), ?_⟩
 skip
 refine th_one (by kernel_rfl) (step_m rfl rfl (opg_appendS rfl rfl hq3 rfl rfl (by omega) rfl) ?_)
 rintro _ _ _ ⟨d3, e3, rfl, rfl, rfl⟩
 refine ⟨Suf.h, (by assumption), ?_⟩
 refine yA rfl rfl (yD (tri_inBlock (tT (tR (tM rfl rfl ?_)))))
 refine yU rfl rfl ?_
 refine tA rfl rfl (tN (tT (tri_round (tS (tS (tR (tM rfl rfl ?_)))))))
 refine yC rfl rfl (tN (tT ?_))
 refine tri_cond_not rfl (by decide) ?_
 refine tri_exit ?_
 refine tri_then_exit (tri_then_exit ?_)
 refine tri_inBlock_hit rfl ?_
 refine tT (tS (tR (tM rfl rfl (tA rfl rfl (tN (tT (tri_ret ?_)))))))
 refine tri_rowEq (len' := (r0 ++ r1 ++ r2 ++ r3).length) (cells' := encs (r0 ++ r1 ++ r2 ++ r3)) (by simp only [List.length_append, Nat.zero_add]) (by rw [encs_append, encs_append, encs_append]; rfl) ?_
 refine tri_freezeRow rfl fun I' hI hs' => ?_
 refine tri_end A Suf.h rfl (.cons (rv_tmp rfl) .nil) ⟨d3, e3, ?_, hs', rfl, fun _ h => hI (hJ4 (hJ3 (hJ2 (hJ1 h))))⟩
 simp only [List.length_append, Nat.zero_add]; rfl
theorem ref07_flat (lv : Nat) : FlatSpec lv := by
 induction lv using Nat.strongRecOn with
 | ind lv ih => exact ref07_flat_step lv ih
set_option maxRecDepth 100000 in
theorem ref07_of {A : List Asrt} {I : List Chunk} {ns : List Node} {a : Option Addr} {cap : Nat} {room n : Int} (hr : R6.right ns room) (hs : SlAt I a ns) (hn : R6.inS ns n) (hl1 : 1 ≤ (R6.nd ns n).lv) (hlen : (R7.of ns n).length ≤ 100000000) :
  FnC Try.prog 19 [storeV a ns.length cap room, .int .i64 n].toArray A I (fun v A' I' => ∃ a' cap', v = .slice a' (R7.of ns n).length cap' ∧ SlAt I' a' (R7.of ns n) ∧ A = A' ∧ I ⊆ I') := by
 have hmod := hr.modTo.mod.nd hn
 have hmod' : 1 ≤ (ns.getD n.toNat default).lv ∧ (ns.getD n.toNat default).lv ≤ 42 := ⟨hl1, hmod.2.1⟩
 have hsd := R7.side_bd (lv := (ns.getD n.toNat default).lv) hmod'.2
 have hsd2 : (2:Int) ^ ((ns.getD n.toNat default).lv).toNat = 2 * R7.side (ns.getD n.toNat default).lv := by
  unfold R7.side
  obtain ⟨k, hk⟩ : ∃ k : Nat, (ns.getD n.toNat default).lv = k + 1 := ⟨((ns.getD n.toNat default).lv - 1).toNat, by omega⟩
  rw [hk]
  have e1 : ((k:Int) + 1).toNat = k + 1 := by omega
  have e2 : ((k:Int) + 1 - 1).toNat = k := by omega
  rw [e1, e2, Int.pow_succ]; omega
 have hn0 := hn.1
 have hn1 := hn.2
 have hsd' := hsd
 unfold R7.side at hsd'
 refine fn_enter2 Try.func19 rfl Try.ntmps19 rfl fun w0 => ?_
 refine tS (tR ?_)
 refine tri_g (opg_box_agg rfl) rfl ?_
 rintro _ _ _ ⟨b2, rfl, rfl, rfl⟩
 refine tA rfl rfl (tN (tT (tS (tR (yF rfl ?_)))))
 refine yL rfl rfl ?_
 refine tM rfl rfl ?_
 refine tri_v (opv_indexAddrS rfl rfl (by omega) (by omega) (by assumption) rfl) rfl ?_
 refine tri_v (opv_fieldAddrE rfl (by assumption) (by omega) rfl) rfl ?_
 refine tri_v (opv_loadE1 rfl (by assumption) rfl (by omega) rfl rfl) rfl ?_
 refine tri_v (opv_sub rfl rfl (w64 (by omega) (by omega))) rfl ?_
 refine tri_v (opv_shl1 rfl rfl (by omega) (by omega)) rfl ?_
 refine tA rfl rfl (tN (tT (tS (tR ?_))))
 refine yB rfl rfl ?_
 refine tM rfl rfl (tM rfl rfl ?_)
 refine tri_v (opv_negE rfl (by omega) (by omega)) rfl ?_
 refine tM rfl rfl ?_
 refine tri_v (opv_negE rfl (by omega) (by omega)) rfl ?_
 refine tri_v (opv_buildS rfl rfl) rfl ?_
 refine tri_g (opg_call (xs := [_, _, _]) rfl (ref07_flat (R6.nd ns n).lv.toNat _ _ _ _ _ room _ _ _ ⟨-R7.side (R6.nd ns n).lv, -R7.side (R6.nd ns n).lv⟩ (R7.of ns n) rfl rfl hr hs hn (by unfold R6.nd; omega) (by show _ ∧ -R7.side (ns.getD n.toNat default).lv + 2 ^ ((ns.getD n.toNat default).lv).toNat ≤ _ ∧ _ ∧ -R7.side (ns.getD n.toNat default).lv + 2 ^ ((ns.getD n.toNat default).lv).toNat ≤ _; rw [hsd2]; simp only [R6.nd]; omega) rfl hlen)) rfl ?_
 rintro _ _ J ⟨a1, c1, rfl, hq, rfl, hJ⟩
 refine tA rfl rfl (tN (tT (tri_ret ?_)))
 refine tri_end A Suf.h rfl (.cons (rv_tmp rfl) .nil) ⟨a1, c1, rfl, hq, rfl, hJ⟩
end Go.GL


namespace Go.GL
/-! ### Layer 19, as the document has it -/
namespace R19
/-- The i-th task's parent is one. -/
def okAt (l : List Int) (i : Nat) : Prop := (i = 0 → l.getD i default = -1) ∧ (0 < i → 0 ≤ l.getD i default ∧ l.getD i default < i)
instance (l : List Int) (i : Nat) : Decidable (okAt l i) := inferInstanceAs (Decidable (_ ∧ _))
def right (l : List Int) : Prop := (1 ≤ l.length ∧ l.length ≤ 300) ∧ ∀ i, i < l.length → okAt l i
instance (l : List Int) : Decidable (right l) := inferInstanceAs (Decidable (_ ∧ _))
end R19
end Go.GL
namespace Go.GL
namespace R19
/-! ### What the laws make of raw numbers -/
def treeF (raw : List Int) (i : Nat) : List Int := -1 :: (List.range i).map fun j => pk (raw.getD j default) ((j : Int) + 1)
def tree (raw : List Int) : List Int := treeF raw (if raw.length < 39 then raw.length else 39)
def valAt (raw : List Int) (j : Nat) : Int := if j < raw.length then pk (raw.getD j default) 1000 - 300 else j
def vals (raw : List Int) (n : Nat) : List Int := (List.range n).map (valAt raw)
end R19
end Go.GL
namespace Go.GL
/-- How far a task is. -/
structure Frame where
 par : Int
 a : Option Addr
 len : Nat
 cap : Nat
 sum : Int
 left : Int
 deriving Inhabited
instance : Enc Frame := ⟨fun s => [.int .i64 s.par, .slice s.a s.len s.cap, .int .i64 s.sum, .int .i64 s.left], 4, fun _ => rfl, fun _ => rfl⟩
namespace R19
/-- The kids of t among the first i tasks. -/
def kidsTo (p : List Int) (i : Nat) (t : Nat) : List Int := ((List.range i).filter fun j => decide (p.getD j default = (t : Int))).map fun (j : Nat) => (j : Int)
def kids (p : List Int) (t : Nat) : List Int := kidsTo p p.length t
end R19
end Go.GL
namespace Go.GL
namespace R19
def add1 (fs : List Frame) (p t : Nat) : List Frame := fs.set p { fs.getD p default with sum := IntKind.i64.wrap ((fs.getD p default).sum + (fs.getD t default).sum) }
def less1 (fs : List Frame) (p : Nat) : List Frame := fs.set p { fs.getD p default with left := IntKind.i64.wrap ((fs.getD p default).left - 1) }
/-- A task is done: its parent is told; is the first one done? -/
def joinM : Nat → List Frame → Nat → List Frame × Bool
 | 0, fs, _ => (fs, false)
 | f + 1, fs, t =>
  if (fs.getD t default).par < 0 then (fs, true) else
  if ((less1 (add1 fs (fs.getD t default).par.toNat t) (fs.getD t default).par.toNat).getD (fs.getD t default).par.toNat default).left = 0 then joinM f (less1 (add1 fs (fs.getD t default).par.toNat t) (fs.getD t default).par.toNat) (fs.getD t default).par.toNat
  else (less1 (add1 fs (fs.getD t default).par.toNat t) (fs.getD t default).par.toNat, false)
end R19
end Go.GL
namespace Go.GL
namespace R19
/-! ### Deques -/
/-- Where the first deque is that is not empty, from the j-th one behind w on. -/
def findF (D : List (List Int)) (w : Nat) : Nat → Nat → Option Nat
 | 0, _ => none
 | f + 1, j => if (D.getD ((w + j) % D.length) default).length = 0 then findF D w f (j + 1) else some ((w + j) % D.length)
/-- The task that a worker takes, and what is left. -/
def takeM (D : List (List Int)) (w : Nat) : Int × List (List Int) :=
 if 0 < (D.getD w default).length then ((D.getD w default).getD ((D.getD w default).length - 1) default, D.set w ((D.getD w default).take ((D.getD w default).length - 1)))
 else match findF D w D.length 0 with
  | some k => ((D.getD k default).getD 0 default, D.set k ((D.getD k default).drop 1))
  | none => (-1, D)
end R19
end Go.GL


namespace Go.GL
/-! ### Layer 11, as the document has it -/
namespace R11
/-- Those that are left, from the i-th one on. -/
def allF : Nat → List Int → List Int
 | _, [] => []
 | i, n :: l => if 0 < n then (i : Int) :: allF (i + 1) l else allF (i + 1) l
def all (left : List Int) : List Int := allF 0 left
/-- Where the first one is of which p is true. -/
def idx (p : Int → Bool) (l : List Int) : Int := if l.findIdx p < l.length then (l.findIdx p : Int) else -1
def round (a : List Int) (last : Int) : Int := if 0 ≤ idx (fun i => decide (last < i)) a ∧ 0 ≤ last then a.getD (idx (fun i => decide (last < i)) a).toNat default else a.getD 0 default
def next (picks : List Int) (step : Int) (left : List Int) (last : Int) : Int :=
 if (all left).length = 0 then -1 else
 if 0 ≤ step ∧ step < picks.length then (all left).getD (pk (picks.getD step.toNat default) (all left).length).toNat default
 else round (all left) last
def dec (left : List Int) (i : Int) : List Int := left.set i.toNat (left.getD i.toNat default - 1)
def turnsF (picks : List Int) : Nat → Nat → List Int → Int → List Int
 | 0, _, _, _ => []
 | f + 1, s, left, last => if next picks s left last < 0 then [] else next picks s left last :: turnsF picks f (s + 1) (dec left (next picks s left last)) (next picks s left last)
def turns (picks left : List Int) : List Int := turnsF picks 100000 0 left (-1)
theorem allF_mem : ∀ {l : List Int} {i : Nat} {q : Int}, q ∈ allF i l ↔ ∃ j : Nat, j < l.length ∧ q = ((i + j : Nat) : Int) ∧ 0 < l.getD j default
 | [], i, q => by simp [allF]
 | n :: l, i, q => by
  have ih := allF_mem (l := l) (i := i + 1) (q := q)
  have key : (∃ j : Nat, j < (n :: l).length ∧ q = ((i + j : Nat) : Int) ∧ 0 < (n :: l).getD j default) ↔ (q = (i : Int) ∧ 0 < n) ∨ ∃ j : Nat, j < l.length ∧ q = ((i + 1 + j : Nat) : Int) ∧ 0 < l.getD j default := by
   constructor
   ·rintro ⟨j, h1, h2, h3⟩
    cases j with
    | zero => exact .inl ⟨by simpa using h2, by simpa using h3⟩
    | succ j => exact .inr ⟨j, by simpa using h1, by rw [h2]; omega, by simpa using h3⟩
   ·rintro (⟨h1, h2⟩ | ⟨j, h1, h2, h3⟩)
    ·exact ⟨0, by simp, by simpa using h1, by simpa using h2⟩
    ·exact ⟨j + 1, by simpa using h1, by rw [h2]; omega, by simpa using h3⟩
  rw [key, ← ih]
  simp only [allF]
  split
  ·rename_i h
   simp [h]
  ·rename_i h
   simp [h]
theorem mem_all {l : List Int} {q : Int} : q ∈ all l ↔ 0 ≤ q ∧ q < l.length ∧ 0 < l.getD q.toNat default := by
 unfold all
 rw [allF_mem]
 constructor
 ·rintro ⟨j, h1, rfl, h3⟩
  refine ⟨by omega, by omega, ?_⟩
  simpa using h3
 ·rintro ⟨h1, h2, h3⟩
  exact ⟨q.toNat, by omega, by omega, h3⟩
theorem allF_srt : ∀ (l : List Int) (i : Nat), (allF i l).Pairwise (· < ·) ∧ ∀ q ∈ allF i l, (i : Int) ≤ q
 | [], i => by simp [allF]
 | n :: l, i => by
  have ih := allF_srt l (i + 1)
  simp only [allF]
  split
  ·refine ⟨List.pairwise_cons.2 ⟨fun q hq => ?_, ih.1⟩, fun q hq => ?_⟩
   ·have := ih.2 q hq
    omega
   ·rcases List.mem_cons.1 hq with rfl | hq
    ·exact Int.le_refl _
    ·have := ih.2 q hq
     omega
  ·exact ⟨ih.1, fun q hq => by have := ih.2 q hq; omega⟩
theorem all_srt (l : List Int) : (all l).Pairwise (· < ·) := (allF_srt l 0).1
theorem allF_len : ∀ (l : List Int) (i : Nat), (allF i l).length ≤ l.length
 | [], i => by simp [allF]
 | n :: l, i => by
  have ih := allF_len l (i + 1)
  simp only [allF]
  split <;> simp only [List.length_cons] <;> omega
theorem all_len (l : List Int) : (all l).length ≤ l.length := allF_len l 0
theorem allF_snoc : ∀ (l : List Int) (i : Nat) (n : Int), allF i (l ++ [n]) = allF i l ++ (if 0 < n then [((i + l.length : Nat) : Int)] else [])
 | [], i, n => by simp [allF]
 | x :: l, i, n => by
  have ih := allF_snoc l (i + 1) n
  simp only [List.cons_append, allF, ih]
  rw [show i + 1 + l.length = i + (x :: l).length by simp only [List.length_cons]; omega]
  split <;> simp
theorem dec_len (l : List Int) (i : Int) : (dec l i).length = l.length := by simp [dec]
theorem idx_some {p : Int → Bool} {l : List Int} (h : 0 ≤ idx p l) : (idx p l).toNat < l.length ∧ p (l.getD (idx p l).toNat default) = true ∧ ∀ j, j < (idx p l).toNat → p (l.getD j default) = false := by
 unfold idx at *
 split at h
 ·rename_i hl
  rw [if_pos hl]
  refine ⟨by simpa using hl, ?_, ?_⟩
  ·have := List.findIdx_getElem (w := hl)
   simpa [hl] using this
  ·intro j hj
   have hj' : j < l.findIdx p := by simpa using hj
   have := List.not_of_lt_findIdx hj'
   simpa [Nat.lt_trans hj' hl] using this
 ·omega
theorem idx_none {p : Int → Bool} {l : List Int} (h : ¬ 0 ≤ idx p l) : ∀ x ∈ l, p x = false := by
 unfold idx at h
 split at h
 ·omega
 ·rename_i hl
  intro x hx
  have := List.findIdx_eq_length.1 (Nat.le_antisymm List.findIdx_le_length (Nat.not_lt.1 hl)) x hx
  simpa using this
theorem idx_lt (p : Int → Bool) (l : List Int) : idx p l < l.length := by
 unfold idx
 split <;> omega
/-- The next one round. -/
theorem round_ok {a : List Int} {last : Int} (hs : a.Pairwise (· < ·)) (h0 : ∀ q ∈ a, 0 ≤ q) (hn : a ≠ []) (hl : -1 ≤ last) : round a last ∈ a ∧ ((last < round a last ∧ ∀ j ∈ a, last < j → round a last ≤ j) ∨ ((∀ j ∈ a, j ≤ last) ∧ ∀ j ∈ a, round a last ≤ j)) := by
 have hpos : 0 < a.length := List.length_pos_iff.2 hn
 have hle : ∀ i j, (hij : i ≤ j) → (hj : j < a.length) → a[i]'(by omega) ≤ a[j] := fun i j hij hj => by
  rcases Nat.lt_or_eq_of_le hij with h | rfl
  ·have := List.pairwise_iff_getElem.1 hs i j (by omega) hj h
   omega
  ·exact Int.le_refl _
 have first : ∀ j ∈ a, a.getD 0 default ≤ j := fun j hj => by
  obtain ⟨i, hi, rfl⟩ := List.getElem_of_mem hj
  have := hle 0 i (by omega) hi
  simpa [hpos] using this
 have m0 : a.getD 0 default ∈ a := by simp [hpos]
 unfold round
 split
 ·rename_i h
  obtain ⟨h1, h2, h3⟩ := idx_some h.1
  generalize (idx (fun i => decide (last < i)) a).toNat = k at *
  refine ⟨by simp [h1], .inl ⟨by simpa using h2, fun j hj hlt => ?_⟩⟩
  obtain ⟨i, hi, rfl⟩ := List.getElem_of_mem hj
  by_cases e : i < k
  ·have := h3 i e
   simp [hi] at this
   omega
  ·have := hle k i (by omega) hi
   simpa [h1] using this
 ·rename_i h
  refine ⟨m0, ?_⟩
  by_cases hlast : 0 ≤ last
  ·have hx := idx_none (fun x => h ⟨x, hlast⟩)
   exact .inr ⟨fun j hj => by have := hx j hj; simpa using this, first⟩
  ·exact .inl ⟨by have := h0 _ m0; omega, fun j hj _ => first j hj⟩
theorem getD_mem {l : List Int} {i : Nat} (h : i < l.length) : l.getD i default ∈ l := by
 rw [List.getD_eq_getElem?_getD, List.getElem?_eq_getElem h]
 exact List.getElem_mem h
theorem next_none {picks left : List Int} {step last : Int} (h : next picks step left last < 0) : all left = [] := by
 unfold next at h
 split at h
 ·rename_i hl; exact List.length_eq_zero_iff.1 hl
 ·rename_i hl
  exfalso
  have hmem : ∀ q ∈ all left, 0 ≤ q := fun q hq => (mem_all.1 hq).1
  have hpos : 0 < (all left).length := by omega
  split at h
  ·have := pk_bd (c := picks.getD step.toNat default) (n := (all left).length) (by omega)
   have hi : (pk (picks.getD step.toNat default) (all left).length).toNat < (all left).length := by omega
   have := hmem _ (getD_mem hi)
   omega
  ·unfold round at h
   split at h
   ·rename_i hk
    have hi := (idx_some hk.1).1
    have := hmem _ (getD_mem hi)
    omega
   ·have := hmem _ (getD_mem hpos)
    omega
theorem next_mem {picks left : List Int} {step last : Int} (h : ¬ next picks step left last < 0) : next picks step left last ∈ all left := by
 unfold next at *
 split at h
 ·exact absurd (by omega) h
 ·rename_i hl
  rw [if_neg hl]
  have hpos : 0 < (all left).length := by omega
  split
  ·have := pk_bd (c := picks.getD step.toNat default) (n := (all left).length) (by omega)
   have hi : (pk (picks.getD step.toNat default) (all left).length).toNat < (all left).length := by omega
   exact getD_mem hi
  ·unfold round
   split
   ·rename_i hk
    exact getD_mem (idx_some hk.1).1
   ·exact getD_mem hpos
theorem next_ok {picks left : List Int} {step last : Int} (h : ¬ next picks step left last < 0) : 0 ≤ next picks step left last ∧ next picks step left last < left.length ∧ 0 < left.getD (next picks step left last).toNat default := mem_all.1 (next_mem h)
end R11
end Go.GL


namespace Go.GL
/-! ### Turns: who is next, one behind the other -/
namespace R11
def tot (l : List Int) : Nat := (l.map Int.toNat).sum
def Nn (l : List Int) : Prop := ∀ x ∈ l, 0 ≤ x
theorem Nn.at {l : List Int} (h : Nn l) (i : Nat) : 0 ≤ l.getD i default := by
 by_cases hi : i < l.length
 ·exact h _ (getD_mem hi)
 ·rw [List.getD_eq_getElem?_getD, List.getElem?_eq_none (by omega)]; exact Int.le_refl _
theorem tot_set : ∀ (l : List Int) (i : Nat), i < l.length → 0 < l.getD i default → tot (l.set i (l.getD i default - 1)) + 1 = tot l
 | [], i, h, _ => absurd h (by simp)
 | x :: l, 0, _, h => by
  simp only [List.getD_cons_zero] at h
  simp only [List.set_cons_zero, List.getD_cons_zero, tot, List.map_cons, List.sum_cons]
  omega
 | x :: l, i + 1, h, h2 => by
  have := tot_set l i (by simpa using h) (by simpa using h2)
  simp only [List.set_cons_succ, List.getD_cons_succ, tot, List.map_cons, List.sum_cons] at this ⊢
  omega
theorem dec_tot {l : List Int} {i : Int} (h : 0 ≤ i ∧ i < l.length ∧ 0 < l.getD i.toNat default) : tot (dec l i) + 1 = tot l := tot_set l i.toNat (by omega) h.2.2
theorem dec_nn {l : List Int} (hl : Nn l) {i : Int} (h : 0 ≤ i ∧ i < l.length ∧ 0 < l.getD i.toNat default) : Nn (dec l i) := by
 intro x hx
 unfold dec at hx
 rcases List.mem_or_eq_of_mem_set hx with hx | rfl
 ·exact hl x hx
 ·omega
theorem dec_get {l : List Int} {i : Int} (h : 0 ≤ i ∧ i < l.length) (w : Nat) : (dec l i).getD w default = if (w : Int) = i then l.getD w default - 1 else l.getD w default := by
 unfold dec
 rw [List.getD_eq_getElem?_getD, List.getElem?_set, List.getD_eq_getElem?_getD]
 by_cases e : i.toNat = w
 ·subst e
  rw [if_pos rfl, if_pos (by omega), if_pos (by omega)]
  rfl
 ·rw [if_neg e, if_neg (by omega), List.getD_eq_getElem?_getD]
/-- The turns go on from the i-th one, with so much left, behind the last one. -/
structure Go (picks l : List Int) (i : Nat) (now : List Int) (last : Int) : Prop where
 run : l.drop i = turnsF picks (100000 - i) i now last
 nn : Nn now
 lim : tot now + i < 100000
theorem Go.start {picks left : List Int} (h : Nn left) (ht : tot left < 100000) : Go picks (turns picks left) 0 left (-1) := ⟨rfl, h, by omega⟩
theorem drop_getD {l : List Int} {i : Nat} (h : i < l.length) : l.drop i = l.getD i default :: l.drop (i + 1) := by
 rw [List.drop_eq_getElem_cons h]; simp [h]
theorem Go.step {picks l now : List Int} {i : Nat} {last : Int} (h : Go picks l i now last) (hi : i < l.length) :
  next picks i now last = l.getD i default ∧ (0 ≤ l.getD i default ∧ l.getD i default < now.length ∧ 0 < now.getD (l.getD i default).toNat default) ∧ Go picks l (i + 1) (dec now (l.getD i default)) (l.getD i default) := by
 have hr := h.run
 have hl := h.lim
 obtain ⟨f, hf⟩ : ∃ f, 100000 - i = f + 1 := ⟨100000 - i - 1, by omega⟩
 rw [hf, drop_getD hi] at hr
 unfold turnsF at hr
 split at hr
 ·cases hr
 ·rename_i hn
  injection hr with h1 h2
  have hok := next_ok hn
  rw [h1]
  refine ⟨rfl, hok, ?_, dec_nn h.nn hok, ?_⟩
  ·rw [h2, show 100000 - (i + 1) = f by omega]
  ·have := dec_tot hok
   omega
/-- How often a worker has had its turn. -/
def cnt (l : List Int) (i : Nat) (w : Int) : Nat := ((l.take i).filter fun x => decide (x = w)).length
theorem cnt_zero (l : List Int) (w : Int) : cnt l 0 w = 0 := rfl
theorem cnt_succ {l : List Int} {i : Nat} (hi : i < l.length) (w : Int) : cnt l (i + 1) w = cnt l i w + if l.getD i default = w then 1 else 0 := by
 unfold cnt
 rw [List.take_succ_eq_append_getElem hi, List.filter_append, List.length_append, show l.getD i default = l[i] by simp [hi]]
 by_cases e : l[i] = w <;> simp [e]
/-- What is left of each. -/
structure Had (left l : List Int) (i : Nat) (now : List Int) : Prop where
 len : now.length = left.length
 had : ∀ w : Nat, now.getD w default + cnt l i w = left.getD w default
theorem Had.start (left l : List Int) : Had left l 0 left := ⟨rfl, fun w => by rw [cnt_zero]; omega⟩
theorem Had.step {left l now : List Int} {i : Nat} (h : Had left l i now) (hi : i < l.length) (hk : 0 ≤ l.getD i default ∧ l.getD i default < now.length) : Had left l (i + 1) (dec now (l.getD i default)) := by
 refine ⟨by rw [dec_len, h.len], fun w => ?_⟩
 have := h.had w
 rw [dec_get hk, cnt_succ hi]
 by_cases e : (w : Int) = l.getD i default
 ·rw [if_pos e, if_pos e.symm]; omega
 ·rw [if_neg e, if_neg (Ne.symm e)]; omega
/-! #### none waits long -/
/-- How far it is from the last one on to another, round. -/
def far (n : Nat) (last w : Int) : Int := if last < w then w - last else w - last + n
theorem far_bd {n : Nat} {last w : Int} (h1 : -1 ≤ last) (h2 : last < n) (h3 : 0 ≤ w) (h4 : w < n) : 1 ≤ far n last w ∧ far n last w ≤ n := by unfold far; split <;> omega
theorem far_next {now : List Int} {last w : Int} (h1 : -1 ≤ last) (h2 : last < now.length) (hw : w ∈ all now) (hne : round (all now) last ≠ w) : far now.length (round (all now) last) w + 1 ≤ far now.length last w := by
 have hb := mem_all.1 hw
 have hne' : all now ≠ [] := fun e => by rw [e] at hw; cases hw
 obtain ⟨hm, h | h⟩ := round_ok (all_srt now) (fun q hq => (mem_all.1 hq).1) hne' h1
 ·have hmb := mem_all.1 hm
  have := h.2 w hw
  unfold far
  split <;> split <;> omega
 ·have hmb := mem_all.1 hm
  have := h.1 w hw
  have := h.2 w hw
  unfold far
  split <;> split <;> omega
theorem next_round {picks now : List Int} {i : Nat} {last : Int} (hi : picks.length ≤ i) (hn : ¬ next picks i now last < 0) : next picks i now last = round (all now) last := by
 unfold next at *
 split at hn
 ·exact absurd (by omega) hn
 ·rename_i h
  rw [if_neg h, if_neg (by omega)]
/-! #### workers go round -/
/-- All that are left have had as many turns, but that those behind the last one have had one less. -/
structure Rnd (l now : List Int) (i : Nat) (last : Int) (r : Nat) : Prop where
 le : ∀ w : Nat, cnt l i w ≤ r
 hi : ∀ w : Nat, 0 < now.getD w default → (w : Int) ≤ last → cnt l i w = r
 lo : ∀ w : Nat, 0 < now.getD w default → last < (w : Int) → cnt l i w + 1 = r
 lb : -1 ≤ last
theorem Rnd.step {l now : List Int} {i r : Nat} {last : Int} (h : Rnd l now i last r) (hi : i < l.length) (hk : l.getD i default = round (all now) last) (hne : all now ≠ []) : ∃ r', Rnd l (dec now (l.getD i default)) (i + 1) (l.getD i default) r' := by
 have hr := round_ok (all_srt now) (fun q hq => (mem_all.1 hq).1) hne h.lb
 rw [← hk] at hr
 obtain ⟨hm, hr⟩ := hr
 have hmb := mem_all.1 hm
 have hk2 : 0 ≤ l.getD i default ∧ l.getD i default < now.length := ⟨hmb.1, hmb.2.1⟩
 have live : ∀ w : Nat, 0 < (dec now (l.getD i default)).getD w default → 0 < now.getD w default := fun w hw => by
  rw [dec_get hk2] at hw
  split at hw <;> omega
 have mem : ∀ w : Nat, 0 < now.getD w default → (w : Int) ∈ all now := fun w hw => by
  have hlt : w < now.length := by
   apply Decidable.byContradiction
   intro hx
   rw [List.getD_eq_getElem?_getD, List.getElem?_eq_none (by omega)] at hw
   exact absurd hw (by decide)
  exact mem_all.2 ⟨by omega, by omega, by simpa using hw⟩
 generalize hkk : l.getD i default = k at *
 have hkn : ((k.toNat : Nat) : Int) = k := by omega
 have hkc : 0 < now.getD k.toNat default := hmb.2.2
 have ck := cnt_succ hi
 rw [hkk] at ck
 rcases hr with hr | hr
 ·refine ⟨r, ⟨fun w => ?_, fun w hw hle => ?_, fun w hw hlt => ?_, by omega⟩⟩
  ·rw [ck]
   have := h.le w
   split
   ·rename_i e
    have h1 := h.lo w (by rw [show w = k.toNat by omega]; exact hkc) (by omega)
    omega
   ·omega
  ·rw [ck]
   have hl := live w hw
   split
   ·rename_i e
    have h1 := h.lo w hl (by omega)
    omega
   ·rename_i e
    by_cases hlast : (w : Int) ≤ last
    ·exact h.hi w hl hlast
    ·have := hr.2 w (mem w hl) (by omega)
     omega
  ·rw [ck]
   have hl := live w hw
   rw [if_neg (by omega)]
   exact h.lo w hl (by omega)
 ·refine ⟨r + 1, ⟨fun w => ?_, fun w hw hle => ?_, fun w hw hlt => ?_, by omega⟩⟩
  ·rw [ck]
   have := h.le w
   split <;> omega
  ·rw [ck]
   have hl := live w hw
   have h1 := hr.1 w (mem w hl)
   have h2 := hr.2 w (mem w hl)
   have h3 := h.hi w hl h1
   rw [if_pos (by omega)]
   omega
  ·rw [ck]
   have hl := live w hw
   have h1 := hr.1 w (mem w hl)
   have h3 := h.hi w hl h1
   rw [if_neg (by omega)]
   omega
theorem Rnd.start (l left : List Int) : Rnd l left 0 (-1) 1 := ⟨fun w => by rw [cnt_zero]; omega, fun w _ h => by omega, fun w _ _ => by rw [cnt_zero], by omega⟩
end R11
end Go.GL


namespace Go.GL
namespace R11
/-! #### none waits longer than for as many turns as there are workers -/
structure Wt (picks left l : List Int) (w : Nat) (i : Nat) (now : List Int) (last waits : Int) : Prop where
 go : Go picks l i now last
 hd : Had left l i now
 lb : -1 ≤ last
 ub : last < left.length
 w0 : 0 ≤ waits
 wn : waits ≤ left.length
 fr : 0 < now.getD w default → waits + far left.length last w ≤ left.length
 zr : i ≤ picks.length → waits = 0
theorem getD_pos {l : List Int} {w : Nat} (h : 0 < l.getD w default) : w < l.length := by
 apply Decidable.byContradiction
 intro hx
 rw [List.getD_eq_getElem?_getD, List.getElem?_eq_none (by omega)] at h
 exact absurd h (by decide)
theorem Wt.start {picks left : List Int} (h : Nn left) (ht : tot left < 100000) (w : Nat) : Wt picks left (turns picks left) w 0 left (-1) 0 :=
 ⟨Go.start h ht, Had.start _ _, by omega, by omega, by omega, by omega, fun hw => by
  have := getD_pos hw
  unfold far
  split <;> omega, fun _ => rfl⟩
theorem Wt.step {picks left l now : List Int} {w i : Nat} {last waits : Int} (h : Wt picks left l w i now last waits) (hi : i < l.length) :
  ∃ now' last', (l.getD i default = w → Wt picks left l w (i + 1) now' last' 0) ∧
   (l.getD i default ≠ w → picks.length ≤ i → (cnt l i w : Int) < left.getD w default → Wt picks left l w (i + 1) now' last' (waits + 1)) ∧
   (l.getD i default ≠ w → ¬ (picks.length ≤ i ∧ (cnt l i w : Int) < left.getD w default) → Wt picks left l w (i + 1) now' last' waits) := by
 obtain ⟨hnx, hok, hg⟩ := h.go.step hi
 have hh := h.hd.step hi ⟨hok.1, hok.2.1⟩
 have hlen := h.hd.len
 have hlast : last < now.length := by rw [hlen]; exact h.ub
 have hw0 := h.w0
 have hdec : ∀ hne : l.getD i default ≠ w, (dec now (l.getD i default)).getD w default = now.getD w default := fun hne => by
  rw [dec_get ⟨hok.1, hok.2.1⟩, if_neg (fun e => hne e.symm)]
 have hnow : ∀ hc : 0 < now.getD w default, (cnt l i w : Int) < left.getD w default := fun hc => by
  have := h.hd.had w
  omega
 refine ⟨dec now (l.getD i default), l.getD i default, fun e => ?_, fun hne hp hc => ?_, fun hne hc => ?_⟩
 ·refine ⟨hg, hh, by omega, by omega, by omega, by omega, fun hw => ?_, fun _ => rfl⟩
  rw [e]
  unfold far
  split <;> omega
 ·have hpos : 0 < now.getD w default := by
   have := h.hd.had w
   omega
  have hf := h.fr hpos
  have hwl := getD_pos hpos
  have hm : (w : Int) ∈ all now := mem_all.2 ⟨by omega, by omega, by simpa using hpos⟩
  have hr := next_round (picks := picks) (now := now) (last := last) hp (by rw [hnx]; omega)
  rw [hnx] at hr
  have hfar := far_next h.lb hlast hm (by rw [← hr]; exact hne)
  rw [← hr, hlen] at hfar
  have hb := far_bd (n := left.length) (last := l.getD i default) (w := w) (by omega) (by omega) (by omega) (by omega)
  refine ⟨hg, hh, by omega, by omega, by omega, by omega, fun _ => by omega, fun hp2 => by omega⟩
 ·refine ⟨hg, hh, by omega, by omega, h.w0, h.wn, fun hw => ?_, fun hp2 => h.zr (by omega)⟩
  rw [hdec hne] at hw
  have h1 := hnow hw
  have h2 := h.zr (by omega)
  have hwl := getD_pos hw
  have hb := far_bd (n := left.length) (last := l.getD i default) (w := w) (by omega) (by omega) (by omega) (by omega)
  omega
/-! #### workers go round -/
/-! #### each order is told by some picks -/
def rank : List Int → Nat → Nat
 | [], _ => 0
 | _ :: _, 0 => 0
 | n :: l, t + 1 => (if 0 < n then 1 else 0) + rank l t
/-- How many turns each of n workers has from the i-th one on. -/
def nowAt (n : Nat) (T : List Int) (i : Nat) : List Int := (List.range n).map fun (k : Nat) => (((T.drop i).filter fun x => decide (x = (k : Int))).length : Int)
def picksAt (n : Nat) (T : List Int) (i : Nat) : List Int := (List.range i).map fun j => (rank (nowAt n T j) (T.getD j default).toNat : Int)
/-! #### a worker without steps -/
def ins (l : List Int) (k : Nat) : List Int := l.take k ++ 0 :: l.drop k
def sh (k : Nat) (x : Int) : Int := if (k : Int) ≤ x then x + 1 else x
end R11
end Go.GL


namespace Go.GL
theorem nodup_le {α : Type} [DecidableEq α] : ∀ (a b : List α), a.Nodup → (∀ x ∈ a, x ∈ b) → a.length ≤ b.length
 | [], _, _, _ => Nat.zero_le _
 | x :: a, b, hn, hs => by
  obtain ⟨h1, h2⟩ := List.nodup_cons.1 hn
  have hx := hs x List.mem_cons_self
  have h3 := nodup_le a (b.erase x) h2 fun y hy => by
   have : y ≠ x := fun e => h1 (e ▸ hy)
   exact (List.mem_erase_of_ne this).2 (hs y (List.mem_cons_of_mem _ hy))
  have h4 := List.length_erase_of_mem hx
  have h5 : 0 < b.length := List.length_pos_of_mem hx
  rw [List.length_cons]
  omega
/-- The numbers below n. -/
def upto (n : Nat) : List Int := (List.range n).map fun (i : Nat) => (i : Int)
theorem mem_upto {n : Nat} {x : Int} : x ∈ upto n ↔ 0 ≤ x ∧ x < n := by
 unfold upto
 rw [List.mem_map]
 constructor
 ·rintro ⟨i, hi, rfl⟩
  have := List.mem_range.1 hi
  omega
 ·intro h
  exact ⟨x.toNat, List.mem_range.2 (by omega), by omega⟩
theorem upto_nd (n : Nat) : (upto n).Nodup := by
 unfold upto
 rw [List.Nodup, List.pairwise_map]
 exact (List.nodup_range (n := n)).imp fun h e => h (by omega)
theorem upto_len (n : Nat) : (upto n).length = n := by simp [upto]
namespace R19
variable {p v : List Int}
/-! ### Kids -/
theorem mem_kids {t : Nat} {x : Int} : x ∈ kids p t ↔ 0 ≤ x ∧ x < p.length ∧ p.getD x.toNat default = (t : Int) := by
 unfold kids kidsTo
 rw [List.mem_map]
 constructor
 ·rintro ⟨i, hi, rfl⟩
  obtain ⟨h1, h2⟩ := List.mem_filter.1 hi
  have := List.mem_range.1 h1
  exact ⟨by omega, by omega, of_decide_eq_true h2⟩
 ·rintro ⟨h0, h1, h2⟩
  exact ⟨x.toNat, List.mem_filter.2 ⟨List.mem_range.2 (by omega), decide_eq_true h2⟩, by omega⟩
theorem kids_nd (p : List Int) (t : Nat) : (kids p t).Nodup := by
 unfold kids kidsTo
 rw [List.Nodup, List.pairwise_map]
 exact ((List.nodup_range (n := p.length)).filter _).imp fun h e => h (by omega)
theorem kid_gt (hr : right p) {t : Nat} {x : Int} (h : x ∈ kids p t) : (t : Int) < x := by
 obtain ⟨h0, h1, h2⟩ := mem_kids.1 h
 obtain ⟨h3, h4⟩ := hr.2 x.toNat (by omega)
 by_cases e : x.toNat = 0
 ·have := h3 e
  omega
 ·have := h4 (by omega)
  omega
theorem par_lt (hr : right p) {x : Nat} (h : x < p.length) : p.getD x default < (x : Int) ∧ -1 ≤ p.getD x default ∧ (p.getD x default < 0 ↔ x = 0) := by
 obtain ⟨h3, h4⟩ := hr.2 x h
 by_cases e : x = 0
 ·have := h3 e
  omega
 ·have := h4 (by omega)
  omega
/-! ### Deques -/
theorem flat_set {D : List (List Int)} {k : Nat} (h : k < D.length) : ∃ r, D.flatten.Perm (D.getD k default ++ r) ∧ ∀ l, (D.set k l).flatten.Perm (l ++ r) := by
 refine ⟨(D.take k).flatten ++ (D.drop (k + 1)).flatten, ?_, fun l => ?_⟩
 ·have e : D = D.take k ++ D.getD k default :: D.drop (k + 1) := by
   have e1 : D.getD k default = D[k] := by simp [h]
   rw [e1, ← List.drop_eq_getElem_cons h, List.take_append_drop]
  have e2 : D.flatten = (D.take k).flatten ++ (D.getD k default ++ (D.drop (k + 1)).flatten) := by
   conv => lhs; rw [e]
   rw [List.flatten_append, List.flatten_cons]
  rw [e2, ← List.append_assoc, ← List.append_assoc]
  exact List.Perm.append_right _ List.perm_append_comm
 ·rw [List.set_eq_take_append_cons_drop, if_pos h, List.flatten_append, List.flatten_cons, ← List.append_assoc, ← List.append_assoc]
  exact List.Perm.append_right _ List.perm_append_comm
theorem findF_none {D : List (List Int)} {w : Nat} : ∀ (f j : Nat), findF D w f j = none → ∀ i, j ≤ i → i < j + f → (D.getD ((w + i) % D.length) default).length = 0
 | 0, j, _, i, h1, h2 => by omega
 | f + 1, j, h, i, h1, h2 => by
  unfold findF at h
  split at h
  ·rename_i h0
   by_cases e : i = j
   ·rw [e]; exact h0
   ·exact findF_none f (j + 1) h i (by omega) (by omega)
  ·exact nomatch h
theorem findF_lt' {D : List (List Int)} {w : Nat} (h0 : 0 < D.length) : ∀ (f j : Nat) {k : Nat}, findF D w f j = some k → k < D.length ∧ 0 < (D.getD k default).length
 | 0, _, _, h => nomatch h
 | f + 1, j, k, h => by
  unfold findF at h
  split at h
  ·exact findF_lt' h0 f (j + 1) h
  ·rename_i h1
   injection h with h
   subst h
   exact ⟨Nat.mod_lt _ h0, by omega⟩
/-- What is taken, and what is left: all that there was. -/
theorem takeM_perm {D : List (List Int)} {w : Nat} (hw : w < D.length) (hn : D.flatten ≠ []) : D.flatten.Perm ((takeM D w).1 :: (takeM D w).2.flatten) ∧ (takeM D w).2.length = D.length := by
 unfold takeM
 split
 ·rename_i h
  obtain ⟨r, h1, h2⟩ := flat_set hw
  refine ⟨?_, by rw [List.length_set]⟩
  refine h1.trans (List.Perm.trans ?_ ((h2 _).symm.cons _))
  generalize D.getD w default = l at *
  have e : l.take (l.length - 1) ++ [l.getD (l.length - 1) default] = l := by
   have e1 : l.getD (l.length - 1) default = l[l.length - 1]'(by omega) := by rw [List.getD_eq_getElem?_getD, List.getElem?_eq_getElem (by omega)]; rfl
   rw [e1]
   have e2 := List.take_append_getElem (l := l) (i := l.length - 1) (by omega)
   rw [e2, List.take_of_length_le (by omega)]
  show (l ++ r).Perm (l.getD (l.length - 1) default :: (l.take (l.length - 1) ++ r))
  conv => lhs; rw [← e]
  rw [List.append_assoc]
  exact List.perm_middle
 ·split
  ·rename_i k hk
   obtain ⟨h3, h4⟩ := findF_lt' (by omega) _ _ hk
   obtain ⟨r, h1, h2⟩ := flat_set h3
   refine ⟨?_, by rw [List.length_set]⟩
   refine h1.trans (List.Perm.trans ?_ ((h2 _).symm.cons _))
   generalize D.getD k default = l at *
   match l, h4 with
   | x :: l, _ => exact List.Perm.refl _
  ·rename_i h hk
   exfalso
   apply hn
   rw [List.flatten_eq_nil_iff]
   intro l hl
   obtain ⟨i, hi, rfl⟩ := List.getElem_of_mem hl
   apply List.eq_nil_of_length_eq_zero
   by_cases hiw : w ≤ i
   ·have := findF_none _ _ hk (i - w) (by omega) (by omega)
    rw [show w + (i - w) = i by omega, Nat.mod_eq_of_lt hi] at this
    simpa [hi] using this
   ·have := findF_none _ _ hk (i + D.length - w) (by omega) (by omega)
    rw [show w + (i + D.length - w) = i + D.length by omega, Nat.add_mod_right, Nat.mod_eq_of_lt hi] at this
    simpa [hi] using this
/-! ### The machine of deques -/
/-- Who is next. -/
def nxt (picks : List Int) (nw n : Nat) (last : Int) : Int := R11.next picks n (List.replicate nw 1) last
theorem nxt_ok {picks : List Int} {nw n : Nat} {last : Int} (h : 1 ≤ nw) : 0 ≤ nxt picks nw n last ∧ nxt picks nw n last < nw := by
 have hne : ¬ R11.next picks n (List.replicate nw 1) last < 0 := fun h1 => by
  have h2 := R11.next_none h1
  have : (0 : Int) ∈ R11.all (List.replicate nw 1) := R11.mem_all.2 ⟨by omega, by rw [List.length_replicate]; omega, by
   rw [List.getD_eq_getElem?_getD, List.getElem?_replicate, if_pos (by exact h)]; decide⟩
  rw [h2] at this
  exact nomatch this
 obtain ⟨h1, h2, _⟩ := R11.next_ok hne
 rw [List.length_replicate] at h2
 exact ⟨h1, h2⟩
structure Mc where
 D : List (List Int)
 order : List Int
 who : List Int
 last : Int
def mstep (p picks : List Int) (nw : Nat) (m : Mc) : Mc :=
 { D := (takeM m.D (nxt picks nw m.order.length m.last).toNat).2.set (nxt picks nw m.order.length m.last).toNat ((takeM m.D (nxt picks nw m.order.length m.last).toNat).2.getD (nxt picks nw m.order.length m.last).toNat default ++ kids p (takeM m.D (nxt picks nw m.order.length m.last).toNat).1.toNat), order := m.order ++ [(takeM m.D (nxt picks nw m.order.length m.last).toNat).1], who := m.who ++ [nxt picks nw m.order.length m.last], last := nxt picks nw m.order.length m.last }
def mst (p picks : List Int) (nw : Nat) : Nat → Mc
 | 0 => ⟨[0] :: List.replicate (nw - 1) [], [], [], -1⟩
 | n + 1 => mstep p picks nw (mst p picks nw n)
/-- What is known of the machine. -/
structure MOk (p : List Int) (nw n : Nat) (m : Mc) : Prop where
 dl : m.D.length = nw
 ol : m.order.length = n
 wl : m.who.length = n
 nd : (m.order ++ m.D.flatten).Nodup
 mem : ∀ t : Int, t ∈ m.order ++ m.D.flatten ↔ (0 ≤ t ∧ t < p.length ∧ (t = 0 ∨ p.getD t.toNat default ∈ m.order))
 who : ∀ w ∈ m.who, 0 ≤ w ∧ w < nw
theorem MOk.all_le {nw n : Nat} {m : Mc} (h : MOk p nw n m) : (m.order ++ m.D.flatten).length ≤ p.length := by
 have := nodup_le _ (upto p.length) h.nd fun x hx => mem_upto.2 ⟨((h.mem x).1 hx).1, ((h.mem x).1 hx).2.1⟩
 rwa [upto_len] at this
/-- No deque has a task: all are run. -/
theorem MOk.full {nw n : Nat} {m : Mc} (hr : right p) (h : MOk p nw n m) (e : m.D.flatten = []) : ∀ t : Nat, t < p.length → (t : Int) ∈ m.order := by
 have hm := h.mem
 rw [e, List.append_nil] at hm
 intro t
 induction t using Nat.strongRecOn with
 | _ t ih =>
  intro ht
  refine (hm t).2 ⟨by omega, by omega, ?_⟩
  obtain ⟨h1, h2, h3⟩ := par_lt hr ht
  by_cases e0 : t = 0
  ·exact .inl (by omega)
  ·right
   have := ih (p.getD t default).toNat (by omega) (by omega)
   rw [Int.toNat_natCast]
   rwa [Int.toNat_of_nonneg (by omega)] at this
/-- All tasks are run behind so many steps. -/
theorem MOk.done {nw : Nat} {m : Mc} (hr : right p) (h : MOk p nw p.length m) : ∀ t : Nat, t < p.length → (t : Int) ∈ m.order := by
 have h1 := h.all_le
 rw [List.length_append, h.ol] at h1
 exact h.full hr (List.eq_nil_of_length_eq_zero (by omega))
/-- While a task is not run, some deque is not empty. -/
theorem MOk.busy {nw n : Nat} {m : Mc} (hr : right p) (h : MOk p nw n m) (hn : n < p.length) : m.D.flatten ≠ [] := by
 intro e
 have hall := h.full hr e
 have := nodup_le (upto p.length) m.order (upto_nd _) fun x hx => by
  obtain ⟨h1, h2⟩ := mem_upto.1 hx
  have := hall x.toNat (by omega)
  rwa [Int.toNat_of_nonneg h1] at this
 rw [upto_len, h.ol] at this
 omega
theorem MOk.start (hr : right p) {picks : List Int} {nw : Nat} (h : 1 ≤ nw) : MOk p nw 0 (mst p picks nw 0) := by
 have e : (mst p picks nw 0).D.flatten = [0] := by
  show ([0] :: List.replicate (nw - 1) ([] : List Int)).flatten = [0]
  rw [List.flatten_cons, List.flatten_replicate_nil]
  rfl
 have hn := hr.1.1
 refine ⟨?_, rfl, rfl, ?_, fun t => ?_, fun w hw => nomatch hw⟩
 ·show ([0] :: List.replicate (nw - 1) ([] : List Int)).length = nw
  rw [List.length_cons, List.length_replicate]
  omega
 ·rw [e]; exact List.pairwise_singleton _ _
 ·rw [e]
  show t ∈ [(0 : Int)] ↔ _ ∧ _ ∧ (_ ∨ _ ∈ ([] : List Int))
  simp only [List.mem_singleton, List.not_mem_nil, or_false]
  omega
/-- What a step takes. -/
theorem MOk.take {nw n : Nat} {m : Mc} (hr : right p) (h : MOk p nw n m) (hn : n < p.length) {w : Nat} (hw : w < nw) :
  ∃ T : Nat, (takeM m.D w).1 = (T : Int) ∧ T < p.length ∧ (T : Int) ∉ m.order ∧ (T = 0 ∨ p.getD T default ∈ m.order) ∧ m.D.flatten.Perm ((T : Int) :: (takeM m.D w).2.flatten) ∧ (takeM m.D w).2.length = nw := by
 obtain ⟨h1, h2⟩ := takeM_perm (D := m.D) (w := w) (by rw [h.dl]; exact hw) (h.busy hr hn)
 have h3 : (takeM m.D w).1 ∈ m.D.flatten := h1.mem_iff.2 List.mem_cons_self
 obtain ⟨h4, h5, h6⟩ := (h.mem _).1 (List.mem_append_right _ h3)
 have h7 : (takeM m.D w).1 ∉ m.order := fun hc => (List.nodup_append.1 h.nd).2.2 _ hc _ h3 rfl
 obtain ⟨T, hT⟩ : ∃ T : Nat, (takeM m.D w).1 = (T : Int) := ⟨(takeM m.D w).1.toNat, by omega⟩
 rw [hT] at h4 h5 h6 h7 h1
 exact ⟨T, hT, by omega, h7, h6.imp (by omega) fun h => by rwa [Int.toNat_natCast] at h, h1, by rw [h2, h.dl]⟩
theorem MOk.step {nw n : Nat} {m : Mc} (hr : right p) (h : MOk p nw n m) (hn : n < p.length) (hw : 1 ≤ nw) (picks : List Int) : MOk p nw (n + 1) (mstep p picks nw m) := by
 unfold mstep
 obtain ⟨hx0, hx1⟩ := nxt_ok (picks := picks) (nw := nw) (n := m.order.length) (last := m.last) hw
 obtain ⟨w, ew⟩ : ∃ w : Nat, nxt picks nw m.order.length m.last = (w : Int) := ⟨(nxt picks nw m.order.length m.last).toNat, by omega⟩
 rw [ew] at hx0 hx1 ⊢
 rw [Int.toNat_natCast]
 obtain ⟨T, hT, hTl, hTo, hTp, hp, hl⟩ := h.take hr hn (w := w) (by omega)
 rw [hT, Int.toNat_natCast]
 obtain ⟨r, hr1, hr2⟩ := flat_set (D := (takeM m.D w).2) (k := w) (by omega)
 have hper : (m.order ++ [(T : Int)] ++ ((takeM m.D w).2.set w ((takeM m.D w).2.getD w default ++ kids p T)).flatten).Perm (kids p T ++ (m.order ++ m.D.flatten)) := by
  have e1 : ((takeM m.D w).2.set w ((takeM m.D w).2.getD w default ++ kids p T)).flatten.Perm (kids p T ++ (takeM m.D w).2.flatten) := by
   refine (hr2 _).trans ?_
   rw [List.append_assoc]
   refine List.Perm.trans ?_ (hr1.symm.append_left _)
   rw [← List.append_assoc, ← List.append_assoc]
   exact List.perm_append_comm.append_right _
  refine (e1.append_left _).trans ?_
  rw [List.append_assoc]
  refine List.Perm.trans ?_ ((hp.symm.append_left m.order).append_left (kids p T))
  show (m.order ++ (T : Int) :: (kids p T ++ (takeM m.D w).2.flatten)).Perm (kids p T ++ (m.order ++ ([(T : Int)] ++ (takeM m.D w).2.flatten)))
  have a1 : (m.order ++ (T : Int) :: (kids p T ++ (takeM m.D w).2.flatten)) = (m.order ++ [(T : Int)] ++ kids p T) ++ (takeM m.D w).2.flatten := by simp
  have a2 : (kids p T ++ (m.order ++ ([(T : Int)] ++ (takeM m.D w).2.flatten))) = (kids p T ++ (m.order ++ [(T : Int)])) ++ (takeM m.D w).2.flatten := by simp
  rw [a1, a2]
  exact List.perm_append_comm.append_right _
 have hk0 : ∀ x ∈ kids p T, x ∉ m.order ++ m.D.flatten := fun x hx hc => by
  have hgt := kid_gt hr hx
  obtain ⟨_, _, h3⟩ := mem_kids.1 hx
  obtain ⟨_, _, h6⟩ := (h.mem x).1 hc
  rcases h6 with h6 | h6
  ·omega
  ·rw [h3] at h6
   exact hTo h6
 refine ⟨by rw [List.length_set, hl], by simp [h.ol], by simp [h.wl], ?_, fun t => ?_, fun x hx => ?_⟩
 ·rw [hper.nodup_iff, List.nodup_append]
  exact ⟨kids_nd p T, h.nd, fun a ha b hb e => hk0 a ha (e ▸ hb)⟩
 ·rw [hper.mem_iff, List.mem_append, h.mem t, mem_kids, List.mem_append, List.mem_singleton]
  constructor
  ·rintro (⟨h1, h2, h3⟩ | ⟨h1, h2, h3⟩)
   ·exact ⟨h1, h2, .inr (.inr h3)⟩
   ·exact ⟨h1, h2, h3.imp id .inl⟩
  ·rintro ⟨h1, h2, h3 | h3 | h3⟩
   ·exact .inr ⟨h1, h2, .inl h3⟩
   ·exact .inr ⟨h1, h2, .inr h3⟩
   ·exact .inl ⟨h1, h2, h3⟩
 ·rcases List.mem_append.1 hx with hx | hx
  ·exact h.who x hx
  ·rw [List.mem_singleton] at hx
   omega
theorem MOk.run (hr : right p) {picks : List Int} {nw : Nat} (h : 1 ≤ nw) : ∀ n, n ≤ p.length → MOk p nw n (mst p picks nw n)
 | 0, _ => .start hr h
 | n + 1, hn => (MOk.run hr h n (by omega)).step hr (by omega) h picks
theorem MOk.cl {nw n : Nat} {m : Mc} (h : MOk p nw n m) : ∀ t : Nat, t < p.length → 0 < t → (t : Int) ∈ m.order → p.getD t default ∈ m.order := by
 intro t _ h0 ht
 obtain ⟨_, _, h3⟩ := (h.mem t).1 (List.mem_append_left _ ht)
 rcases h3 with h3 | h3
 ·omega
 ·rwa [Int.toNat_natCast] at h3
end R19
end Go.GL


namespace Go.GL
namespace R19
variable {p picks : List Int}
/-! ### One worker alone -/
/-- The last kid among the first k tasks. -/
def lastKid (p : List Int) (T : Int) : Nat → Int
 | 0 => -1
 | k + 1 => if p.getD k default = T then (k : Int) else lastKid p T k
end R19
end Go.GL


namespace Go.GL
namespace R19
/-! ### Kids without kids -/
def flat (n : Nat) : List Int := -1 :: List.replicate n 0
def rg (f m : Nat) : List Int := (List.range m).map fun j => ((f + j : Nat) : Int)
theorem flat_len (n : Nat) : (flat n).length = n + 1 := by simp [flat]
/-- All deques but the first one are empty. -/
structure WD (W : Nat) (D : List (List Int)) (x : List Int) : Prop where
 len : D.length = W
 at0 : D.getD 0 default = x
 rest : ∀ w, 0 < w → w < W → D.getD w default = []
/-- Behind i steps the kids from f on, so many, are left. -/
def WideI (n W : Nat) (picks : List Int) (i f m : Nat) : Prop := 1 ≤ f ∧ m + i = n + 1 ∧ f + m ≤ n + 1 ∧ WD W (mst (flat n) (0 :: picks) W i).D (rg f m)
end R19
end Go.GL


namespace Go.GL
namespace R19
end R19
end Go.GL


namespace Go.GL
/-! ### Layer 21: a crew's tasks, deques, and what is kept -/
/-- A task: a leap (n, j), whose part it is and at which place, for how many it waits, how many are left, and what they told. -/
structure Tk where
 n : Int
 j : Int
 of_ : Int
 pl : Int
 wt : Int
 lf : Int
 r0 : Int
 r1 : Int
 r2 : Int
 r3 : Int
 r4 : Int
 r5 : Int
 r6 : Int
 r7 : Int
 r8 : Int
 deriving DecidableEq, Inhabited
instance : Enc Tk := ⟨fun t => [.int .i64 t.n, .int .i64 t.j, .int .i64 t.of_, .int .i64 t.pl, .int .i64 t.wt, .int .i64 t.lf, .int .i64 t.r0, .int .i64 t.r1, .int .i64 t.r2, .int .i64 t.r3, .int .i64 t.r4, .int .i64 t.r5, .int .i64 t.r6, .int .i64 t.r7, .int .i64 t.r8], 15, fun _ => rfl, fun _ => rfl⟩
namespace R21
open R9 (Memo look9)
def setR (t : Tk) (p v : Int) : Tk :=
 if p = 0 then { t with r0 := v } else if p = 1 then { t with r1 := v } else if p = 2 then { t with r2 := v } else if p = 3 then { t with r3 := v } else if p = 4 then { t with r4 := v } else
 if p = 5 then { t with r5 := v } else if p = 6 then { t with r6 := v } else if p = 7 then { t with r7 := v } else if p = 8 then { t with r8 := v } else t
/-- A new task. -/
def tk0 (n j of_ pl : Int) : Tk := ⟨n, j, of_, pl, 0, 0, 0, 0, 0, 0, 0, 0, 0, 0, 0⟩
def tk0' (t : Tk) : Prop := t.wt = 0
structure Ms where
 ns : List Node
 ts : List Tk
 D : List (List Int)
 kp : Memo
 node : Int
 done : Bool
def push (D : List (List Int)) (w : Nat) (x : Int) : List (List Int) := D.set w (D.getD w default ++ [x])
def add (s : Ms) (w : Nat) (t : Tk) : Ms := { s with ts := s.ts ++ [t], D := push s.D w s.ts.length }
def keep (kp : Memo) (n j to : Int) : Memo := match look9 kp n j with
 | some _ => kp
 | none => kp ++ [(n, j, to)]
def less (t : Tk) : Tk := { t with lf := IntKind.i64.wrap (t.lf - 1) }
/-- A task tells its node. -/
def tell (s : Ms) (w i : Nat) (n : Int) : Ms :=
 let t := s.ts.getD i default
 let kp := keep s.kp t.n t.j n
 if t.of_ < 0 then { s with kp := kp, node := n, done := true }
 else
  let u := less (setR (s.ts.getD t.of_.toNat default) t.pl n)
  { s with kp := kp, ts := s.ts.set t.of_.toNat u, D := if u.lf = 0 then push s.D w t.of_ else s.D }
def parts (w i : Nat) (j : Int) : Nat → List Int → Ms → Ms
 | _, [], s => s
 | k, n :: l, s => parts w i j (k + 1) l (add s w (tk0 n j i k))
/-- A task waits for parts. -/
def wait (s : Ms) (w i : Nat) (j : Int) (l : List Int) : Ms :=
 parts w i j 0 l { s with ts := s.ts.set i { s.ts.getD i default with wt := l.length, lf := l.length } }
def full (s : Ms) (t : Tk) : Prop := t.j = (R6.nd s.ns t.n).lv - 2
instance (s : Ms) (t : Tk) : Decidable (full s t) := inferInstanceAs (Decidable (_ = _))
/-- Nine come to four. -/
def join (room : Int) (s : Ms) (w i : Nat) : Ms × Int :=
 let t := s.ts.getD i default
 let j := if full s t then IntKind.i64.wrap (t.j - 1) else t.j
 let p0 := R6.put s.ns room t.r0 t.r1 t.r3 t.r4
 if p0.2.2 ≠ 0 then (s, p0.2.2) else
 let p1 := R6.put p0.1 room t.r1 t.r2 t.r4 t.r5
 if p1.2.2 ≠ 0 then (s, p1.2.2) else
 let p2 := R6.put p1.1 room t.r3 t.r4 t.r6 t.r7
 if p2.2.2 ≠ 0 then (s, p2.2.2) else
 let p3 := R6.put p2.1 room t.r4 t.r5 t.r7 t.r8
 if p3.2.2 ≠ 0 then (s, p3.2.2) else
 (wait { s with ns := p3.1 } w i j [p0.2.1, p1.2.1, p2.2.1, p3.2.1], 0)
/-- The middles of the nine. -/
def mids (room : Int) (i : Nat) : Nat → List Int → Ms → Ms × Int
 | _, [], s => (s, 0)
 | k, n :: l, s =>
  let p := R8.putSq s.ns room (R8.s16 s.ns n) 1 1
  if p.2.2 ≠ 0 then (s, p.2.2) else mids room i (k + 1) l { s with ns := p.1, ts := s.ts.set i (setR (s.ts.getD i default) k p.2.1) }
def begin_ (room : Int) (s : Ms) (w i : Nat) : Ms × Int :=
 let t := s.ts.getD i default
 match look9 s.kp t.n t.j with
 | some n => (tell s w i n, 0)
 | none =>
  if (R6.nd s.ns t.n).lv = 2 then
   let p := R8.one s.ns room t.n
   if p.2.2 ≠ 0 then (s, p.2.2) else (tell { s with ns := p.1 } w i p.2.1, 0)
  else
   let q := R8.all s.ns room t.n
   if q.2.2 ≠ 0 then (s, q.2.2) else
   if t.j = (R6.nd s.ns t.n).lv - 2 then (wait { s with ns := q.1 } w i (IntKind.i64.wrap (t.j - 1)) q.2.1, 0)
   else
    let m := mids room i 0 q.2.1 { s with ns := q.1 }
    if m.2 ≠ 0 then m else join room m.1 w i
def end_ (room : Int) (s : Ms) (w i : Nat) : Ms × Int :=
 let t := s.ts.getD i default
 let p := R6.put s.ns room t.r0 t.r1 t.r2 t.r3
 if p.2.2 ≠ 0 then (s, p.2.2) else (tell { s with ns := p.1 } w i p.2.1, 0)
def step (room : Int) (s : Ms) (w : Nat) : Ms × Int :=
 let x := R19.takeM s.D w
 let s' := { s with D := x.2 }
 if x.1 < 0 then (s', 0) else
 if (s.ts.getD x.1.toNat default).wt = 9 then join room s' w x.1.toNat
 else if (s.ts.getD x.1.toNat default).wt = 4 then end_ room s' w x.1.toNat
 else begin_ room s' w x.1.toNat
def run (room : Int) (W : Nat) (picks : List Int) : Nat → Nat → Int → Ms → Ms × Int × Int
 | 0, _, _, s => (s, 0, 3)
 | f + 1, n, last, s =>
  let w := R19.nxt picks W n last
  let r := step room s w.toNat
  if r.2 ≠ 0 then (r.1, 0, r.2) else if r.1.done then (r.1, (n : Int) + 1, 0) else run room W picks f (n + 1) w r.1
def start (ns : List Node) (W : Nat) (n j : Int) : Ms := ⟨ns, [tk0 n j (-1) 0], [0] :: List.replicate (W - 1) [], [], 0, false⟩
/-- What a leap of many comes to: the store, its room, the node, the steps, the tasks, the error. -/
structure Lp where
 ns : List Node
 room : Int
 node : Int
 steps : Int
 tasks : Int
 err : Int
def good (ns : List Node) (room n j W : Int) : Prop := R8.may ns room n 2 ∧ 0 ≤ j ∧ j ≤ (R6.nd ns n).lv - 2 ∧ 1 ≤ W ∧ W ≤ 64
instance (ns : List Node) (room n j W : Int) : Decidable (good ns room n j W) := inferInstanceAs (Decidable (_ ∧ _))
def leap (ns : List Node) (room n j W : Int) (picks : List Int) : Lp :=
 if good ns room n j W then
  let r := run room W.toNat picks 100000 0 (-1) (start ns W.toNat n j)
  if r.2.2 ≠ 0 then ⟨[], 0, 0, 0, 0, r.2.2⟩ else ⟨r.1.ns, room, r.1.node, r.2.1, r.1.ts.length, 0⟩
 else ⟨[], 0, 0, 0, 0, 1⟩
end R21
end Go.GL


namespace Go.GL
section
variable {w0 : World} {n : Nat} {F : Frm} {A : List Asrt} {I : List Chunk} {P : Program} {dst : Option Tmp} {ty t : TypeId} {pos : String} {af : Array Edge} {gd : Option (Nat × Bool)} {x y : Operand} {d : TypeDesc} {s by_ : Nat} {z : List Value}
theorem spl_ints : ∀ (l : List Int) (off : Nat) (v : Int), off < l.length → spl (ints l) off [.int .i64 v] = some (ints (l.set off v))
 | a :: l, 0, v, _ => by cases l <;> rfl
 | a :: l, k + 1, v, h => by
  have := spl_ints l k v (by simpa using h)
  simp only [ints, List.map_cons, spl, List.set_cons_succ] at this ⊢
  rw [this]
 | [], k, v, h => by simp at h
/-- A whole number into a block of such. -/
theorem opg_storeIX {l : List Int} {b off : Nat} {v : Int} {T : TypeId} {u : List Value → List Asrt} [TyI P t d 1 by_ z] [Sel A b (ints l) T u] (hx : ev F x = some (pt b off)) (hy : ev F y = some (.int .i64 v)) (hl : off < l.length) :
  OpG P w0 n ⟨dst, .store t x y, ty, pos, af, gd⟩ F A I (fun _ A' I' => A' = u (ints (l.set off v)) ∧ I = I') :=
 opg_store (vs := [.int .i64 v]) hx hy rfl rfl rfl (spl_ints l off v hl)
/-- A place of an array of whole numbers that is a value. -/
theorem opv_indexIX {l : List Int} {l2 : Nat} {k : IntKind} {i : Int} {ix : Operand} {e : TypeId} {b' : Nat} {z' : List Value} [TyI P t (.array l2 e) s by_ z] [TyI P e (.int .i64) 1 b' z'] (hx : ev F x = some (.agg (ints l).toArray)) (hi : ev F ix = some (.int k i)) (h0 : 0 ≤ i) (h1 : i < l2) (hl : l2 = l.length) :
  OpV P w0 n ⟨dst, .index t x ix, ty, pos, af, gd⟩ F A I (.int .i64 (l.getD i.toNat default)) :=
 opv_index hx hi h0 h1 rfl (by
  rw [Nat.mul_one]
  have : i.toNat < l.length := by omega
  simp [ints, this])
end
end Go.GL


namespace Go.GL
open Enc (enc)
/-! ### An element of a row is written -/
theorem encs_splice {α : Type} [Enc α] [Inhabited α] {vs : List Value} {x' : α} {fo : Nat} : ∀ {xs : List α} {i : Nat}, i < xs.length → spl (enc (xs.getD i default)) fo vs = some (enc x') →
  (encs xs).take (i * Enc.sz α + fo) ++ vs ++ (encs xs).drop (i * Enc.sz α + fo + vs.length) = encs (xs.set i x')
 | [], i, hi, h => absurd hi (by simp)
 | x :: xs, 0, hi, h => by
  obtain ⟨h1, h2⟩ := spl_spec h
  simp only [List.getD_cons_zero] at h1 h2
  rw [Nat.zero_mul, Nat.zero_add, encs_cons, List.set_cons_zero, encs_cons, h2, List.take_append_of_le_length (by omega), List.drop_append_of_le_length (by omega)]
  simp
 | x :: xs, i + 1, hi, h => by
  have ih := encs_splice (xs := xs) (i := i) (by simpa using hi) (by simpa using h)
  have hl : (enc x).length = Enc.sz α := Enc.hlen x
  have e : (i + 1) * Enc.sz α + fo = (enc x).length + (i * Enc.sz α + fo) := by rw [hl, Nat.succ_mul]; omega
  rw [encs_cons, List.set_cons_succ, encs_cons, e, List.take_length_add_append, Nat.add_assoc, List.drop_length_add_append, ← ih]
  simp
section
variable {w0 : World} {n : Nat} {F : Frm} {A : List Asrt} {I : List Chunk} {P : Program}
variable {dst : Option Tmp} {ty : TypeId} {pos : String} {af : Array Edge} {gd : Option (Nat × Bool)} {x y : Operand} {t E : TypeId} {d : TypeDesc} {s by_ : Nat} {z : List Value} {a : Option Addr} {len cap : Nat}
/-- Into an element, or a part of it. -/
theorem opg_storeRX {α : Type} [Enc α] [Inhabited α] {xs : List α} (x' : α) {i fo sz : Nat} {v : Value} {vs : List Value} {u : Asrt → List Asrt} [SelR A a cap len E sz (encs xs) u] [TyI P t d s by_ z] (hx : ev F x = some (epf a sz i fo)) (hy : ev F y = some v) (hz : Enc.sz α = sz) (hi : i < xs.length) (hl : len = xs.length)
  (hv : v.cells = vs.toArray) (hls : vs.length = s) (h0 : Nat.blt 0 s = true) (h : spl (enc (xs.getD i default)) fo vs = some (enc x')) :
  OpG P w0 n ⟨dst, .store t x y, ty, pos, af, gd⟩ F A I (fun _ A' I' => A' = u (Row a cap len E sz (encs (xs.set i x'))) ∧ I = I') := by
 have hspec := spl_spec h
 have hel : (enc (xs.getD i default)).length = Enc.sz α := Enc.hlen _
 have h1 : vs.all (·.oneCell') = true := by
  have := Enc.one x'
  rw [hspec.2] at this
  simp only [List.all_append, Bool.and_eq_true] at this
  exact this.1.2
 refine (opg_storeR (a := a) hx hy hv hls h1 h0 (by omega) (by omega)).mono fun v' A' I' ⟨e1, e2⟩ => ⟨?_, e2⟩
 rw [e1]
 congr 2
 rw [← hz, ← hls, encs_splice hi h]
/-- Where a slice begins that leaves out the first l. -/
def loA (a : Option Addr) (cap l s : Nat) : Option Addr := if cap = l then a else a.map fun q => q.add (l * s)
theorem opv_sliceLo {α : Type} [Enc α] {xs : List α} {lo : Operand} {k : IntKind} {l : Int} {t e : TypeId} {d' : TypeDesc} {s by_ s' by' : Nat} {z z' : List Value} [TyI P t (.slice e) s by_ z] [TyI P e d' s' by' z'] (hx : ev F x = some (.slice a len cap)) (hh : ev F lo = some (.int k l)) (h0 : 0 ≤ l) (h1 : l ≤ len) (hs : StA I a cap xs) (hl : len = xs.length) :
  OpV P w0 n ⟨dst, .slice t x (some lo) none none, ty, pos, af, gd⟩ F A I (.slice (loA a cap l.toNat s') (xs.drop l.toNat).length (cap - l.toNat)) := by
 intro tt w hf hst
 have hle := hs.le
 have hlen : (xs.drop l.toNat).length = len - l.toNat := by rw [List.length_drop]; omega
 rw [hlen]
 simp [execOp, hf.eval hx, hf.eval hh, Instr.sliceAt, Instr.slice, run_und (P := P) (t := t), Instr.sliceBounds, Instr.sliceBound, asIntOf, h0, h1, run_size (P := P) (t := e), loA]
theorem StA.lo {α : Type} [Enc α] {xs : List α} (hs : StA I a cap xs) {l s : Nat} (h1 : l ≤ xs.length) (hz : Enc.sz α = s) : StA I (loA a cap l s) (cap - l) (xs.drop l) := by
 have hle := hs.le
 have hlen : (xs.drop l).length = xs.length - l := by rw [List.length_drop]
 refine ⟨?_, by rw [hlen]; omega⟩
 unfold loA
 split
 ·left
  exact List.drop_of_length_le (by omega)
 ·rcases hs.sl with rfl | ⟨b, off, rfl, cs, T, fz, hm, hc⟩
  ·exact .inl (by simp)
  ·refine .inr ⟨b, off + l * s, by simp [add_pt], cs, T, fz, hm, fun j v hj => ?_⟩
   rw [encs_drop xs (by omega), hz] at hj
   rw [Nat.add_assoc]
   exact hc _ _ hj
end
end Go.GL


namespace Go.GL
section
variable {w0 : World} {n : Nat} {F : Frm} {A : List Asrt} {I : List Chunk} {P : Program}
variable {dst : Option Tmp} {ty : TypeId} {pos : String} {af : Array Edge} {gd : Option (Nat × Bool)} {x y : Operand} {t e E : TypeId} {d d' : TypeDesc} {s by_ s' by' : Nat} {z z' : List Value} {a a2 : Option Addr} {len cap m cap2 : Nat}
theorem opv_sliceLoN {lo : Operand} {k : IntKind} {l : Int} {e : TypeId} [TyI P t (.slice e) s by_ z] [TyI P e d' s' by' z'] (hx : ev F x = some (.slice a len cap)) (hh : ev F lo = some (.int k l)) (h0 : 0 ≤ l) (h1 : l ≤ len) :
  OpV P w0 n ⟨dst, .slice t x (some lo) none none, ty, pos, af, gd⟩ F A I (.slice (loA a cap l.toNat s') (len - l.toNat) (cap - l.toNat)) := by
 intro tt w hf hst
 simp [execOp, hf.eval hx, hf.eval hh, Instr.sliceAt, Instr.slice, run_und (P := P) (t := t), Instr.sliceBounds, Instr.sliceBound, asIntOf, h0, h1, run_size (P := P) (t := e), loA]
theorem opv_sliceHiN {hi : Operand} {k : IntKind} {h : Int} {e : TypeId} {b off : Nat} [TyI P t (.slice e) s by_ z] [TyI P e d' s' by' z'] (hx : ev F x = some (.slice (some ⟨b, off, none⟩) len cap)) (hh : ev F hi = some (.int k h)) (h0 : 0 ≤ h) (h1 : h ≤ cap) :
  OpV P w0 n ⟨dst, .slice t x none (some hi) none, ty, pos, af, gd⟩ F A I (.slice (some ⟨b, off, none⟩) h.toNat cap) := by
 intro tt w hf hst
 have ha : (if cap = 0 then some (⟨b, off, none⟩ : Addr) else some ((⟨b, off, none⟩ : Addr).add (0 * s'))) = some ⟨b, off, none⟩ := by
  split
  ·rfl
  ·simp [add_pt]
 simp [execOp, hf.eval hx, hf.eval hh, Instr.sliceAt, Instr.slice, run_und (P := P) (t := t), Instr.sliceBounds, Instr.sliceBound, asIntOf, h0, h1, run_size (P := P) (t := e)]
 simpa using ha
/-- 'copy' into a row. -/
theorem opg_copyR {b o dLen dCap sLen k : Nat} {e t2 : TypeId} {cells cs : List Value} {u : Asrt → List Asrt} [SelR A (some ⟨b, 0, none⟩) cap len E 1 cells u] [TyI P t (.slice e) s by_ z] [TyI P e d' s' by' z'] (hs1 : Nat.beq s' 1 = true) (hx : ev F x = some (.slice (some ⟨b, o, none⟩) dLen dCap)) (hy : ev F y = some (.slice a2 sLen cap2))
  (hk : k = if sLen ≤ dLen then sLen else dLen) (hcs : cs.length = k) (h1 : cs.all (·.oneCell') = true) (hc : ∀ w, St w0 w A I → CellsOf w a2 cs) (hfit : o + k ≤ len) :
  OpG P w0 n ⟨dst, .call ⟨.builtin .copy, #[x, y], #[t, t2]⟩, ty, pos, af, gd⟩ F A I (fun v A' I' => v = .int .i64 (k : Nat) ∧ A' = u (Row (some ⟨b, 0, none⟩) cap len E 1 (cells.take o ++ cs ++ cells.drop (o + k))) ∧ I = I') := by
 have hs1' : s' = 1 := Nat.eq_of_beq_eq_true hs1
 subst hs1'
 refine opg_run fun tt w hf hst => ?_
 obtain ⟨hl, ⟨h, _⟩ | ⟨b', cur, hb', hb, hsz, hle, ht⟩⟩ := SelR.at (a := some ⟨b, 0, none⟩) hst
 ·cases h
 ·simp only [Option.some.injEq, Addr.mk.injEq, and_true] at hb'
  subst hb'
  have hmin : Nat.min sLen dLen = k := by
   rw [hk]
   show min sLen dLen = _
   rw [Nat.min_def]
  have hfc : (Builtin.firstCells 1 k (.slice a2 sLen cap2)).run P w = .ok cs.toArray w := by
   have := run_firstCells (P := P) (m := k) (sz := 1) (hc w hst) (by rw [hcs, Nat.mul_one]) cap2
   cases a2 with
   | none => exact this
   | some q => exact this
  obtain ⟨w', hr, ho, htp, hout, hdr, hsz', hb2, hne⟩ := run_storeCells_at' (P := P) o cs 0 cur w hb (by omega) (by simpa using h1)
  have hw : w' = { w with heap := w'.heap } := by cases w'; cases w; simp_all
  refine ⟨_, w', _, I, ?_, ⟨rfl, rfl, rfl⟩, ?_⟩
  ·simp [execOp, resolve, invoke, builtin, hf.eval hx, hf.eval hy, Builtin.copy_, run_und (P := P) (t := t), run_size (P := P) (t := e), Builtin.lenOf, hmin, hfc, hr, goInt]
  ·rw [hw]
   refine SelR.set hst len _ rfl _ _ hsz' hb2 hne ?_ ?_ hle ?_
   ·simp only [List.length_append, List.length_take, List.length_drop, hcs]; omega
   ·simp only [List.size_toArray, List.length_append, List.length_take, List.length_drop, Array.length_toList, hcs]; omega
   ·simp only [Nat.add_zero, hcs, Nat.mul_one] at ht ⊢
    rw [← ht]
    exact take_splice cur.toList cs _ k _ hcs (by omega) (by simp; omega)
theorem wu64 {x : Int} (h1 : 0 ≤ x) (h2 : x ≤ 18446744073709551615) : IntKind.u64.wrap x = x := by
 simp [IntKind.wrap, IntKind.signed, IntKind.bits]
 omega
theorem opv_and32 {xt yt : TypeId} {v : Int} (hx : ev F x = some (.int .u64 v)) (hy : ev F y = some (.int .u64 4294967295)) (h0 : 0 ≤ v) (h1 : v ≤ 4294967295) : OpV P w0 n ⟨dst, .binOp .and xt x y yt, ty, pos, af, gd⟩ F A I (.int .u64 v) :=
 fun t w hf hs => by
  obtain ⟨m, rfl⟩ : ∃ m : Nat, v = m := ⟨v.toNat, by omega⟩
  have e : (BitVec.ofInt IntKind.u64.bits (m : Int) &&& BitVec.ofInt IntKind.u64.bits 4294967295).toNat = m := by
   rw [BitVec.toNat_and]
   show (BitVec.ofInt 64 (m : Int)).toNat &&& 4294967295 = m
   rw [BitVec.ofInt_natCast, BitVec.toNat_ofNat, Nat.mod_eq_of_lt (by omega)]
   have := Nat.and_two_pow_sub_one_eq_mod m 32
   rw [show (4294967295 : Nat) = 2 ^ 32 - 1 by rfl, this]
   exact Nat.mod_eq_of_lt (by omega)
  simp only [execOp, hf.eval hx, hf.eval hy, eqGuard_and, binOp_and, Op.intBits, e, Sem.run_bind, Sem.run_pure, Result.andThen_ok, wu64 (show (0 : Int) ≤ m by omega) (by omega)]
theorem opv_shr32 {xt yt : TypeId} {v : Int} {yk : IntKind} (hx : ev F x = some (.int .u64 v)) (hy : ev F y = some (.int yk 32)) (h0 : 0 ≤ v) (h1 : v ≤ 4294967295) : OpV P w0 n ⟨dst, .binOp .shr xt x y yt, ty, pos, af, gd⟩ F A I (.int .u64 0) :=
 opv_shr hx hy (by omega) (by
  show v.fdiv (2 ^ 32) = 0
  rw [Int.fdiv_eq_ediv_of_nonneg _ (by omega)]
  omega)
theorem tri_rowPt {sz : Nat} {cells : List Value} {K : Act → World → Prop} (ha : a ≠ none) (h : ∀ b, a = some ⟨b, 0, none⟩ → Tri w0 n F (Row a cap len E sz cells :: A) I K) : Tri w0 n F (Row a cap len E sz cells :: A) I K := by
 intro t w hf hs
 have h2 := hs
 obtain ⟨cs, h1, _⟩ := hs
 obtain ⟨c, cs', rfl, ⟨hl, ⟨e, _⟩ | ⟨b, cur, e, _⟩⟩, hr⟩ := h1.cons_inv
 ·exact absurd e ha
 ·exact h b e t w hf h2
theorem row_cellsOf {sz : Nat} {cells cs : List Value} {u : Asrt → List Asrt} [SelR A a cap len E sz cells u] {w : World} (hs : St w0 w A I) (h : cs <+: cells) : CellsOf w a cs := by
 obtain ⟨hl, ⟨_, _, h0⟩ | ⟨b, cur, e, hb, hsz, hle, ht⟩⟩ := SelR.at (a := a) hs
 ·subst h0
  rw [Nat.zero_mul] at hl
  have : cells = [] := List.eq_nil_of_length_eq_zero hl
  subst this
  exact .inl (List.prefix_nil.1 h)
 ·refine .inr ⟨b, 0, cur, E, (0, 0), e, hb, fun j hj => ?_⟩
  obtain ⟨r, rfl⟩ := h
  have h1 : (cs ++ r)[j]? = cs[j]? := List.getElem?_append_left hj
  rw [← h1, ← ht, List.getElem?_take]
  have hlt : j < len * sz := by
   rw [← hl, List.length_append]
   omega
  rw [if_pos hlt, Nat.zero_add]
  simp
/-- 'make' of elements of more cells. -/
theorem opg_makeSliceN {k k2 : IntKind} {m : Nat} {e : TypeId} [TyI P t (.slice e) s by_ z] [TyI P e d' s' by' z'] (hs0 : Nat.blt 0 s' = true) (hx : ev F x = some (.int k (m : Int))) (hy : ev F y = some (.int k2 (m : Int))) (h1 : m ≤ 1000000000) (hb : (by' : Int) * (m : Int) ≤ 281474976710656) :
  OpG P w0 n ⟨dst, .makeSlice t x y, ty, pos, af, gd⟩ F A I (fun v A' I' => ∃ a, a ≠ none ∧ v = .slice a m m ∧ A' = Row a m m e s' (reps m z') :: A ∧ I = I') := by
 refine opg_run fun tt w hf hst => ?_
 have hs0' : 0 < s' := Nat.le_of_ble_eq_true hs0
 obtain ⟨inf, hinf, hby⟩ := run_bytes (P := P) (t := e) w
 obtain ⟨zv, hzv, hzc⟩ := run_zero (P := P) (t := e) w
 have hm : IntKind.i64.wrap (m : Int) = m := w64 (by omega) (by omega)
 have hzl : z'.length = s' := Nat.eq_of_beq_eq_true (by simpa using TyI.zl (P := P) (t := e))
 have hzsz : zv.cells.size = s' := by rw [← hzl, ← hzc]; simp
 have hcells : ((Array.range (m * s')).map (fun j => zv.cells[j % zv.cells.size]!)) = (reps m z').toArray := by
  apply Array.ext'
  simp only [Array.toList_map, Array.toList_range]
  apply List.ext_getElem?
  intro j
  by_cases hj : j < m * s'
  ·rw [List.getElem?_map, List.getElem?_range hj, reps_get z' (by omega) m j (by rw [hzl]; exact hj)]
   have hmd : j % s' < s' := Nat.mod_lt _ hs0'
   rw [Option.map_some, hzsz, hzl, ← hzc, Array.getElem?_toList, getElem!_pos zv.cells (j % s') (by omega), Array.getElem?_eq_getElem (by omega)]
  ·rw [List.getElem?_eq_none (by simp; omega), List.getElem?_eq_none (by rw [reps_length, hzl]; omega)]
 have hrl : (reps m z').length = m * s' := by rw [reps_length, hzl]
 refine ⟨.slice (some ⟨w.heap.size, 0, none⟩) m m, w.alloc (.cells (reps m z').toArray e), _, I, ?_, ⟨_, by simp, rfl, rfl, rfl⟩, ?_⟩
 ·have hbb : ¬ (281474976710656 < (by' : Int) * (m : Int)) := by omega
  by_cases hm0 : m = 0
  ·subst hm0
   have hr0 : reps 0 z' = [] := rfl
   rw [hr0]
   simp [execOp, Instr.makeSlice, hf.eval hx, hf.eval hy, run_und (P := P) (t := t), asInt, asIntOf, hinf, hby, run_size (P := P) (t := e), newRow, Array.range_zero', show IntKind.i64.wrap 0 = 0 from rfl]
  ·have hms : m * s' ≠ 0 := by
    have := Nat.mul_pos (Nat.pos_of_ne_zero hm0) hs0'
    omega
   have hs00 : s' ≠ 0 := by omega
   simp [execOp, Instr.makeSlice, hf.eval hx, hf.eval hy, run_und (P := P) (t := t), asInt, asIntOf, hinf, hby, run_size (P := P) (t := e), newRow, hm, hm0, hs00, hzv, hbb, show ¬ ((m : Int) < 0) by omega]
   have hc2 : Array.map (fun x => zv.cells[x % zv.cells.size]!) (Array.range (m * s')) = (reps m z').toArray := hcells
   rw [hc2, if_neg hms]
 ·exact (hst.alloc (.cells (reps m z').toArray e)).weaken (by
   rintro c rfl
   exact ⟨hrl, .inr ⟨_, _, rfl, rfl, by simpa using hrl, Nat.le_refl _, by simp [← hrl]⟩⟩)
/-! #### many things held as one -/
def Stars (L : List Asrt) : Asrt := fun c => Seps L c
theorem Seps.stars {L A : List Asrt} {cs : List Chunk} : Seps (Stars L :: A) cs ↔ Seps (L ++ A) cs := by
 constructor
 ·intro h
  obtain ⟨c, cs', rfl, h1, h2⟩ := h.cons_inv
  exact Seps.append h1 h2
 ·intro h
  obtain ⟨c1, c2, rfl, h1, h2⟩ := h.append_inv
  exact .cons h1 h2
theorem tri_stars {L : List Asrt} {K : Act → World → Prop} (h : Tri w0 n F (L ++ A) I K) : Tri w0 n F (Stars L :: A) I K := fun t w hf ⟨cs, h1, h2⟩ => h t w hf ⟨cs, Seps.stars.1 h1, h2⟩
theorem tri_toStars {L : List Asrt} {K : Act → World → Prop} (h : Tri w0 n F (Stars L :: A) I K) : Tri w0 n F (L ++ A) I K := fun t w hf ⟨cs, h1, h2⟩ => h t w hf ⟨cs, Seps.stars.2 h1, h2⟩
theorem seps_nilRows {E : TypeId} : ∀ (l : List Asrt), (∀ r ∈ l, r []) → Seps l []
 | [], _ => .nil
 | r :: l, h => by
  have := Seps.cons (h r (by simp)) (seps_nilRows (E := E) l fun x hx => h x (by simp [hx]))
  simpa using this
theorem tri_starsNil {L : List Asrt} {K : Act → World → Prop} (hL : ∀ r ∈ L, r []) (h : Tri w0 n F (Stars L :: A) I K) : Tri w0 n F A I K := by
 intro t w hf ⟨cs, h1, h2⟩
 refine h t w hf ⟨[] ++ cs, .cons (seps_nilRows (E := 0) L hL) h1, by simpa using h2⟩
theorem opv_indexAddrSP {ix : Operand} {e : TypeId} {k : IntKind} {i : Int} {b off : Nat} [TyI P t (.slice e) s by_ z] [TyI P e d' s' by' z'] (hx : ev F x = some (.slice (some ⟨b, off, none⟩) len cap)) (hi : ev F ix = some (.int k i)) (h0 : 0 ≤ i) (h1 : i < len) :
  OpV P w0 n ⟨dst, .indexAddr t x ix, ty, pos, af, gd⟩ F A I (epf (some ⟨b, off, none⟩) s' i.toNat 0) := by
 intro tt w hf hst
 simp [execOp, hf.eval hx, hf.eval hi, Instr.indexAt, asIntOf, run_und (P := P) (t := t), h0, h1, run_size (P := P) (t := e), add_pt, epf]
end
section
variable {w0 : World} {n : Nat} {F : Frm} {A : List Asrt} {I : List Chunk} {P : Program} {dst : Option Tmp} {ty t : TypeId} {pos : String} {af : Array Edge} {gd : Option (Nat × Bool)} {x y : Operand} {xt yt : TypeId} {a b : Nat}
theorem opv_remN {z : Nat} (hx : ev F x = some (.int .i64 (a : Int))) (hy : ev F y = some (.int .i64 (b : Int))) (hb : 0 < b) (hz : a % b = z) : OpV P w0 n ⟨dst, .binOp .rem xt x y yt, ty, pos, af, gd⟩ F A I (.int .i64 (z : Int)) := by
 subst hz
 exact opv_rem hx hy (by omega) (by
  rw [Int.tmod_eq_emod_of_nonneg (by omega)]
  exact (Int.natCast_emod a b).symm)
end
section
variable {w0 : World} {n : Nat} {F : Frm} {A : List Asrt} {I : List Chunk} {P : Program} {Q : Exit → Act → World → Prop} {ops : Array Oper}
def AllSteps (P : Program) (w0 : World) (n : Nat) (ops : Array Oper) (Q : Exit → Act → World → Prop) (B : List Asrt) (J : List Chunk) (listed : Array Bool) (F : Frm) (A : List Asrt) (I : List Chunk) : List (Nat × List Nat) → Prop
 | [] => True
 | x :: xs => Step P w0 n ops Q B J x.1 x.2 listed F A I ∧ AllSteps P w0 n ops Q B J listed F A I xs
theorem AllSteps.get {B : List Asrt} {J : List Chunk} {listed : Array Bool} : ∀ {l : List (Nat × List Nat)}, AllSteps P w0 n ops Q B J listed F A I l → ∀ x ∈ l, Step P w0 n ops Q B J x.1 x.2 listed F A I
 | [], _, x, hx => by simp at hx
 | y :: l, h, x, hx => by
  rcases List.mem_cons.1 hx with rfl | hx
  ·exact h.1
  ·exact AllSteps.get h.2 x hx
end
end Go.GL


namespace Go.GL
/-! ### A block that is only read; the part of a row behind some elements -/
section
variable {w0 : World} {n : Nat} {F : Frm} {A : List Asrt} {I : List Chunk} {P : Program} {dst : Option Tmp} {ty t : TypeId} {pos : String} {af : Array Edge} {gd : Option (Nat × Bool)} {x y ix : Operand} {d d' : TypeDesc} {s s' by_ by' : Nat} {z z' : List Value}
end
end Go.GL


set_option linter.unusedSimpArgs false
namespace Go.GL
/-! ### Slices moved within their own row; the kit's slices.overlaps -/
section
variable {w0 : World} {n : Nat} {F : Frm} {A : List Asrt} {I : List Chunk} {P : Program} {dst : Option Tmp} {ty t : TypeId} {pos : String} {af : Array Edge} {gd : Option (Nat × Bool)} {x y ix : Operand} {d d' : TypeDesc} {s s' by_ by' : Nat} {z z' : List Value}
theorem CellsOf.nil {w : World} {a : Option Addr} : CellsOf w a [] := .inl rfl
def mx2 (a b : Int) : Int := if a < b then b else a
end
end Go.GL


set_option linter.unusedSimpArgs false
namespace Go.GL
section
variable {w0 : World} {n : Nat} {F : Frm} {A : List Asrt} {I : List Chunk} {P : Program}
variable {dst : Option Tmp} {ty : TypeId} {pos : String} {af : Array Edge} {gd : Option (Nat × Bool)}
variable {x y ix : Operand} {t e E : TypeId} {d d' : TypeDesc} {s by_ s' by' : Nat} {z z' : List Value} {a : Option Addr} {len cap : Nat}
/-- 'x[:]' of an array. -/
theorem opv_sliceArr {N b o : Nat} [TyI P t (.array N e) s by_ z] [TyI P e d' s' by' z'] (hx : ev F x = some (pt b o)) :
  OpV P w0 n ⟨dst, .slice t x none none none, ty, pos, af, gd⟩ F A I (.slice (some ⟨b, o, none⟩) N N) := by
 intro tt w hf hst
 by_cases h : N = 0
 ·subst h
  simp [execOp, hf.eval hx, Instr.sliceAt, Instr.sureAddr, run_und (P := P) (t := t), Instr.sliceBounds, Instr.sliceBound, asIntOf, run_size (P := P) (t := e), pt]
 ·simp [execOp, hf.eval hx, Instr.sliceAt, Instr.sureAddr, run_und (P := P) (t := t), Instr.sliceBounds, Instr.sliceBound, asIntOf, run_size (P := P) (t := e), pt, Addr.add, h]
/-- 'x[:h]' of an array. -/
theorem opv_sliceArrHi {N b o : Nat} {hi : Operand} {k : IntKind} {h : Int} [TyI P t (.array N e) s by_ z] [TyI P e d' s' by' z'] (hx : ev F x = some (pt b o)) (hh : ev F hi = some (.int k h)) (h0 : 0 ≤ h) (h1 : h ≤ N) (hN : N ≠ 0) :
  OpV P w0 n ⟨dst, .slice t x none (some hi) none, ty, pos, af, gd⟩ F A I (.slice (some ⟨b, o, none⟩) h.toNat N) := by
 intro tt w hf hst
 have e1 : 0 ≤ h ∧ h ≤ (N : Int) := ⟨h0, h1⟩
 simp [execOp, hf.eval hx, hf.eval hh, Instr.sliceAt, Instr.sureAddr, run_und (P := P) (t := t), Instr.sliceBounds, Instr.sliceBound, asIntOf, run_size (P := P) (t := e), pt, Addr.add, hN, e1, h0]
/-- A slice as an array: its address. -/
theorem opv_arrPtr {N b o : Nat} [TyI P t (.array N e) s by_ z] (hx : ev F x = some (.slice (some ⟨b, o, none⟩) len cap)) (hl : N ≤ len) :
  OpV P w0 n ⟨dst, .sliceToArrayPointer t x, ty, pos, af, gd⟩ F A I (pt b o) := by
 intro tt w hf hst
 have e1 : ¬ len < N := by omega
 simp [execOp, hf.eval hx, Instr.arrayAt, run_und (P := P) (t := t), e1, pt]
end
section
variable {w0 : World} {n : Nat} {F : Frm} {A : List Asrt} {I : List Chunk}
theorem tri_starPush {L : List Asrt} {a : Asrt} {K : Act → World → Prop} (h : Tri w0 n F (Stars (L ++ [a]) :: A) I K) : Tri w0 n F (a :: Stars L :: A) I K := by
 have h1 : Tri w0 n F (L ++ [a] ++ A) I K := tri_toStars h
 refine tri_perm (List.Perm.swap _ _ _) ?_
 refine tri_stars (A := a :: A) ?_
 rw [List.append_assoc] at h1
 exact h1
end
/-- A block's number, as a pointer to it. -/
structure Blk where
 b : Nat
 deriving Inhabited
instance : Enc Blk := ⟨fun x => [pt x.b 0], 1, fun _ => rfl, fun _ => rfl⟩
end Go.GL


namespace Go.GL
namespace R6
/-- A store behind what was made in it, or as it was. -/
def told (ns : List Node) (room : Int) (r : List Node × Int × Int) : List Node × Int × Int := if right ns room then (if r.2.2 ≠ 0 then (ns, 0, r.2.2) else r) else (ns, 0, 1)
def emptyT (ns : List Node) (room lv : Int) : List Node × Int × Int := if lv < 0 ∨ 42 < lv then (ns, 0, 1) else told ns room (R7.empty ns room lv.toNat)
/-! #### what is live -/
def keepKids (keep : List Bool) (x : Node) : List Bool := (((keep.set x.k0.toNat true).set x.k1.toNat true).set x.k2.toNat true).set x.k3.toNat true
/-- From the node m + 1 down. -/
def keepDown (ns : List Node) : Nat → List Bool → List Bool
 | 0, keep => keep
 | m + 1, keep => keepDown ns m (if keep.getD (m + 2) default = true then keepKids keep (ns.getD (m + 2) default) else keep)
def keepRoots (n : Nat) (roots : List Int) : List Bool := roots.foldl (fun keep r => keep.set r.toNat true) (((List.replicate n false).set 0 true).set 1 true)
def kept (ns : List Node) (roots : List Int) : List Bool := keepDown ns (ns.length - 2) (keepRoots ns.length roots)
def mapKids (to : List Int) (x : Node) : Node := ⟨x.lv, to.getD x.k0.toNat default, to.getD x.k1.toNat default, to.getD x.k2.toNat default, to.getD x.k3.toNat default, x.pop⟩
def liveStep (ns : List Node) (keep : List Bool) (s : List Int × List Node) (i : Nat) : List Int × List Node := if keep.getD i default = true then (s.1.set i (s.2.length : Nat), s.2 ++ [mapKids s.1 (ns.getD i default)]) else s
def liveAll (ns : List Node) (keep : List Bool) : List Int × List Node := (List.range ns.length).foldl (liveStep ns keep) (List.replicate ns.length 0, [])
/-- A store, places, an error. -/
def live (ns : List Node) (room : Int) (roots : List Int) : List Node × List Int × Int :=
 if right ns room ∧ ∀ i, i < roots.length → inS ns (roots.getD i default) then ((liveAll ns (kept ns roots)).2, roots.map fun r => (liveAll ns (kept ns roots)).1.getD r.toNat default, 0) else (ns, [], 1)
end R6
end Go.GL
namespace Go.GL
namespace R6
theorem right.kid {ns : List Node} {room : Int} (h : right ns room) {i : Nat} (hi : i < ns.length) :
  (0 ≤ (ns.getD i default).k0 ∧ (ns.getD i default).k0 < ns.length ∧ (2 ≤ i → (ns.getD i default).k0 < i)) ∧ (0 ≤ (ns.getD i default).k1 ∧ (ns.getD i default).k1 < ns.length ∧ (2 ≤ i → (ns.getD i default).k1 < i)) ∧
  (0 ≤ (ns.getD i default).k2 ∧ (ns.getD i default).k2 < ns.length ∧ (2 ≤ i → (ns.getD i default).k2 < i)) ∧ (0 ≤ (ns.getD i default).k3 ∧ (ns.getD i default).k3 < ns.length ∧ (2 ≤ i → (ns.getD i default).k3 < i)) := by
 have h2 := h.1.2.2.1
 by_cases hi2 : 2 ≤ i
 ·obtain ⟨⟨a0, b0, _⟩, ⟨a1, b1, _⟩, ⟨a2, b2, _⟩, ⟨a3, b3, _⟩, _⟩ := h.2 i hi hi2
  refine ⟨⟨a0, by omega, fun _ => b0⟩, ⟨a1, by omega, fun _ => b1⟩, ⟨a2, by omega, fun _ => b2⟩, ⟨a3, by omega, fun _ => b3⟩⟩
 ·rcases (by omega : i = 0 ∨ i = 1) with rfl | rfl
  ·rw [h.1.2.2.2.2.1]
   refine ⟨⟨?_, ?_, ?_⟩, ⟨?_, ?_, ?_⟩, ⟨?_, ?_, ?_⟩, ⟨?_, ?_, ?_⟩⟩ <;> simp [n0] <;> omega
  ·rw [h.1.2.2.2.2.2]
   refine ⟨⟨?_, ?_, ?_⟩, ⟨?_, ?_, ?_⟩, ⟨?_, ?_, ?_⟩, ⟨?_, ?_, ?_⟩⟩ <;> simp [n1] <;> omega
end R6
/-- What a function that tells a store, places and an error comes to. -/
def LiveR (r : List Node × List Int × Int) (room : Int) (A : List Asrt) (I : List Chunk) : Value → List Asrt → List Chunk → Prop :=
 fun v A' I' => ∃ a' c' a2 c2, v = .tuple [storeV a' r.1.length c' room, .slice a2 r.2.1.length c2, .int .i64 r.2.2].toArray ∧ StA I' a' c' r.1 ∧ SlAt I' a2 r.2.1 ∧ A = A' ∧ I ⊆ I'
end Go.GL


namespace Go.GL
/-- A store's head. -/
structure Sto where
 a : Option Addr
 len : Nat
 cap : Nat
 room : Int
 deriving Inhabited
instance : Enc Sto := ⟨fun s => [.slice s.a s.len s.cap, .int .i64 s.room], 2, fun _ => rfl, fun _ => rfl⟩
/-- A slice's head. -/
structure Sl where
 a : Option Addr
 len : Nat
 cap : Nat
 deriving Inhabited
instance : Enc Sl := ⟨fun s => [.slice s.a s.len s.cap], 1, fun _ => rfl, fun _ => rfl⟩
/-- Four numbers. -/
structure Four where
 r0 : Int
 r1 : Int
 r2 : Int
 r3 : Int
 deriving DecidableEq, Inhabited
instance : Enc Four := ⟨fun x => [.int .i64 x.r0, .int .i64 x.r1, .int .i64 x.r2, .int .i64 x.r3], 4, fun _ => rfl, fun _ => rfl⟩
instance : Dec Four := ⟨fun xs => ⟨xs.getD 0 0, xs.getD 1 0, xs.getD 2 0, xs.getD 3 0⟩, fun xs h => by
 match xs, h with
 | [a, b, c, d], _ => rfl⟩
namespace R6
end R6
end Go.GL


namespace Go.GL
open Go.Proofs
attribute [local irreducible] wpList Code.wp Exit.then Exit.inBlock Ends Tri TriH OpV OpG FnC epf wpAnyH
theorem clone_nodes {A : List Asrt} {I : List Chunk} {ns : List Node} {a : Option Addr} {cap : Nat} (hs : SlAt I a ns) (hn : ns.length ≤ 1000000000) (h0 : 0 < ns.length) :
  FnC Try.prog 66 [.slice a ns.length cap].toArray A I (fun v A' I' => ∃ a' cap', v = .slice a' ns.length cap' ∧ A' = Row a' cap' ns.length 43 6 (encs ns) :: A ∧ I = I') := by
 have hsome := hs.some h0
 have hnone : a.isNone = false := by cases a <;> simp_all
 skip
 refine fn_enter1 Try.func66 rfl Try.ntmps66 rfl fun w0 => ?_
 refine tS (tR (tA rfl rfl (tN (tT (tS (tS (tR ?_)))))))
 refine tM rfl rfl ?_
 refine tri_v (opv_eqlNil rfl rfl) rfl ?_
 refine tN (tT ?_)
 refine tri_cond_false (congrArg some (congrArg Value.bool hnone)) ?_
 refine tri_skip (tT (tS (tR ?_)))
 refine tri_g (opg_buildSlice rfl rfl rfl rfl) rfl ?_
 rintro _ _ _ ⟨b5, rfl, rfl, rfl⟩
 refine tM rfl rfl ?_
 refine tri_boxRow (k := 0) (sz := 6) rfl ?_
 refine tri_g (opg_appendS rfl rfl hs rfl rfl (by omega) rfl) rfl ?_
 rintro _ _ _ ⟨a2, cap2, rfl, rfl, rfl⟩
 refine tA rfl rfl (tN (tT (tri_ret ?_)))
 refine tri_rowEq (len' := ns.length) (cells' := encs ns) (by omega) rfl ?_
 refine tri_end _ (⟨[], rfl⟩) rfl (.cons (rv_tmp rfl) .nil) ⟨a2, cap2, ?_, rfl, rfl⟩
 rw [Nat.zero_add]; rfl
set_option maxHeartbeats 1000000 in
set_option maxRecDepth 100000 in
theorem node_parent {A : List Asrt} {I : List Chunk} {ns : List Node} {a : Option Addr} {cap bx : Nat} {room q0 q1 q2 q3 : Int} {mv : Value} (hn : ns.length ≤ 1000000000) (hm : R6.Mod ns) :
  FnC Try.prog 67 [pt bx 0, int4V q0 q1 q2 q3].toArray (Box bx [.slice a ns.length cap, .int .i64 room, mv] 87 :: Row a cap ns.length 43 6 (encs ns) :: A) I (fun v A' I' => (∃ z ok, v = .tuple [nodeV z, .bool ok].toArray ∧ (ok = true ↔ R6.fit4 ns q0 q1 q2 q3) ∧ (ok = true → z = R6.mk4 ns q0 q1 q2 q3)) ∧ A' = (Box bx [.slice a ns.length cap, .int .i64 room, mv] 87 :: Row a cap ns.length 43 6 (encs ns) :: A) ∧ I = I') := by
 have bad : ∀ z, ¬ R6.fit4 ns q0 q1 q2 q3 → ∃ z' ok, Value.tuple [nodeV z, .bool false].toArray = .tuple [nodeV z', .bool ok].toArray ∧ (ok = true ↔ R6.fit4 ns q0 q1 q2 q3) ∧ (ok = true → z' = R6.mk4 ns q0 q1 q2 q3) :=
  fun z h => ⟨z, false, rfl, ⟨fun h2 => absurd h2 (by decide), fun h2 => absurd h2 h⟩, fun h2 => absurd h2 (by decide)⟩
 skip
 refine fn_enter2 Try.func67 rfl Try.ntmps67 rfl fun w0 => ?_
 refine tS (tR ?_)
 refine tri_g (opg_box_agg rfl) rfl ?_
 rintro _ _ _ ⟨b3, rfl, rfl, rfl⟩
 refine tri_g opg_alloc rfl ?_
 rintro _ _ _ ⟨b4, rfl, rfl, rfl⟩
 refine tA rfl rfl (tN (tT (tS (tS (tR ?_)))))
 refine yB rfl rfl ?_
 refine tM rfl rfl (tN (tT (tri_block ?_)))
 refine tri_rounds 5 ?_
 refine tri_round (tS (tR (yC rfl rfl (tN (tT (tS ?_))))))
 refine tri_cond_is rfl (by decide) ?_
 refine tri_skip (tT (tS (tri_block (tS (tR (tM rfl rfl ?_))))))
 refine tri_v (opv_index rfl rfl (by decide) (by decide) rfl rfl) rfl ?_
 refine tA rfl rfl (tA rfl rfl (tN (tT (tS (tS (tR (tM rfl rfl ?_)))))))
 refine yC rfl rfl (tM rfl rfl ?_)
 refine tri_split rfl rfl (fun h0a => ?_) (fun h0a => ?_)
 ·refine tri_guard_skip rfl rfl rfl rfl (tri_guard_skip rfl rfl rfl rfl (tri_guard_skip rfl rfl rfl rfl (tri_guard_skip rfl rfl rfl rfl (tri_guard_skip rfl rfl rfl rfl (tri_guard_skip rfl rfl rfl rfl (tri_guard_skip rfl rfl rfl rfl (tri_guard_skip rfl rfl rfl rfl ?_)))))))
  refine tri_v (opv_pick_t rfl rfl) rfl ?_
  refine tN (tT ?_)
  refine tri_cond_true rfl ?_
  refine tS (tR ?_)
  refine yB rfl rfl ?_
  refine yG rfl rfl rfl rfl rfl rfl ?_
  rintro _ _ _ ⟨rfl, rfl⟩
  refine tA rfl rfl (tN (tT (tri_ret (tri_then_ret (tri_inBlock_ret (tri_then_ret (tri_then_ret ?_)))))))
  refine tri_inBlock_ret (tri_then_ret ?_)
  refine tri_end _ (⟨[_, _], rfl⟩) rfl (.cons (rv_cellA rfl rfl rfl) (.cons (rv_tmp rfl) .nil)) ⟨bad ⟨_, _, _, _, _, _⟩ ?_, rfl, rfl⟩
  unfold R6.fit4 R6.inS; omega
 refine yR rfl rfl (tM rfl rfl (yR rfl rfl (tM rfl rfl (yR rfl rfl ?_))))
 refine tri_v (opv_nilCheck rfl) rfl ?_
 refine yR rfl rfl (yF rfl (yR rfl rfl (yF rfl (yR rfl rfl ?_))))
 refine yL rfl rfl ?_
 refine yR rfl rfl ?_
 refine tri_v (opv_len rfl) rfl ?_
 refine yR rfl rfl ?_
 refine tri_v (opv_geq rfl rfl) rfl ?_
 refine tri_v (opv_pick_f rfl rfl) rfl ?_
 refine tN (tT ?_)
 refine tri_cond_dec rfl (fun h0b => ?_) (fun h0b => ?_)
 ·refine tS (tR ?_)
  refine yB rfl rfl ?_
  refine yG rfl rfl rfl rfl rfl rfl ?_
  rintro _ _ _ ⟨rfl, rfl⟩
  refine tA rfl rfl (tN (tT (tri_ret (tri_then_ret (tri_inBlock_ret (tri_then_ret (tri_then_ret ?_)))))))
  refine tri_inBlock_ret (tri_then_ret ?_)
  refine tri_end _ (⟨[_, _], rfl⟩) rfl (.cons (rv_cellA rfl rfl rfl) (.cons (rv_tmp rfl) .nil)) ⟨bad ⟨_, _, _, _, _, _⟩ ?_, rfl, rfl⟩
  unfold R6.fit4 R6.inS; omega
 have b0 := hm.at h0a h0b
 refine tri_skip (tT (tS (tR (tM rfl rfl ?_))))
 refine tri_v (opv_nilCheck rfl) rfl ?_
 refine yF rfl (yF rfl ?_)
 refine yL rfl rfl ?_
 refine tM rfl rfl ?_
 refine tri_v (opv_indexAddrR rfl rfl (by omega) (by omega)) rfl ?_
 refine tri_v (opv_loadRXA rfl rfl (by omega) rfl rfl rfl) rfl ?_
 refine tri_g opg_alloc rfl ?_
 rintro _ _ _ ⟨b8, rfl, rfl, rfl⟩
 refine yG rfl rfl rfl rfl rfl rfl ?_
 rintro _ _ _ ⟨rfl, rfl⟩
 refine tN (tT (tS (tS (tR (tM rfl rfl ?_)))))
 refine tri_v (opv_gtr rfl rfl) rfl ?_
 refine tM rfl rfl ?_
 refine tri_false rfl rfl (by decide) ?_
 refine tri_guard_skip rfl rfl rfl rfl (tri_guard_skip rfl rfl rfl rfl (tri_guard_skip rfl rfl rfl rfl (tri_guard_skip rfl rfl rfl rfl (tri_guard_skip rfl rfl rfl rfl (tri_guard_skip rfl rfl rfl rfl ?_)))))
 refine tri_v (opv_pick_f rfl rfl) rfl ?_
 refine tN (tT ?_)
 refine tri_cond_false rfl ?_
 refine tri_skip (tT (tS (tR (yF rfl ?_))))
 refine yL rfl rfl ?_
 refine yU rfl rfl ?_
 refine yF rfl ?_
 refine yG rfl rfl rfl rfl rfl rfl ?_
 rintro _ _ _ ⟨rfl, rfl⟩
 refine tN (tT (tR (yF rfl ?_)))
 refine yL rfl rfl ?_
 refine yF rfl ?_
 refine yL rfl rfl ?_
 refine yU rfl rfl ?_
 refine tri_v (opv_min2 rfl rfl) rfl ?_
 refine yF rfl ?_
 refine yG rfl rfl rfl rfl rfl rfl ?_
 rintro _ _ _ ⟨rfl, rfl⟩
 refine tN (tri_inBlock (tT (tR ?_)))
 refine yU rfl rfl ?_
 refine tM rfl rfl (tN (tT (tri_round (tS (tR (yC rfl rfl (tN ?_)))))))
 refine tT (tS ?_)
 have e0 := R6.mn_bd (x := 0 + (ns.getD q0.toNat default).pop) (by omega)
 refine tri_drop ?_
 skip
 refine tri_cond_is rfl (by decide) ?_
 refine tri_skip (tT (tS (tri_block (tS (tR (tM rfl rfl ?_))))))
 refine tri_v (opv_index rfl rfl (by decide) (by decide) rfl rfl) rfl ?_
 refine tA rfl rfl (tA rfl rfl (tN (tT (tS (tS (tR (tM rfl rfl ?_)))))))
 refine yC rfl rfl (tM rfl rfl ?_)
 refine tri_split rfl rfl (fun h1a => ?_) (fun h1a => ?_)
 ·refine tri_guard_skip rfl rfl rfl rfl (tri_guard_skip rfl rfl rfl rfl (tri_guard_skip rfl rfl rfl rfl (tri_guard_skip rfl rfl rfl rfl (tri_guard_skip rfl rfl rfl rfl (tri_guard_skip rfl rfl rfl rfl (tri_guard_skip rfl rfl rfl rfl (tri_guard_skip rfl rfl rfl rfl ?_)))))))
  refine tri_v (opv_pick_t rfl rfl) rfl ?_
  refine tN (tT ?_)
  refine tri_cond_true rfl ?_
  refine tS (tR ?_)
  refine yB rfl rfl ?_
  refine yG rfl rfl rfl rfl rfl rfl ?_
  rintro _ _ _ ⟨rfl, rfl⟩
  refine tA rfl rfl (tN (tT (tri_ret (tri_then_ret (tri_inBlock_ret (tri_then_ret (tri_then_ret ?_)))))))
  refine tri_inBlock_ret (tri_then_ret ?_)
  refine tri_end _ (⟨[_, _], rfl⟩) rfl (.cons (rv_cellA rfl rfl rfl) (.cons (rv_tmp rfl) .nil)) ⟨bad ⟨_, _, _, _, _, _⟩ ?_, rfl, rfl⟩
  unfold R6.fit4 R6.inS; omega
 refine yR rfl rfl (tM rfl rfl (yR rfl rfl (tM rfl rfl (yR rfl rfl ?_))))
 refine tri_v (opv_nilCheck rfl) rfl ?_
 refine yR rfl rfl (yF rfl (yR rfl rfl (yF rfl (yR rfl rfl ?_))))
 refine yL rfl rfl ?_
 refine yR rfl rfl ?_
 refine tri_v (opv_len rfl) rfl ?_
 refine yR rfl rfl ?_
 refine tri_v (opv_geq rfl rfl) rfl ?_
 refine tri_v (opv_pick_f rfl rfl) rfl ?_
 refine tN (tT ?_)
 refine tri_cond_dec rfl (fun h1b => ?_) (fun h1b => ?_)
 ·refine tS (tR ?_)
  refine yB rfl rfl ?_
  refine yG rfl rfl rfl rfl rfl rfl ?_
  rintro _ _ _ ⟨rfl, rfl⟩
  refine tA rfl rfl (tN (tT (tri_ret (tri_then_ret (tri_inBlock_ret (tri_then_ret (tri_then_ret ?_)))))))
  refine tri_inBlock_ret (tri_then_ret ?_)
  refine tri_end _ (⟨[_, _], rfl⟩) rfl (.cons (rv_cellA rfl rfl rfl) (.cons (rv_tmp rfl) .nil)) ⟨bad ⟨_, _, _, _, _, _⟩ ?_, rfl, rfl⟩
  unfold R6.fit4 R6.inS; omega
 have b1 := hm.at h1a h1b
 refine tri_skip (tT (tS (tR (tM rfl rfl ?_))))
 refine tri_v (opv_nilCheck rfl) rfl ?_
 refine yF rfl (yF rfl ?_)
 refine yL rfl rfl ?_
 refine tM rfl rfl ?_
 refine tri_v (opv_indexAddrR rfl rfl (by omega) (by omega)) rfl ?_
 refine tri_v (opv_loadRXA rfl rfl (by omega) rfl rfl rfl) rfl ?_
 refine tri_g opg_alloc rfl ?_
 rintro _ _ _ ⟨b8, rfl, rfl, rfl⟩
 refine yG rfl rfl rfl rfl rfl rfl ?_
 rintro _ _ _ ⟨rfl, rfl⟩
 refine tN (tT (tS (tS (tR (tM rfl rfl ?_)))))
 refine tri_v (opv_gtr rfl rfl) rfl ?_
 refine tM rfl rfl ?_
 refine tri_true rfl rfl (by decide) ?_
 refine yR rfl rfl (yF rfl (yR rfl rfl ?_))
 refine yL rfl rfl ?_
 refine yR rfl rfl (yF rfl (yR rfl rfl ?_))
 refine yL rfl rfl ?_
 refine yR rfl rfl ?_
 refine tri_v (opv_sub rfl rfl (w64 (by omega) (by omega))) rfl ?_
 refine yR rfl rfl ?_
 refine tri_v (opv_neq rfl rfl) rfl ?_
 refine tri_v (opv_pick_t rfl rfl) rfl ?_
 refine tN (tT ?_)
 refine tri_cond_dec rfl (fun h1c => ?_) (fun h1c => ?_)
 ·refine tS (tR ?_)
  refine yB rfl rfl ?_
  refine yG rfl rfl rfl rfl rfl rfl ?_
  rintro _ _ _ ⟨rfl, rfl⟩
  refine tA rfl rfl (tN (tT (tri_ret (tri_then_ret (tri_inBlock_ret (tri_then_ret (tri_then_ret ?_)))))))
  refine tri_inBlock_ret (tri_then_ret ?_)
  refine tri_end _ (⟨[_, _, _], rfl⟩) rfl (.cons (rv_cellA rfl rfl rfl) (.cons (rv_tmp rfl) .nil)) ⟨bad ⟨_, _, _, _, _, _⟩ ?_, rfl, rfl⟩
  unfold R6.fit4 R6.nd R6.inS; omega
 refine tri_skip (tT (tS (tR (yF rfl ?_))))
 refine yL rfl rfl ?_
 refine yU rfl rfl ?_
 refine yF rfl ?_
 refine yG rfl rfl rfl rfl rfl rfl ?_
 rintro _ _ _ ⟨rfl, rfl⟩
 refine tN (tT (tR (yF rfl ?_)))
 refine yL rfl rfl ?_
 refine yF rfl ?_
 refine yL rfl rfl ?_
 refine yU rfl rfl ?_
 refine tri_v (opv_min2 rfl rfl) rfl ?_
 refine yF rfl ?_
 refine yG rfl rfl rfl rfl rfl rfl ?_
 rintro _ _ _ ⟨rfl, rfl⟩
 refine tN (tri_inBlock (tT (tR ?_)))
 refine yU rfl rfl ?_
 refine tM rfl rfl (tN (tT (tri_round (tS (tR (yC rfl rfl (tN ?_)))))))
 refine tT (tS ?_)
 have e1 := R6.mn_bd (x := (if 4611686018427387903 < 0 + (ns.getD q0.toNat default).pop then 4611686018427387903 else 0 + (ns.getD q0.toNat default).pop) + (ns.getD q1.toNat default).pop) (by omega)
 refine tri_drop ?_
 skip
 refine tri_cond_is rfl (by decide) ?_
 refine tri_skip (tT (tS (tri_block (tS (tR (tM rfl rfl ?_))))))
 refine tri_v (opv_index rfl rfl (by decide) (by decide) rfl rfl) rfl ?_
 refine tA rfl rfl (tA rfl rfl (tN (tT (tS (tS (tR (tM rfl rfl ?_)))))))
 refine yC rfl rfl (tM rfl rfl ?_)
 refine tri_split rfl rfl (fun h2a => ?_) (fun h2a => ?_)
 ·refine tri_guard_skip rfl rfl rfl rfl (tri_guard_skip rfl rfl rfl rfl (tri_guard_skip rfl rfl rfl rfl (tri_guard_skip rfl rfl rfl rfl (tri_guard_skip rfl rfl rfl rfl (tri_guard_skip rfl rfl rfl rfl (tri_guard_skip rfl rfl rfl rfl (tri_guard_skip rfl rfl rfl rfl ?_)))))))
  refine tri_v (opv_pick_t rfl rfl) rfl ?_
  refine tN (tT ?_)
  refine tri_cond_true rfl ?_
  refine tS (tR ?_)
  refine yB rfl rfl ?_
  refine yG rfl rfl rfl rfl rfl rfl ?_
  rintro _ _ _ ⟨rfl, rfl⟩
  refine tA rfl rfl (tN (tT (tri_ret (tri_then_ret (tri_inBlock_ret (tri_then_ret (tri_then_ret ?_)))))))
  refine tri_inBlock_ret (tri_then_ret ?_)
  refine tri_end _ (⟨[_, _], rfl⟩) rfl (.cons (rv_cellA rfl rfl rfl) (.cons (rv_tmp rfl) .nil)) ⟨bad ⟨_, _, _, _, _, _⟩ ?_, rfl, rfl⟩
  unfold R6.fit4 R6.inS; omega
 refine yR rfl rfl (tM rfl rfl (yR rfl rfl (tM rfl rfl (yR rfl rfl ?_))))
 refine tri_v (opv_nilCheck rfl) rfl ?_
 refine yR rfl rfl (yF rfl (yR rfl rfl (yF rfl (yR rfl rfl ?_))))
 refine yL rfl rfl ?_
 refine yR rfl rfl ?_
 refine tri_v (opv_len rfl) rfl ?_
 refine yR rfl rfl ?_
 refine tri_v (opv_geq rfl rfl) rfl ?_
 refine tri_v (opv_pick_f rfl rfl) rfl ?_
 refine tN (tT ?_)
 refine tri_cond_dec rfl (fun h2b => ?_) (fun h2b => ?_)
 ·refine tS (tR ?_)
  refine yB rfl rfl ?_
  refine yG rfl rfl rfl rfl rfl rfl ?_
  rintro _ _ _ ⟨rfl, rfl⟩
  refine tA rfl rfl (tN (tT (tri_ret (tri_then_ret (tri_inBlock_ret (tri_then_ret (tri_then_ret ?_)))))))
  refine tri_inBlock_ret (tri_then_ret ?_)
  refine tri_end _ (⟨[_, _], rfl⟩) rfl (.cons (rv_cellA rfl rfl rfl) (.cons (rv_tmp rfl) .nil)) ⟨bad ⟨_, _, _, _, _, _⟩ ?_, rfl, rfl⟩
  unfold R6.fit4 R6.inS; omega
 have b2 := hm.at h2a h2b
 refine tri_skip (tT (tS (tR (tM rfl rfl ?_))))
 refine tri_v (opv_nilCheck rfl) rfl ?_
 refine yF rfl (yF rfl ?_)
 refine yL rfl rfl ?_
 refine tM rfl rfl ?_
 refine tri_v (opv_indexAddrR rfl rfl (by omega) (by omega)) rfl ?_
 refine tri_v (opv_loadRXA rfl rfl (by omega) rfl rfl rfl) rfl ?_
 refine tri_g opg_alloc rfl ?_
 rintro _ _ _ ⟨b8, rfl, rfl, rfl⟩
 refine yG rfl rfl rfl rfl rfl rfl ?_
 rintro _ _ _ ⟨rfl, rfl⟩
 refine tN (tT (tS (tS (tR (tM rfl rfl ?_)))))
 refine tri_v (opv_gtr rfl rfl) rfl ?_
 refine tM rfl rfl ?_
 refine tri_true rfl rfl (by decide) ?_
 refine yR rfl rfl (yF rfl (yR rfl rfl ?_))
 refine yL rfl rfl ?_
 refine yR rfl rfl (yF rfl (yR rfl rfl ?_))
 refine yL rfl rfl ?_
 refine yR rfl rfl ?_
 refine tri_v (opv_sub rfl rfl (w64 (by omega) (by omega))) rfl ?_
 refine yR rfl rfl ?_
 refine tri_v (opv_neq rfl rfl) rfl ?_
 refine tri_v (opv_pick_t rfl rfl) rfl ?_
 refine tN (tT ?_)
 refine tri_cond_dec rfl (fun h2c => ?_) (fun h2c => ?_)
 ·refine tS (tR ?_)
  refine yB rfl rfl ?_
  refine yG rfl rfl rfl rfl rfl rfl ?_
  rintro _ _ _ ⟨rfl, rfl⟩
  refine tA rfl rfl (tN (tT (tri_ret (tri_then_ret (tri_inBlock_ret (tri_then_ret (tri_then_ret ?_)))))))
  refine tri_inBlock_ret (tri_then_ret ?_)
  refine tri_end _ (⟨[_, _, _], rfl⟩) rfl (.cons (rv_cellA rfl rfl rfl) (.cons (rv_tmp rfl) .nil)) ⟨bad ⟨_, _, _, _, _, _⟩ ?_, rfl, rfl⟩
  unfold R6.fit4 R6.nd R6.inS; omega
 refine tri_skip (tT (tS (tR (yF rfl ?_))))
 refine yL rfl rfl ?_
 refine yU rfl rfl ?_
 refine yF rfl ?_
 refine yG rfl rfl rfl rfl rfl rfl ?_
 rintro _ _ _ ⟨rfl, rfl⟩
 refine tN (tT (tR (yF rfl ?_)))
 refine yL rfl rfl ?_
 refine yF rfl ?_
 refine yL rfl rfl ?_
 refine yU rfl rfl ?_
 refine tri_v (opv_min2 rfl rfl) rfl ?_
 refine yF rfl ?_
 refine yG rfl rfl rfl rfl rfl rfl ?_
 rintro _ _ _ ⟨rfl, rfl⟩
 refine tN (tri_inBlock (tT (tR ?_)))
 refine yU rfl rfl ?_
 refine tM rfl rfl (tN (tT (tri_round (tS (tR (yC rfl rfl (tN ?_)))))))
 refine tT (tS ?_)
 have e2 := R6.mn_bd (x := (if 4611686018427387903 < (if 4611686018427387903 < 0 + (ns.getD q0.toNat default).pop then 4611686018427387903 else 0 + (ns.getD q0.toNat default).pop) + (ns.getD q1.toNat default).pop then 4611686018427387903 else (if 4611686018427387903 < 0 + (ns.getD q0.toNat default).pop then 4611686018427387903 else 0 + (ns.getD q0.toNat default).pop) + (ns.getD q1.toNat default).pop) + (ns.getD q2.toNat default).pop) (by omega)
 refine tri_drop ?_
 skip
 refine tri_cond_is rfl (by decide) ?_
 refine tri_skip (tT (tS (tri_block (tS (tR (tM rfl rfl ?_))))))
 refine tri_v (opv_index rfl rfl (by decide) (by decide) rfl rfl) rfl ?_
 refine tA rfl rfl (tA rfl rfl (tN (tT (tS (tS (tR (tM rfl rfl ?_)))))))
 refine yC rfl rfl (tM rfl rfl ?_)
 refine tri_split rfl rfl (fun h3a => ?_) (fun h3a => ?_)
 ·refine tri_guard_skip rfl rfl rfl rfl (tri_guard_skip rfl rfl rfl rfl (tri_guard_skip rfl rfl rfl rfl (tri_guard_skip rfl rfl rfl rfl (tri_guard_skip rfl rfl rfl rfl (tri_guard_skip rfl rfl rfl rfl (tri_guard_skip rfl rfl rfl rfl (tri_guard_skip rfl rfl rfl rfl ?_)))))))
  refine tri_v (opv_pick_t rfl rfl) rfl ?_
  refine tN (tT ?_)
  refine tri_cond_true rfl ?_
  refine tS (tR ?_)
  refine yB rfl rfl ?_
  refine yG rfl rfl rfl rfl rfl rfl ?_
  rintro _ _ _ ⟨rfl, rfl⟩
  refine tA rfl rfl (tN (tT (tri_ret (tri_then_ret (tri_inBlock_ret (tri_then_ret (tri_then_ret ?_)))))))
  refine tri_inBlock_ret (tri_then_ret ?_)
  refine tri_end _ (⟨[_, _], rfl⟩) rfl (.cons (rv_cellA rfl rfl rfl) (.cons (rv_tmp rfl) .nil)) ⟨bad ⟨_, _, _, _, _, _⟩ ?_, rfl, rfl⟩
  unfold R6.fit4 R6.inS; omega
 refine yR rfl rfl (tM rfl rfl (yR rfl rfl (tM rfl rfl (yR rfl rfl ?_))))
 refine tri_v (opv_nilCheck rfl) rfl ?_
 refine yR rfl rfl (yF rfl (yR rfl rfl (yF rfl (yR rfl rfl ?_))))
 refine yL rfl rfl ?_
 refine yR rfl rfl ?_
 refine tri_v (opv_len rfl) rfl ?_
 refine yR rfl rfl ?_
 refine tri_v (opv_geq rfl rfl) rfl ?_
 refine tri_v (opv_pick_f rfl rfl) rfl ?_
 refine tN (tT ?_)
 refine tri_cond_dec rfl (fun h3b => ?_) (fun h3b => ?_)
 ·refine tS (tR ?_)
  refine yB rfl rfl ?_
  refine yG rfl rfl rfl rfl rfl rfl ?_
  rintro _ _ _ ⟨rfl, rfl⟩
  refine tA rfl rfl (tN (tT (tri_ret (tri_then_ret (tri_inBlock_ret (tri_then_ret (tri_then_ret ?_)))))))
  refine tri_inBlock_ret (tri_then_ret ?_)
  refine tri_end _ (⟨[_, _], rfl⟩) rfl (.cons (rv_cellA rfl rfl rfl) (.cons (rv_tmp rfl) .nil)) ⟨bad ⟨_, _, _, _, _, _⟩ ?_, rfl, rfl⟩
  unfold R6.fit4 R6.inS; omega
 have b3 := hm.at h3a h3b
 refine tri_skip (tT (tS (tR (tM rfl rfl ?_))))
 refine tri_v (opv_nilCheck rfl) rfl ?_
 refine yF rfl (yF rfl ?_)
 refine yL rfl rfl ?_
 refine tM rfl rfl ?_
 refine tri_v (opv_indexAddrR rfl rfl (by omega) (by omega)) rfl ?_
 refine tri_v (opv_loadRXA rfl rfl (by omega) rfl rfl rfl) rfl ?_
 refine tri_g opg_alloc rfl ?_
 rintro _ _ _ ⟨b8, rfl, rfl, rfl⟩
 refine yG rfl rfl rfl rfl rfl rfl ?_
 rintro _ _ _ ⟨rfl, rfl⟩
 refine tN (tT (tS (tS (tR (tM rfl rfl ?_)))))
 refine tri_v (opv_gtr rfl rfl) rfl ?_
 refine tM rfl rfl ?_
 refine tri_true rfl rfl (by decide) ?_
 refine yR rfl rfl (yF rfl (yR rfl rfl ?_))
 refine yL rfl rfl ?_
 refine yR rfl rfl (yF rfl (yR rfl rfl ?_))
 refine yL rfl rfl ?_
 refine yR rfl rfl ?_
 refine tri_v (opv_sub rfl rfl (w64 (by omega) (by omega))) rfl ?_
 refine yR rfl rfl ?_
 refine tri_v (opv_neq rfl rfl) rfl ?_
 refine tri_v (opv_pick_t rfl rfl) rfl ?_
 refine tN (tT ?_)
 refine tri_cond_dec rfl (fun h3c => ?_) (fun h3c => ?_)
 ·refine tS (tR ?_)
  refine yB rfl rfl ?_
  refine yG rfl rfl rfl rfl rfl rfl ?_
  rintro _ _ _ ⟨rfl, rfl⟩
  refine tA rfl rfl (tN (tT (tri_ret (tri_then_ret (tri_inBlock_ret (tri_then_ret (tri_then_ret ?_)))))))
  refine tri_inBlock_ret (tri_then_ret ?_)
  refine tri_end _ (⟨[_, _, _], rfl⟩) rfl (.cons (rv_cellA rfl rfl rfl) (.cons (rv_tmp rfl) .nil)) ⟨bad ⟨_, _, _, _, _, _⟩ ?_, rfl, rfl⟩
  unfold R6.fit4 R6.nd R6.inS; omega
 refine tri_skip (tT (tS (tR (yF rfl ?_))))
 refine yL rfl rfl ?_
 refine yU rfl rfl ?_
 refine yF rfl ?_
 refine yG rfl rfl rfl rfl rfl rfl ?_
 rintro _ _ _ ⟨rfl, rfl⟩
 refine tN (tT (tR (yF rfl ?_)))
 refine yL rfl rfl ?_
 refine yF rfl ?_
 refine yL rfl rfl ?_
 refine yU rfl rfl ?_
 refine tri_v (opv_min2 rfl rfl) rfl ?_
 refine yF rfl ?_
 refine yG rfl rfl rfl rfl rfl rfl ?_
 rintro _ _ _ ⟨rfl, rfl⟩
 refine tN (tri_inBlock (tT (tR ?_)))
 refine yU rfl rfl ?_
 refine tM rfl rfl (tN (tT (tri_round (tS (tR (yC rfl rfl (tN ?_)))))))
 refine tT (tS ?_)
 refine tri_drop ?_
 skip
 refine tri_cond_not rfl (by decide) ?_
 refine tri_exit ?_
 refine tri_then_exit (tri_then_exit ?_)
 refine tri_inBlock_hit rfl ?_
 refine tT (tS (tR ?_))
 refine yB rfl rfl ?_
 refine yF rfl ?_
 refine yG rfl rfl rfl rfl rfl rfl ?_
 rintro _ _ _ ⟨rfl, rfl⟩
 refine tN (tT (tS (tR ?_)))
 refine yB rfl rfl ?_
 refine yF rfl ?_
 refine yL rfl rfl ?_
 refine tri_v (opv_leq rfl rfl) rfl ?_
 refine yG rfl rfl rfl rfl rfl rfl ?_
 rintro _ _ _ ⟨rfl, rfl⟩
 refine tA rfl rfl (tN (tT (tri_ret ?_)))
 refine tri_end _ (⟨[_, _], rfl⟩) rfl (.cons (rv_cellA rfl rfl rfl) (.cons (rv_tmp rfl) .nil)) ⟨⟨⟨_, _, _, _, _, _⟩, _, rfl, ?_, fun h => ?_⟩, rfl, rfl⟩
 ·rw [decide_eq_true_iff]
  unfold R6.fit4 R6.nd R6.inS
  omega
 ·unfold R6.mk4 R6.nd
  rw [Node.mk.injEq]
  exact ⟨by omega, rfl, rfl, rfl, rfl, rfl⟩
end Go.GL


namespace Go.GL
open Go.Proofs
attribute [local irreducible] wpList Code.wp Exit.then Exit.inBlock Ends Tri TriH OpV OpG FnC epf wpAnyH
theorem key4 (q0 q1 q2 q3 : Int) : int4V q0 q1 q2 q3 = mkv Try.prog 41 [q0, q1, q2, q3] := by kernel_rfl
theorem zeroInt (w : World) : (zeroValue 3).run Try.prog w = .ok (.int .i64 0) w := by kernel_rfl
theorem keyAt : intAt Try.prog 9 41 = some 4 := by kernel_rfl
/-- The index, as it lies in the heap. -/
abbrev IxA (bx mb : Nat) (a : Option Addr) (cap : Nat) (ns : List Node) (room : Int) (es : KVs) (A : List Asrt) : List Asrt :=
 Box bx [.slice a ns.length cap, .int .i64 room, .map (some mb)] 87 :: Row a cap ns.length 43 6 (encs ns) :: MapA Try.prog 41 mb es :: A
set_option maxHeartbeats 1000000 in
set_option maxRecDepth 100000 in
theorem node_put {A : List Asrt} {I : List Chunk} {ns : List Node} {a : Option Addr} {cap bx mb : Nat} {room q0 q1 q2 q3 : Int} {es : KVs} (hg : R6.Good ns room) (h2 : 2 ≤ ns.length) (hi : Idx ns es) :
  FnC Try.prog 88 [pt bx 0, int4V q0 q1 q2 q3].toArray (IxA bx mb a cap ns room es A) I (fun v A' I' => ∃ a' cap' es', v = .tuple [.int .i64 (R6.put ns room q0 q1 q2 q3).2.1, .int .i64 (R6.put ns room q0 q1 q2 q3).2.2].toArray ∧ A' = IxA bx mb a' cap' (R6.put ns room q0 q1 q2 q3).1 room es' A ∧ Idx (R6.put ns room q0 q1 q2 q3).1 es' ∧ I = I') := by
 have hn := hg.len
 have hmf := hi [q0, q1, q2, q3]
 skip
 refine fn_enter2 Try.func88 rfl Try.ntmps88 rfl fun w0 => ?_
 refine tS (tR ?_)
 refine tri_g (opg_box_agg rfl) rfl ?_
 rintro _ _ _ ⟨b3, rfl, rfl, rfl⟩
 refine tA rfl rfl (tA rfl rfl (tN (tT (tS ?_))))
 refine tri_perm (A := ?a1_0 :: ?a1_1 :: ?a1_2 :: ?T1) (B := ?a1_1 :: ?a1_2 :: ?a1_0 :: ?T1) (by exact permL [1, 2, 0] [?a1_0, ?a1_1, ?a1_2] ?T1 (by decide) rfl) ?_
 refine tR (tM rfl rfl ?_)
 refine yB rfl rfl ?_
 refine tri_g (opg_call (xs := [_, _]) rfl (node_parent hn hg.mod)) rfl ?_
 rintro _ _ _ ⟨⟨z, ok, rfl, hok, hz⟩, rfl, rfl⟩
 refine tM rfl rfl ?_
 refine tri_v (opv_extract rfl rfl) rfl ?_
 refine tri_v (opv_extract rfl rfl) rfl ?_
 refine tri_g opg_alloc rfl ?_
 rintro _ _ _ ⟨b6, rfl, rfl, rfl⟩
 refine yG rfl rfl rfl rfl rfl rfl ?_
 rintro _ _ _ ⟨rfl, rfl⟩
 refine tA rfl rfl (tN (tT (tS (tS (tR (tM rfl rfl ?_))))))
 refine tri_v (opv_not rfl) rfl ?_
 refine tN (tT ?_)
 refine tri_cond rfl (fun h => ?_) (fun h => ?_)
 ·have hf : ¬ R6.fit4 ns q0 q1 q2 q3 := fun hf => by
   rw [hok.2 hf] at h; cases h
  rw [show R6.put ns room q0 q1 q2 q3 = (ns, 0, 1) from if_neg hf]
  refine tS (tR (tA rfl rfl (tA rfl rfl (tN (tT (tri_ret (tri_then_ret ?_)))))))
  refine tri_perm (A := ?a2_0 :: ?a2_1 :: ?a2_2 :: ?a2_3 :: ?a2_4 :: ?T2) (B := ?a2_0 :: ?a2_3 :: ?a2_1 :: ?a2_2 :: ?a2_4 :: ?T2) (by exact permL [0, 3, 1, 2, 4] [?a2_0, ?a2_1, ?a2_2, ?a2_3, ?a2_4] ?T2 (by decide) rfl) ?_
  refine tri_end _ (⟨[_, _], rfl⟩) rfl (.cons (rv_tmp rfl) (.cons (rv_tmp rfl) .nil)) ⟨a, cap, es, rfl, rfl, hi, rfl⟩
 have hok1 : ok = true := by cases ok <;> simp_all
 have hf := hok.1 hok1
 have hz' := hz hok1
 subst hz'
 have hput : R6.put ns room q0 q1 q2 q3 = if 0 ≤ R6.at_ ns [q0, q1, q2, q3] then (ns, R6.at_ ns [q0, q1, q2, q3], 0) else if room ≤ ns.length then (ns, 0, 40) else (ns ++ [R6.mk4 ns q0 q1 q2 q3], ns.length, 0) := if_pos hf
 refine tri_skip (tT (tS (tS ?_)))
 refine tri_draw [0, 1, 2, 3, 4, 5, 6, 7, 8, 9, 10] rfl [] rfl mixed ?_
 refine yM rfl rfl (yn rfl rfl (yf rfl rfl ?_))
 refine yl rfl rfl rfl ?_
 refine th_take rfl rfl (by kernel_rfl)  (opv_loadA rfl rfl rfl) ?_
 refine th_take rfl rfl (by kernel_rfl)  (opv_lookup2 (P := Try.prog) (ks := [q0, q1, q2, q3]) zeroInt rfl rfl (key4 q0 q1 q2 q3) keyAt rfl) ?_
 refine yM rfl rfl (yE rfl rfl rfl (yE rfl rfl rfl (yA rfl rfl (yA rfl rfl (yD (tT (tS ?_)))))))
 refine tR (tM rfl rfl (tN (tT ?_)))
 by_cases hat : 0 ≤ R6.at_ ns [q0, q1, q2, q3]
 ·rw [if_pos hat] at hmf hput
  rw [hput]
  refine tri_cond_true (congrArg (fun o => some (Value.bool (Option.isSome o))) hmf) ?_
  refine tS (tR (tM rfl rfl (tA rfl rfl (tA rfl rfl (tN (tT (tri_ret ?_)))))))
  refine tri_then_ret ?_
  refine tri_perm (A := ?a3_0 :: ?a3_1 :: ?a3_2 :: ?a3_3 :: ?a3_4 :: ?T3) (B := ?a3_0 :: ?a3_3 :: ?a3_1 :: ?a3_2 :: ?a3_4 :: ?T3) (by exact permL [0, 3, 1, 2, 4] [?a3_0, ?a3_1, ?a3_2, ?a3_3, ?a3_4] ?T3 (by decide) rfl) ?_
  refine tri_end _ (⟨[_, _], rfl⟩) rfl (.cons (rv_tmp rfl) (.cons (rv_tmp rfl) .nil)) ⟨a, cap, es, ?_, rfl, hi, rfl⟩
  rw [hmf]; rfl
 rw [if_neg hat] at hmf hput
 skip
 refine tri_cond_false (congrArg (fun o => some (Value.bool (Option.isSome o))) hmf) ?_
 refine tri_skip (tT (tS (tS ?_)))
 refine tri_draw [0, 1, 2, 3, 4, 5, 6, 7, 8, 9, 10, 11] rfl [] rfl mixed ?_
 refine yM rfl rfl (yn rfl rfl (yf rfl rfl (yf rfl rfl ?_)))
 refine yl rfl rfl rfl ?_
 refine th_take rfl rfl (by kernel_rfl)  (opv_len rfl) ?_
 refine yM rfl rfl (yn rfl rfl (yf rfl rfl (yf rfl rfl ?_)))
 refine yl rfl rfl rfl ?_
 refine th_take rfl rfl (by kernel_rfl)  (opv_geq rfl rfl) ?_
 refine yD (tT ?_)
 refine tri_cond_dec rfl (fun h7 => ?_) (fun h7 => ?_)
 ·rw [if_pos h7] at hput
  rw [hput]
  refine tS (tR (tA rfl rfl (tA rfl rfl (tN (tT (tri_ret (tri_then_ret ?_)))))))
  refine tri_perm (A := ?a4_0 :: ?a4_1 :: ?a4_2 :: ?a4_3 :: ?a4_4 :: ?T4) (B := ?a4_0 :: ?a4_3 :: ?a4_1 :: ?a4_2 :: ?a4_4 :: ?T4) (by exact permL [0, 3, 1, 2, 4] [?a4_0, ?a4_1, ?a4_2, ?a4_3, ?a4_4] ?T4 (by decide) rfl) ?_
  refine tri_end _ (⟨[_, _], rfl⟩) rfl (.cons (rv_tmp rfl) (.cons (rv_tmp rfl) .nil)) ⟨a, cap, es, rfl, rfl, hi, rfl⟩
 rw [if_neg h7] at hput
 rw [hput]
 skip
 refine tri_skip (tT (tS (tR (tM rfl rfl ?_))))
 refine tri_v (opv_nilCheck rfl) rfl ?_
 refine yF rfl (yF rfl ?_)
 refine yL rfl rfl ?_
 refine tri_v (opv_len rfl) rfl ?_
 refine tA rfl rfl (tN (tT (tS ?_)))
 refine tri_perm (A := ?a5_0 :: ?a5_1 :: ?a5_2 :: ?a5_3 :: ?a5_4 :: ?T5) (B := ?a5_4 :: ?a5_0 :: ?a5_1 :: ?a5_2 :: ?a5_3 :: ?T5) (by exact permL [4, 0, 1, 2, 3] [?a5_0, ?a5_1, ?a5_2, ?a5_3, ?a5_4] ?T5 (by decide) rfl) ?_
 skip
 skip
 refine tri_draw [0, 1, 2, 3, 4, 5, 6] rfl [_] rfl mixed ?_
 refine yM rfl rfl (yn rfl rfl (yf rfl rfl ?_))
 refine yl rfl rfl rfl ?_
 refine th_take rfl rfl (by kernel_rfl)  (opv_loadA rfl rfl rfl) ?_
 refine yM rfl rfl ?_
 refine th_one (by kernel_rfl) (step_m rfl rfl (opg_mapUpdate (P := Try.prog) (ks := [q0, q1, q2, q3]) rfl rfl rfl (key4 q0 q1 q2 q3) keyAt rfl) ?_)
 rintro _ _ _ ⟨rfl, rfl⟩
 refine ⟨Suf.h, (fun _ h => h), ?_⟩
 refine yD (tT (tS ?_))
 refine tri_perm (A := ?a6_0 :: ?a6_1 :: ?a6_2 :: ?a6_3 :: ?a6_4 :: ?T6) (B := ?a6_2 :: ?a6_3 :: ?a6_0 :: ?a6_1 :: ?a6_4 :: ?T6) (by exact permL [2, 3, 0, 1, 4] [?a6_0, ?a6_1, ?a6_2, ?a6_3, ?a6_4] ?T6 (by decide) rfl) ?_
 skip
 refine tri_draw [0, 1, 2, 3, 4, 6, 5, 7, 8, 9, 10, 11, 12] rfl [_, _] rfl mixed ?_
 refine yM rfl rfl (yM rfl rfl (yn rfl rfl (yf rfl rfl (yf rfl rfl ?_))))
 refine th_take rfl rfl (by kernel_rfl)  (opv_loadA rfl rfl rfl) ?_
 refine th_two (j := 7) [5, 8, 9, 10, 11, 12] (by kernel_rfl) rfl ?_ ?_
 ·refine (step_m rfl rfl (OpV.toG (opv_load1 rfl rfl rfl)) ?_)
  rintro _ _ _ ⟨rfl, rfl, rfl⟩
  refine ⟨Suf.h, (fun _ h => h), ?_⟩
  refine th_one (by kernel_rfl) (step_m rfl rfl (opg_buildSlice rfl rfl rfl rfl) ?_)
  rintro _ _ _ ⟨b61, rfl, rfl, rfl⟩
  refine ⟨Suf.h, (fun _ h => h), ?_⟩
  refine th_one (by kernel_rfl) (step_m rfl rfl (opg_appendB rfl rfl rfl rfl (by omega) rfl) ?_)
  rintro _ _ _ ⟨a3, cap3, rfl, rfl, rfl⟩
  refine ⟨Suf.h, (fun _ h => h), ?_⟩
  refine yn rfl rfl (yf rfl rfl (yf rfl rfl ?_))
  refine th_one (by kernel_rfl) (step_m rfl rfl (opg_store rfl rfl rfl rfl rfl rfl) ?_)
  rintro _ _ _ ⟨rfl, rfl⟩
  refine ⟨Suf.h, (fun _ h => h), ?_⟩
  refine yD (tT (tS (tR (tM rfl rfl (tA rfl rfl (tA rfl rfl (tN ?_)))))))
  refine tT (tri_ret ?_)
  refine tri_perm (A := ?a7_0 :: ?a7_1 :: ?a7_2 :: ?a7_3 :: ?a7_4 :: ?a7_5 :: ?T7) (B := ?a7_2 :: ?a7_0 :: ?a7_1 :: ?a7_3 :: ?a7_4 :: ?a7_5 :: ?T7) (by exact permL [2, 0, 1, 3, 4, 5] [?a7_0, ?a7_1, ?a7_2, ?a7_3, ?a7_4, ?a7_5] ?T7 (by decide) rfl) ?_
  have hix := hi.snoc h2 (R6.mk4 ns q0 q1 q2 q3) hat
  have hl : (ns ++ [R6.mk4 ns q0 q1 q2 q3]).length = ns.length + 1 := by simp
  refine tri_rowEq (len' := (ns ++ [R6.mk4 ns q0 q1 q2 q3]).length) (cells' := encs (ns ++ [R6.mk4 ns q0 q1 q2 q3])) hl.symm (by rw [encs_append]; rfl) ?_
  rw [← hl]
  refine tri_perm (A := ?a8_0 :: ?a8_1 :: ?a8_2 :: ?a8_3 :: ?a8_4 :: ?a8_5 :: ?T8) (B := ?a8_1 :: ?a8_4 :: ?a8_5 :: ?a8_2 :: ?a8_0 :: ?a8_3 :: ?T8) (by exact permL [1, 4, 5, 2, 0, 3] [?a8_0, ?a8_1, ?a8_2, ?a8_3, ?a8_4, ?a8_5] ?T8 (by decide) rfl) ?_
  refine tri_end (IxA bx mb a3 cap3 (ns ++ [R6.mk4 ns q0 q1 q2 q3]) room (mset es [q0, q1, q2, q3] (.int .i64 ns.length)) A) Suf.h rfl (.cons (rv_tmp rfl) (.cons (rv_tmp rfl) .nil)) ⟨a3, cap3, _, rfl, rfl, hix, rfl⟩
 ·refine (step_m rfl rfl (opg_buildSlice rfl rfl rfl rfl) ?_)
  rintro _ _ _ ⟨b61, rfl, rfl, rfl⟩
  refine ⟨Suf.h, (fun _ h => h), ?_⟩
  refine th_one (by kernel_rfl) (step_m rfl rfl (OpV.toG (opv_load1 rfl rfl rfl)) ?_)
  rintro _ _ _ ⟨rfl, rfl, rfl⟩
  refine ⟨Suf.h, (fun _ h => h), ?_⟩
  refine th_one (by kernel_rfl) (step_m rfl rfl (opg_appendB rfl rfl rfl rfl (by omega) rfl) ?_)
  rintro _ _ _ ⟨a3, cap3, rfl, rfl, rfl⟩
  refine ⟨Suf.h, (fun _ h => h), ?_⟩
  refine yn rfl rfl (yf rfl rfl (yf rfl rfl ?_))
  refine th_one (by kernel_rfl) (step_m rfl rfl (opg_store rfl rfl rfl rfl rfl rfl) ?_)
  rintro _ _ _ ⟨rfl, rfl⟩
  refine ⟨Suf.h, (fun _ h => h), ?_⟩
  refine yD (tT (tS (tR (tM rfl rfl (tA rfl rfl (tA rfl rfl (tN ?_)))))))
  refine tT (tri_ret ?_)
  refine tri_perm (A := ?a9_0 :: ?a9_1 :: ?a9_2 :: ?a9_3 :: ?a9_4 :: ?a9_5 :: ?T9) (B := ?a9_2 :: ?a9_0 :: ?a9_1 :: ?a9_3 :: ?a9_4 :: ?a9_5 :: ?T9) (by exact permL [2, 0, 1, 3, 4, 5] [?a9_0, ?a9_1, ?a9_2, ?a9_3, ?a9_4, ?a9_5] ?T9 (by decide) rfl) ?_
  have hix := hi.snoc h2 (R6.mk4 ns q0 q1 q2 q3) hat
  have hl : (ns ++ [R6.mk4 ns q0 q1 q2 q3]).length = ns.length + 1 := by simp
  refine tri_rowEq (len' := (ns ++ [R6.mk4 ns q0 q1 q2 q3]).length) (cells' := encs (ns ++ [R6.mk4 ns q0 q1 q2 q3])) hl.symm (by rw [encs_append]; rfl) ?_
  rw [← hl]
  refine tri_perm (A := ?a10_0 :: ?a10_1 :: ?a10_2 :: ?a10_3 :: ?a10_4 :: ?a10_5 :: ?T10) (B := ?a10_1 :: ?a10_4 :: ?a10_5 :: ?a10_2 :: ?a10_0 :: ?a10_3 :: ?T10) (by exact permL [1, 4, 5, 2, 0, 3] [?a10_0, ?a10_1, ?a10_2, ?a10_3, ?a10_4, ?a10_5] ?T10 (by decide) rfl) ?_
  refine tri_end (IxA bx mb a3 cap3 (ns ++ [R6.mk4 ns q0 q1 q2 q3]) room (mset es [q0, q1, q2, q3] (.int .i64 ns.length)) A) Suf.h rfl (.cons (rv_tmp rfl) (.cons (rv_tmp rfl) .nil)) ⟨a3, cap3, _, rfl, rfl, hix, rfl⟩
end Go.GL


namespace Go.GL
open Go.Proofs
attribute [local irreducible] wpList Code.wp Exit.then Exit.inBlock Ends Tri TriH OpV OpG FnC epf wpAnyH
/-- What node.Of tells. -/
def OfR (ns : List Node) (room : Int) (A : List Asrt) (I : List Chunk) : Value → List Asrt → List Chunk → Prop := fun v A' I' =>
 (R6.right ns room ∧ ∃ bx mb a' cap' es, v = .tuple [pt bx 0, .bool true].toArray ∧ A' = IxA bx mb a' cap' ns room es A ∧ Idx ns es ∧ I = I') ∨ (¬ R6.right ns room ∧ v = .tuple [.pointer none, .bool false].toArray ∧ A = A' ∧ I = I')
set_option maxHeartbeats 1000000 in
set_option maxRecDepth 100000 in
theorem node_of {A : List Asrt} {I : List Chunk} {ns : List Node} {a : Option Addr} {cap : Nat} {room : Int} (hs : StA I a cap ns) (hn : ns.length ≤ 1000000000) :
  FnC Try.prog 48 [storeV a ns.length cap room].toArray A I (OfR ns room A I) := by
 have hsl := hs.sl
 skip
 refine fn_enter1 Try.func48 rfl Try.ntmps48 rfl fun w0 => ?_
 refine tS (tR ?_)
 refine tri_g (opg_box_agg rfl) rfl ?_
 rintro _ _ _ ⟨b1, rfl, rfl, rfl⟩
 refine tA rfl rfl (tA rfl rfl (tN (tT (tS (tR (yF rfl ?_))))))
 refine yL rfl rfl ?_
 refine tri_v (opv_len rfl) rfl ?_
 refine tA rfl rfl (tN (tT (tS (tS (tR (yF rfl ?_))))))
 refine yL rfl rfl ?_
 refine yC rfl rfl (tM rfl rfl ?_)
 refine tri_split rfl rfl (fun h1 => ?_) (fun h1 => ?_)
 ·refine tri_guard_skip rfl rfl rfl rfl (tri_guard_skip rfl rfl rfl rfl (tri_guard_skip rfl rfl rfl rfl ?_))
  refine tri_v (opv_pick_t rfl rfl) rfl ?_
  refine tM rfl rfl (tri_guard_skip rfl rfl rfl rfl (tri_guard_skip rfl rfl rfl rfl ?_))
  refine tri_v (opv_pick_t rfl rfl) rfl ?_
  refine tM rfl rfl (tri_guard_skip rfl rfl rfl rfl (tri_guard_skip rfl rfl rfl rfl (tri_guard_skip rfl rfl rfl rfl (tri_guard_skip rfl rfl rfl rfl ?_))))
  refine tri_v (opv_pick_t rfl rfl) rfl ?_
  refine tM rfl rfl (tri_guard_skip rfl rfl rfl rfl (tri_guard_skip rfl rfl rfl rfl (tri_guard_skip rfl rfl rfl rfl (tri_guard_skip rfl rfl rfl rfl (tri_guard_skip rfl rfl rfl rfl (tri_guard_skip rfl rfl rfl rfl ?_))))))
  refine tri_v (opv_pick_t rfl rfl) rfl ?_
  refine tM rfl rfl (tri_guard_skip rfl rfl rfl rfl (tri_guard_skip rfl rfl rfl rfl (tri_guard_skip rfl rfl rfl rfl (tri_guard_skip rfl rfl rfl rfl (tri_guard_skip rfl rfl rfl rfl (tri_guard_skip rfl rfl rfl rfl ?_))))))
  refine tri_v (opv_pick_t rfl rfl) rfl ?_
  refine tN (tT ?_)
  refine tri_cond_true rfl ?_
  refine tS (tR (tA rfl rfl (tA rfl rfl (tN (tT (tri_ret (tri_then_ret ?_)))))))
  refine tri_end A Suf.h rfl (.cons (rv_tmp rfl) (.cons (rv_tmp rfl) .nil)) (.inr ⟨fun hf => ?_, rfl, rfl, rfl⟩)
  have := hf.1.1; omega
 refine yR rfl rfl (yF rfl (yR rfl rfl ?_))
 refine yL rfl rfl ?_
 refine yR rfl rfl ?_
 refine tri_v (opv_gtr rfl rfl) rfl ?_
 refine tri_v (opv_pick_f rfl rfl) rfl ?_
 refine tM rfl rfl ?_
 refine tri_split rfl rfl (fun h2 => ?_) (fun h2 => ?_)
 ·refine tri_guard_skip rfl rfl rfl rfl (tri_guard_skip rfl rfl rfl rfl ?_)
  refine tri_v (opv_pick_t rfl rfl) rfl ?_
  refine tM rfl rfl (tri_guard_skip rfl rfl rfl rfl (tri_guard_skip rfl rfl rfl rfl (tri_guard_skip rfl rfl rfl rfl (tri_guard_skip rfl rfl rfl rfl ?_))))
  refine tri_v (opv_pick_t rfl rfl) rfl ?_
  refine tM rfl rfl (tri_guard_skip rfl rfl rfl rfl (tri_guard_skip rfl rfl rfl rfl (tri_guard_skip rfl rfl rfl rfl (tri_guard_skip rfl rfl rfl rfl (tri_guard_skip rfl rfl rfl rfl (tri_guard_skip rfl rfl rfl rfl ?_))))))
  refine tri_v (opv_pick_t rfl rfl) rfl ?_
  refine tM rfl rfl (tri_guard_skip rfl rfl rfl rfl (tri_guard_skip rfl rfl rfl rfl (tri_guard_skip rfl rfl rfl rfl (tri_guard_skip rfl rfl rfl rfl (tri_guard_skip rfl rfl rfl rfl (tri_guard_skip rfl rfl rfl rfl ?_))))))
  refine tri_v (opv_pick_t rfl rfl) rfl ?_
  refine tN (tT ?_)
  refine tri_cond_true rfl ?_
  refine tS (tR (tA rfl rfl (tA rfl rfl (tN (tT (tri_ret (tri_then_ret ?_)))))))
  refine tri_end A Suf.h rfl (.cons (rv_tmp rfl) (.cons (rv_tmp rfl) .nil)) (.inr ⟨fun hf => ?_, rfl, rfl, rfl⟩)
  have := hf.1.2.1; omega
 refine yR rfl rfl (tM rfl rfl (yR rfl rfl (yC rfl rfl ?_)))
 refine tri_v (opv_pick_f rfl rfl) rfl ?_
 refine tM rfl rfl ?_
 refine tri_split rfl rfl (fun h3 => ?_) (fun h3 => ?_)
 ·refine tri_guard_skip rfl rfl rfl rfl (tri_guard_skip rfl rfl rfl rfl (tri_guard_skip rfl rfl rfl rfl (tri_guard_skip rfl rfl rfl rfl ?_)))
  refine tri_v (opv_pick_t rfl rfl) rfl ?_
  refine tM rfl rfl (tri_guard_skip rfl rfl rfl rfl (tri_guard_skip rfl rfl rfl rfl (tri_guard_skip rfl rfl rfl rfl (tri_guard_skip rfl rfl rfl rfl (tri_guard_skip rfl rfl rfl rfl (tri_guard_skip rfl rfl rfl rfl ?_))))))
  refine tri_v (opv_pick_t rfl rfl) rfl ?_
  refine tM rfl rfl (tri_guard_skip rfl rfl rfl rfl (tri_guard_skip rfl rfl rfl rfl (tri_guard_skip rfl rfl rfl rfl (tri_guard_skip rfl rfl rfl rfl (tri_guard_skip rfl rfl rfl rfl (tri_guard_skip rfl rfl rfl rfl ?_))))))
  refine tri_v (opv_pick_t rfl rfl) rfl ?_
  refine tN (tT ?_)
  refine tri_cond_true rfl ?_
  refine tS (tR (tA rfl rfl (tA rfl rfl (tN (tT (tri_ret (tri_then_ret ?_)))))))
  refine tri_end A Suf.h rfl (.cons (rv_tmp rfl) (.cons (rv_tmp rfl) .nil)) (.inr ⟨fun hf => ?_, rfl, rfl, rfl⟩)
  have := hf.1.2.2.1; omega
 refine yR rfl rfl (tM rfl rfl (yR rfl rfl (yF rfl (yR rfl rfl ?_))))
 refine yL rfl rfl ?_
 refine yR rfl rfl ?_
 refine tri_v (opv_gtr rfl rfl) rfl ?_
 refine tri_v (opv_pick_f rfl rfl) rfl ?_
 refine tM rfl rfl ?_
 refine tri_split rfl rfl (fun h4 => ?_) (fun h4 => ?_)
 ·refine tri_guard_skip rfl rfl rfl rfl (tri_guard_skip rfl rfl rfl rfl (tri_guard_skip rfl rfl rfl rfl (tri_guard_skip rfl rfl rfl rfl (tri_guard_skip rfl rfl rfl rfl (tri_guard_skip rfl rfl rfl rfl ?_)))))
  refine tri_v (opv_pick_t rfl rfl) rfl ?_
  refine tM rfl rfl (tri_guard_skip rfl rfl rfl rfl (tri_guard_skip rfl rfl rfl rfl (tri_guard_skip rfl rfl rfl rfl (tri_guard_skip rfl rfl rfl rfl (tri_guard_skip rfl rfl rfl rfl (tri_guard_skip rfl rfl rfl rfl ?_))))))
  refine tri_v (opv_pick_t rfl rfl) rfl ?_
  refine tN (tT ?_)
  refine tri_cond_true rfl ?_
  refine tS (tR (tA rfl rfl (tA rfl rfl (tN (tT (tri_ret (tri_then_ret ?_)))))))
  refine tri_end A Suf.h rfl (.cons (rv_tmp rfl) (.cons (rv_tmp rfl) .nil)) (.inr ⟨fun hf => ?_, rfl, rfl, rfl⟩)
  have := hf.1.2.2.2.1; omega
 refine yR rfl rfl (yF rfl (yR rfl rfl ?_))
 refine yL rfl rfl ?_
 refine yR rfl rfl ?_
 refine tri_v (opv_indexAddrS rfl rfl (by omega) (by omega) (by assumption) rfl) rfl ?_
 refine yR rfl rfl ?_
 refine tri_v (opv_loadEA rfl (by assumption) rfl (by omega) rfl rfl) rfl ?_
 refine yR rfl rfl ?_
 refine tri_v (opv_buildS rfl rfl) rfl ?_
 refine yR rfl rfl ?_
 refine tri_v (opv_neqI rfl rfl rfl rfl rfl rfl) rfl ?_
 refine tri_v (opv_pick_f rfl rfl) rfl ?_
 refine tM rfl rfl ?_
 refine tri_split rfl rfl (fun h5 => ?_) (fun h5 => ?_)
 ·refine tri_guard_skip rfl rfl rfl rfl (tri_guard_skip rfl rfl rfl rfl (tri_guard_skip rfl rfl rfl rfl (tri_guard_skip rfl rfl rfl rfl (tri_guard_skip rfl rfl rfl rfl (tri_guard_skip rfl rfl rfl rfl ?_)))))
  refine tri_v (opv_pick_t rfl rfl) rfl ?_
  refine tN (tT ?_)
  refine tri_cond_true rfl ?_
  refine tS (tR (tA rfl rfl (tA rfl rfl (tN (tT (tri_ret (tri_then_ret ?_)))))))
  refine tri_end A Suf.h rfl (.cons (rv_tmp rfl) (.cons (rv_tmp rfl) .nil)) (.inr ⟨fun hf => ?_, rfl, rfl, rfl⟩)
  exact Node.ne_iff'.2 h5 hf.1.2.2.2.2.1
 refine yR rfl rfl (yF rfl (yR rfl rfl ?_))
 refine yL rfl rfl ?_
 refine yR rfl rfl ?_
 refine tri_v (opv_indexAddrS rfl rfl (by omega) (by omega) (by assumption) rfl) rfl ?_
 refine yR rfl rfl ?_
 refine tri_v (opv_loadEA rfl (by assumption) rfl (by omega) rfl rfl) rfl ?_
 refine yR rfl rfl ?_
 refine tri_v (opv_buildS rfl rfl) rfl ?_
 refine yR rfl rfl ?_
 refine tri_v (opv_neqI rfl rfl rfl rfl rfl rfl) rfl ?_
 refine tri_v (opv_pick_f rfl rfl) rfl ?_
 refine tN (tT ?_)
 refine tri_cond_dec rfl (fun h6 => ?_) (fun h6 => ?_)
 ·refine tS (tR (tA rfl rfl (tA rfl rfl (tN (tT (tri_ret (tri_then_ret ?_)))))))
  refine tri_end A Suf.h rfl (.cons (rv_tmp rfl) (.cons (rv_tmp rfl) .nil)) (.inr ⟨fun hf => ?_, rfl, rfl, rfl⟩)
  exact Node.ne_iff'.2 h6 hf.1.2.2.2.2.2
 skip
 have e0 : ns.getD 0 default = R6.n0 := Decidable.not_not.1 fun h => h5 (Node.ne_iff'.1 h)
 have e1 : ns.getD 1 default = R6.n1 := Decidable.not_not.1 fun h => h6 (Node.ne_iff'.1 h)
 have et : ns.take 2 = [R6.n0, R6.n1] := by
  rw [← e0, ← e1]
  apply List.ext_getElem
  ·rw [List.length_take]; simp; omega
  ·intro i h1 h2
   rw [List.length_take] at h1
   rcases (by omega : i = 0 ∨ i = 1) with rfl | rfl <;> simp <;> rw [List.getElem?_eq_getElem (by omega)] <;> simp
 have htl : (ns.take 2).length = 2 := by rw [et]; rfl
 refine tri_skip (tT (tS ?_))
 refine tri_cut (fun F' A' J => ∃ bx mb a1 c1, F' = [(1, pt b1 0), (5, pt bx 0)] ∧ A' = IxA bx mb a1 c1 (ns.take 2) room [] (Box b1 [.slice a ns.length cap, .int .i64 room] 26 :: A) ∧ I = J) ?_ ?_
 ·refine tri_draw [0, 1, 2, 4, 5, 3, 6, 7, 8, 9, 10] rfl [] rfl mixed ?_
  refine yf rfl rfl ?_
  refine yl rfl rfl rfl ?_
  refine th_take rfl rfl (by kernel_rfl)  (opv_sliceHi rfl rfl (by omega) (by omega) hs rfl) ?_
  refine yf rfl rfl ?_
  refine yl rfl rfl rfl ?_
  refine th_two (j := 7) [3, 6, 8, 9, 10] (by kernel_rfl) rfl ?_ ?_
  ·refine (step_m rfl rfl (opg_call (xs := [_]) rfl (clone_nodes (hsl.take 2) (by omega) (by omega))) ?_)
   rintro _ _ _ ⟨a1, c1, rfl, rfl, rfl⟩
   refine ⟨Suf.h, (fun _ h => h), ?_⟩
   refine th_take rfl rfl (by kernel_rfl)  (opv_buildS rfl rfl) ?_
   refine th_one (by kernel_rfl) (step_m rfl rfl opg_makeMap ?_)
   rintro _ _ _ ⟨b56, rfl, rfl, rfl⟩
   refine ⟨Suf.h, (fun _ h => h), ?_⟩
   refine th_take rfl rfl (by kernel_rfl)  (opv_buildS rfl rfl) ?_
   refine th_one (by kernel_rfl) (step_m rfl rfl (opg_box_agg rfl) ?_)
   rintro _ _ _ ⟨b58, rfl, rfl, rfl⟩
   refine ⟨Suf.h, (fun _ h => h), ?_⟩
   refine yA rfl rfl (yD ?_)
   refine tri_perm (A := ?a1_0 :: ?a1_1 :: ?a1_2 :: ?T1) (B := ?a1_0 :: ?a1_2 :: ?a1_1 :: ?T1) (by exact permL [0, 2, 1] [?a1_0, ?a1_1, ?a1_2] ?T1 (by decide) rfl) ?_
   exact tri_cutEnd _ ⟨b58, b56, a1, c1, rfl, rfl, rfl⟩ ⟨rfl, rfl, trivial⟩
  ·refine (step_m rfl rfl opg_makeMap ?_)
   rintro _ _ _ ⟨b56, rfl, rfl, rfl⟩
   refine ⟨Suf.h, (fun _ h => h), ?_⟩
   refine th_one (by kernel_rfl) (step_m rfl rfl (opg_call (xs := [_]) rfl (clone_nodes (hsl.take 2) (by omega) (by omega))) ?_)
   rintro _ _ _ ⟨a1, c1, rfl, rfl, rfl⟩
   refine ⟨Suf.h, (fun _ h => h), ?_⟩
   refine th_take rfl rfl (by kernel_rfl)  (opv_buildS rfl rfl) ?_
   refine th_take rfl rfl (by kernel_rfl)  (opv_buildS rfl rfl) ?_
   refine th_one (by kernel_rfl) (step_m rfl rfl (opg_box_agg rfl) ?_)
   rintro _ _ _ ⟨b58, rfl, rfl, rfl⟩
   refine ⟨Suf.h, (fun _ h => h), ?_⟩
   refine yA rfl rfl (yD ?_)
   exact tri_cutEnd _ ⟨b58, b56, a1, c1, rfl, rfl, rfl⟩ ⟨rfl, rfl, trivial⟩
 rintro _ _ _ ⟨bx, mb, a1, c1, rfl, rfl, rfl⟩
 skip
 refine tT (tS (tS (tR (yF rfl ?_))))
 refine yL rfl rfl ?_
 refine tri_g (opg_sliceLo rfl rfl (by omega) (by omega) hs rfl rfl) rfl ?_
 rintro _ _ _ ⟨a5, rfl, hs5, rfl, rfl⟩
 have hs5' := hs5.sl
 have hdl : (ns.drop (2:Int).toNat).length = ns.length - 2 := by rw [List.length_drop]; rfl
 refine tri_v (opv_len rfl) rfl ?_
 refine tM rfl rfl (tN (tT (tri_block ?_)))
 have hix0 : Idx (ns.take (0 + 2)) [] := by rw [et]; exact Idx.start
 have hm0 : R6.ModTo ns (0 + 2) := fun j hj => by
  rcases (by omega : j = 0 ∨ j = 1) with rfl | rfl
  ·rw [e0]; decide
  ·rw [e1]; decide
 refine tri_sub (F' := [(1, pt b1 0), (5, pt bx 0), (61, .slice a5 (ns.drop (2:Int).toNat).length (cap - (2:Int).toNat)), (62, .int .i64 ((ns.drop (2:Int).toNat).length : Nat)), (63, .int .i64 (0 : Nat))]) ⟨rfl, rfl, rfl, rfl, rfl, trivial⟩ ?_
 refine loop_ind (G := Nat × Option Addr × Nat × KVs) (fun g => ns.length - g.1) (fun g => g.1 + 2 ≤ ns.length ∧ (∀ j, j < g.1 + 2 → 2 ≤ j → R6.fits ns j) ∧ R6.ModTo ns (g.1 + 2) ∧ Idx (ns.take (g.1 + 2)) g.2.2.2) (fun g => [(1, pt b1 0), (5, pt bx 0), (61, .slice a5 (ns.drop (2:Int).toNat).length (cap - (2:Int).toNat)), (62, .int .i64 ((ns.drop (2:Int).toNat).length : Nat)), (63, .int .i64 (g.1 : Nat))])
  (fun g => IxA bx mb g.2.1 g.2.2.1 (ns.take (g.1 + 2)) room g.2.2.2 (Box b1 [.slice a ns.length cap, .int .i64 room] 26 :: A)) (fun _ => I) ?_ (0, a1, c1, []) ⟨by simp only; omega, fun j h h' => absurd h (by simp only; omega), hm0, hix0⟩
 rintro ⟨i, ai, ci, es⟩ ⟨hi, hok, hmi, hix⟩ K hK
 simp only at hi hok hmi hix hK ⊢
 have htk : (ns.take (i + 2)).length = i + 2 := by rw [List.length_take]; omega
 skip
 refine tS (tR (yC rfl rfl (tN (tT (tS ?_)))))
 refine tri_cond_dec rfl (fun h => ?_) (fun h => ?_)
 ·have hlt : i + 2 < ns.length := by omega
  have hy : (ns.drop (2:Int).toNat).getD i default = ns.getD (i + 2) default := by
   rw [List.getD_eq_getElem?_getD, List.getD_eq_getElem?_getD, List.getElem?_drop, show (2:Int).toNat + i = i + 2 by simp; omega]
  have hfi := R6.fits_iff (by omega) hlt hmi
  have htk1 : ns.take (i + 2 + 1) = ns.take (i + 2) ++ [ns.getD (i + 2) default] := by
   rw [List.take_succ_eq_append_getElem hlt]; simp [hlt]
  obtain ⟨y, hyd⟩ : ∃ y, y = (ns.drop (2:Int).toNat).getD i default := ⟨_, rfl⟩
  have hy2 : y = ns.getD (i + 2) default := hyd.trans hy
  rw [← hy2] at hfi htk1
  have hmf := hix y.kids
  refine tri_skip (tT (tS (tri_block (tS (tR (tM rfl rfl ?_))))))
  refine tri_v (opv_indexAddrSN rfl rfl (by omega) (by assumption) rfl) rfl ?_
  refine tri_v (opv_loadEA rfl (by assumption) rfl (by omega) rfl rfl) rfl ?_
  refine tri_g opg_alloc rfl ?_
  rintro _ _ _ ⟨b7, rfl, rfl, rfl⟩
  refine tA rfl rfl ?_
  refine yG rfl rfl rfl rfl rfl rfl ?_
  rintro _ _ _ ⟨rfl, rfl⟩
  refine tN (tT (tS ?_))
  refine tri_sub (F' := [(1, pt b1 0), (5, pt bx 0), (6, .int .i64 (i : Nat)), (7, pt b7 0), (61, .slice a5 (ns.drop (2:Int).toNat).length (cap - (2:Int).toNat)), (62, .int .i64 ((ns.drop (2:Int).toNat).length : Nat)), (63, .int .i64 (i : Nat))]) ⟨rfl, rfl, rfl, rfl, rfl, rfl, rfl, trivial⟩ ?_
  rw [← hyd]
  refine tri_perm (A := ?a2_0 :: ?a2_1 :: ?a2_2 :: ?T2) (B := ?a2_1 :: ?a2_2 :: ?a2_0 :: ?T2) (by exact permL [1, 2, 0] [?a2_0, ?a2_1, ?a2_2] ?T2 (by decide) rfl) ?_
  refine tR (tM rfl rfl (yF rfl ?_))
  refine yB rfl rfl ?_
  refine tri_g (opg_call (xs := [_, _]) rfl (node_parent (by omega) hmi.take)) rfl ?_
  rintro _ _ _ ⟨⟨z, ok, rfl, hok2, hz⟩, rfl, rfl⟩
  refine tM rfl rfl ?_
  refine tri_v (opv_extract rfl rfl) rfl ?_
  refine tri_v (opv_extract rfl rfl) rfl ?_
  refine tri_g opg_alloc rfl ?_
  rintro _ _ _ ⟨b8, rfl, rfl, rfl⟩
  refine yG rfl rfl rfl rfl rfl rfl ?_
  rintro _ _ _ ⟨rfl, rfl⟩
  refine tA rfl rfl (tN (tT (tS (tS ?_))))
  refine tri_draw [0, 1, 2, 3, 4, 5, 6, 7, 8, 9, 10, 11] rfl [] rfl mixed ?_
  refine yM rfl rfl (yn rfl rfl (yf rfl rfl ?_))
  refine yl rfl rfl rfl ?_
  refine yf rfl rfl ?_
  refine th_take rfl rfl (by kernel_rfl)  (opv_loadA rfl rfl rfl) ?_
  refine th_take rfl rfl (by kernel_rfl)  (opv_lookup2 (P := Try.prog) (ks := [y.k0, y.k1, y.k2, y.k3]) zeroInt rfl rfl (key4 y.k0 y.k1 y.k2 y.k3) keyAt rfl) ?_
  refine yM rfl rfl (yE rfl rfl rfl (yE rfl rfl rfl (yA rfl rfl (yA rfl rfl (yD (tT (tS ?_)))))))
  refine tR (tM rfl rfl (tM rfl rfl ?_))
  refine tri_bool 86 rfl (fun g1 => ?_) (fun g1 => ?_)
  ·refine tri_guard_skip rfl rfl rfl rfl (tri_guard_skip rfl rfl rfl rfl ?_)
   refine tri_v (opv_pick_t rfl rfl) rfl ?_
   refine tM rfl rfl (tri_guard_skip rfl rfl rfl rfl (tri_guard_skip rfl rfl rfl rfl (tri_guard_skip rfl rfl rfl rfl ?_)))
   refine tri_v (opv_pick_t rfl rfl) rfl ?_
   refine tN (tT ?_)
   refine tri_cond_true rfl ?_
   refine tS (tR (tA rfl rfl (tA rfl rfl (tN (tT (tri_ret (tri_then_ret ?_)))))))
   refine tri_inBlock_ret (tri_then_ret (tri_then_ret (tri_inBlock_ret (tri_then_ret ?_))))
   refine tri_end A Suf.h rfl (.cons (rv_tmp rfl) (.cons (rv_tmp rfl) .nil)) (.inr ⟨fun hf => ?_, rfl, rfl, rfl⟩)
   have h3 := (hfi.1 (hf.2 (i + 2) hlt (by omega))).1
   rw [if_neg h3] at hmf
   have g1' : (mfind es y.kids).isSome = true := g1
   rw [hmf] at g1'
   cases g1'
  refine yR rfl rfl (tM rfl rfl (yR rfl rfl ?_))
  refine tri_v (opv_not rfl) rfl ?_
  refine tri_v (opv_pick_f rfl rfl) rfl ?_
  refine tM rfl rfl ?_
  have hat : ¬ 0 ≤ R6.at_ (ns.take (i + 2)) y.kids := fun h3 => by
   rw [if_pos h3] at hmf
   have g1' : (mfind es y.kids).isSome = false := g1
   rw [hmf] at g1'
   cases g1'
  refine tri_bool 90 rfl (fun g2 => ?_) (fun g2 => ?_)
  ·refine tri_guard_skip rfl rfl rfl rfl (tri_guard_skip rfl rfl rfl rfl (tri_guard_skip rfl rfl rfl rfl ?_))
   refine tri_v (opv_pick_t rfl rfl) rfl ?_
   refine tN (tT ?_)
   refine tri_cond_true rfl ?_
   refine tS (tR (tA rfl rfl (tA rfl rfl (tN (tT (tri_ret (tri_then_ret ?_)))))))
   refine tri_inBlock_ret (tri_then_ret (tri_then_ret (tri_inBlock_ret (tri_then_ret ?_))))
   refine tri_end A Suf.h rfl (.cons (rv_tmp rfl) (.cons (rv_tmp rfl) .nil)) (.inr ⟨fun hf => ?_, rfl, rfl, rfl⟩)
   have h3 := (hfi.1 (hf.2 (i + 2) hlt (by omega))).2.1
   rw [hok2.2 h3] at g2
   cases g2
  refine yR rfl rfl ?_
  refine yB rfl rfl ?_
  refine yR rfl rfl ?_
  refine yB rfl rfl ?_
  refine yR rfl rfl ?_
  refine tri_v (opv_neqI rfl rfl rfl rfl rfl rfl) rfl ?_
  refine tri_v (opv_pick_f rfl rfl) rfl ?_
  refine tN (tT ?_)
  have hok1 : ok = true := by cases ok <;> simp_all
  have hf4 := hok2.1 hok1
  have hz' := hz hok1
  refine tri_cond_dec rfl (fun g3 => ?_) (fun g3 => ?_)
  ·refine tS (tR (tA rfl rfl (tA rfl rfl (tN (tT (tri_ret (tri_then_ret ?_)))))))
   refine tri_inBlock_ret (tri_then_ret (tri_then_ret (tri_inBlock_ret (tri_then_ret ?_))))
   refine tri_end A Suf.h rfl (.cons (rv_tmp rfl) (.cons (rv_tmp rfl) .nil)) (.inr ⟨fun hf => ?_, rfl, rfl, rfl⟩)
   have h3 := (hfi.1 (hf.2 (i + 2) hlt (by omega))).2.2
   exact Node.ne_iff'.2 g3 (hz'.trans h3)
  have hzy : z = y := Decidable.not_not.1 fun h => g3 (Node.ne_iff'.1 h)
  have hfit : R6.fits ns (i + 2) := hfi.2 ⟨hat, hf4, hz'.symm.trans hzy⟩
  have htk2 : ns.take (i + 1 + 2) = ns.take (i + 2) ++ [y] := htk1
  have hl3 : (ns.take (i + 1 + 2)).length = (ns.take (i + 2)).length + 1 := by rw [htk2]; simp
  have hok2' : ∀ j, j < i + 1 + 2 → 2 ≤ j → R6.fits ns j := fun j hj hj2 => by
   by_cases e : j = i + 2
   ·subst e; exact hfit
   ·exact hok j (by omega) hj2
  have hix2 : Idx (ns.take (i + 1 + 2)) (mset es [y.k0, y.k1, y.k2, y.k3] (.int .i64 ((i : Int) + 2))) := by
   have := hix.snoc (by omega) y hat
   rw [htk, ← htk2] at this
   exact this
  skip
  refine tri_skip (tT (tS ?_))
  refine tri_perm (A := ?a3_0 :: ?a3_1 :: ?a3_2 :: ?a3_3 :: ?a3_4 :: ?T3) (B := ?a3_4 :: ?a3_0 :: ?a3_1 :: ?a3_2 :: ?a3_3 :: ?T3) (by exact permL [4, 0, 1, 2, 3] [?a3_0, ?a3_1, ?a3_2, ?a3_3, ?a3_4] ?T3 (by decide) rfl) ?_
  skip
  refine tri_draw [0, 1, 2, 3, 4, 5, 6, 7, 8] rfl [_] rfl mixed ?_
  refine yM rfl rfl (yn rfl rfl (yf rfl rfl ?_))
  refine yl rfl rfl rfl ?_
  refine yf rfl rfl ?_
  refine th_take rfl rfl (by kernel_rfl)  (opv_loadA rfl rfl rfl) ?_
  refine yM rfl rfl ?_
  refine th_take rfl rfl (by kernel_rfl)  (opv_add rfl rfl (w64 (by omega) (by omega))) ?_
  refine th_one (by kernel_rfl) (step_m rfl rfl (opg_mapUpdate (P := Try.prog) (ks := [y.k0, y.k1, y.k2, y.k3]) rfl rfl rfl (key4 y.k0 y.k1 y.k2 y.k3) keyAt rfl) ?_)
  rintro _ _ _ ⟨rfl, rfl⟩
  refine ⟨Suf.h, (fun _ h => h), ?_⟩
  refine yD (tT ?_)
  refine tri_perm (A := ?a4_0 :: ?a4_1 :: ?a4_2 :: ?a4_3 :: ?a4_4 :: ?T4) (B := ?a4_2 :: ?a4_3 :: ?a4_0 :: ?a4_1 :: ?a4_4 :: ?T4) (by exact permL [2, 3, 0, 1, 4] [?a4_0, ?a4_1, ?a4_2, ?a4_3, ?a4_4] ?T4 (by decide) rfl) ?_
  skip
  refine tri_draw [0, 1, 2, 3, 4, 6, 5, 7, 8, 9, 10, 11, 12] rfl [_, _] rfl mixed ?_
  refine yM rfl rfl (yM rfl rfl (yn rfl rfl (yf rfl rfl (yf rfl rfl ?_))))
  refine th_take rfl rfl (by kernel_rfl)  (opv_loadA rfl rfl rfl) ?_
  refine th_two (j := 7) [5, 8, 9, 10, 11, 12] (by kernel_rfl) rfl ?_ ?_
  ·refine (step_m rfl rfl (OpV.toG (opv_load1 rfl rfl rfl)) ?_)
   rintro _ _ _ ⟨rfl, rfl, rfl⟩
   refine ⟨Suf.h, (fun _ h => h), ?_⟩
   refine th_one (by kernel_rfl) (step_m rfl rfl (opg_buildSlice rfl rfl rfl rfl) ?_)
   rintro _ _ _ ⟨b110, rfl, rfl, rfl⟩
   refine ⟨Suf.h, (fun _ h => h), ?_⟩
   refine th_one (by kernel_rfl) (step_m rfl rfl (opg_appendB rfl rfl rfl rfl (by omega) rfl) ?_)
   rintro _ _ _ ⟨a3, c3, rfl, rfl, rfl⟩
   refine ⟨Suf.h, (fun _ h => h), ?_⟩
   refine yn rfl rfl (yf rfl rfl (yf rfl rfl ?_))
   refine th_one (by kernel_rfl) (step_m rfl rfl (opg_store rfl rfl rfl rfl rfl rfl) ?_)
   rintro _ _ _ ⟨rfl, rfl⟩
   refine ⟨Suf.h, (fun _ h => h), ?_⟩
   refine yD (tri_inBlock (tT (tR ?_)))
   refine yU rfl rfl ?_
   refine tM rfl rfl (tN (tT ?_))
   refine tri_perm (A := ?a5_0 :: ?a5_1 :: ?a5_2 :: ?a5_3 :: ?a5_4 :: ?a5_5 :: ?T5) (B := ?a5_0 :: ?a5_4 :: ?a5_5 :: ?a5_2 :: ?a5_1 :: ?a5_3 :: ?T5) (by exact permL [0, 4, 5, 2, 1, 3] [?a5_0, ?a5_1, ?a5_2, ?a5_3, ?a5_4, ?a5_5] ?T5 (by decide) rfl) ?_
   refine tri_drop ?_
   refine tri_drop ?_
   refine tri_drop ?_
   refine tri_rowEq (len' := (ns.take (i + 1 + 2)).length) (cells' := encs (ns.take (i + 1 + 2))) hl3.symm (by rw [htk2, encs_append]; rfl) ?_
   rw [← hl3]
   refine tri_perm (A := ?a6_0 :: ?a6_1 :: ?a6_2 :: ?T6) (B := ?a6_1 :: ?a6_0 :: ?a6_2 :: ?T6) (by exact permL [1, 0, 2] [?a6_0, ?a6_1, ?a6_2] ?T6 (by decide) rfl) ?_
   refine tri_sub ?_ (hK (i + 1, a3, c3, mset es [y.k0, y.k1, y.k2, y.k3] (.int .i64 ((i : Int) + 2))) ⟨by simp only; omega, hok2', hmi.step hfit, hix2⟩ (by simp only; omega))
   exact ⟨rfl, rfl, rfl, rfl, rfl, trivial⟩
  ·refine (step_m rfl rfl (opg_buildSlice rfl rfl rfl rfl) ?_)
   rintro _ _ _ ⟨b110, rfl, rfl, rfl⟩
   refine ⟨Suf.h, (fun _ h => h), ?_⟩
   refine th_one (by kernel_rfl) (step_m rfl rfl (OpV.toG (opv_load1 rfl rfl rfl)) ?_)
   rintro _ _ _ ⟨rfl, rfl, rfl⟩
   refine ⟨Suf.h, (fun _ h => h), ?_⟩
   refine th_one (by kernel_rfl) (step_m rfl rfl (opg_appendB rfl rfl rfl rfl (by omega) rfl) ?_)
   rintro _ _ _ ⟨a3, c3, rfl, rfl, rfl⟩
   refine ⟨Suf.h, (fun _ h => h), ?_⟩
   refine yn rfl rfl (yf rfl rfl (yf rfl rfl ?_))
   refine th_one (by kernel_rfl) (step_m rfl rfl (opg_store rfl rfl rfl rfl rfl rfl) ?_)
   rintro _ _ _ ⟨rfl, rfl⟩
   refine ⟨Suf.h, (fun _ h => h), ?_⟩
   refine yD (tri_inBlock (tT (tR ?_)))
   refine yU rfl rfl ?_
   refine tM rfl rfl (tN (tT ?_))
   refine tri_perm (A := ?a7_0 :: ?a7_1 :: ?a7_2 :: ?a7_3 :: ?a7_4 :: ?a7_5 :: ?T7) (B := ?a7_0 :: ?a7_4 :: ?a7_5 :: ?a7_2 :: ?a7_1 :: ?a7_3 :: ?T7) (by exact permL [0, 4, 5, 2, 1, 3] [?a7_0, ?a7_1, ?a7_2, ?a7_3, ?a7_4, ?a7_5] ?T7 (by decide) rfl) ?_
   refine tri_drop ?_
   refine tri_drop ?_
   refine tri_drop ?_
   refine tri_rowEq (len' := (ns.take (i + 1 + 2)).length) (cells' := encs (ns.take (i + 1 + 2))) hl3.symm (by rw [htk2, encs_append]; rfl) ?_
   rw [← hl3]
   refine tri_perm (A := ?a8_0 :: ?a8_1 :: ?a8_2 :: ?T8) (B := ?a8_1 :: ?a8_0 :: ?a8_2 :: ?T8) (by exact permL [1, 0, 2] [?a8_0, ?a8_1, ?a8_2] ?T8 (by decide) rfl) ?_
   refine tri_sub ?_ (hK (i + 1, a3, c3, mset es [y.k0, y.k1, y.k2, y.k3] (.int .i64 ((i : Int) + 2))) ⟨by simp only; omega, hok2', hmi.step hfit, hix2⟩ (by simp only; omega))
   exact ⟨rfl, rfl, rfl, rfl, rfl, trivial⟩
 ·have hi2 : i + 2 = ns.length := by omega
  have hr : R6.right ns room := ⟨⟨by omega, by omega, by omega, by omega, e0, e1⟩, fun j hj hj2 => hok j (by omega) hj2⟩
  have e : ns.take (i + 2) = ns := List.take_of_length_le (by omega)
  rw [e] at hix
  rw [e]
  refine tri_exit ?_
  refine tri_then_exit (tri_then_exit ?_)
  refine tri_inBlock_hit rfl ?_
  refine tT (tS (tR (tM rfl rfl (tA rfl rfl (tA rfl rfl (tN (tT ?_)))))))
  refine tri_ret ?_
  refine tri_perm (A := ?a9_0 :: ?a9_1 :: ?a9_2 :: ?a9_3 :: ?T9) (B := ?a9_3 :: ?a9_0 :: ?a9_1 :: ?a9_2 :: ?T9) (by exact permL [3, 0, 1, 2] [?a9_0, ?a9_1, ?a9_2, ?a9_3] ?T9 (by decide) rfl) ?_
  refine tri_end (IxA bx mb ai ci ns room es A) Suf.h rfl (.cons (rv_tmp rfl) (.cons (rv_tmp rfl) .nil)) (.inl ⟨hr, bx, mb, ai, ci, es, rfl, rfl, hix, rfl⟩)
end Go.GL


namespace Go.GL
open Go.Proofs
attribute [local irreducible] wpList Code.wp Exit.then Exit.inBlock Ends Tri TriH OpV OpG FnC epf wpAnyH
variable {A : List Asrt} {I : List Chunk}
set_option maxRecDepth 100000 in
theorem ref02_lives {alive : Bool} {k : Int} : FnC Try.prog 61 [.bool alive, .int .i64 k].toArray A I (fun v A' I' => v = .bool (R2.lives alive k) ∧ A = A' ∧ I = I') := by
 refine fn_enter2 Try.func61 rfl Try.ntmps61 rfl fun w0 => ?_
 refine tS (tR (tA rfl rfl (tN (tT (tS (tR (tM rfl rfl ?_)))))))
 refine tri_v (opv_eql rfl rfl) rfl ?_
 refine tM rfl rfl ?_
 refine tri_split rfl rfl (fun h1 => ?_) (fun h1 => ?_)
 ·refine tri_guard_skip rfl rfl rfl rfl (tri_guard_skip rfl rfl rfl rfl ?_)
  refine tri_guard_skip_u rfl rfl rfl ?_
  refine tri_guard_skip_u rfl rfl rfl ?_
  refine tri_guard_skip rfl rfl rfl rfl ?_
  refine tri_v (opv_pick_t rfl rfl) rfl ?_
  refine tA rfl rfl (tN (tT (tri_ret ?_)))
  refine tri_end A Suf.h rfl (.cons (rv_tmp rfl) .nil) ⟨congrArg Value.bool ?_, rfl, rfl⟩
  simp [R2.lives, h1]
 ·refine yR rfl rfl (tM rfl rfl (yR rfl rfl (tM rfl rfl ?_)))
  refine tri_bool 9 rfl (fun h2 => ?_) (fun h2 => ?_)
  ·refine yR rfl rfl (tM rfl rfl (yR rfl rfl ?_))
   refine tri_v (opv_eql rfl rfl) rfl ?_
   refine yR rfl rfl ?_
   refine tri_v (opv_pick_t rfl rfl) rfl ?_
   refine tri_v (opv_pick_f rfl rfl) rfl ?_
   refine tA rfl rfl (tN (tT (tri_ret ?_)))
   refine tri_end A Suf.h rfl (.cons (rv_tmp rfl) .nil) ⟨congrArg Value.bool ?_, rfl, rfl⟩
   simp [R2.lives, h1, h2]
  ·refine tri_guard_skip rfl rfl rfl rfl (tri_guard_skip rfl rfl rfl rfl (yR rfl rfl ?_))
   refine tri_v (opv_pick_f rfl rfl) rfl ?_
   refine tri_v (opv_pick_f rfl rfl) rfl ?_
   refine tA rfl rfl (tN (tT (tri_ret ?_)))
   refine tri_end A Suf.h rfl (.cons (rv_tmp rfl) .nil) ⟨congrArg Value.bool ?_, rfl, rfl⟩
   simp [R2.lives, h1, h2]
theorem R2.around_snoc (l : List Cell) (a c : Cell) : R2.around (l ++ [a]) c = R2.around l c + if R2.near c a then 1 else 0 := by
 unfold R2.around
 rw [List.filter_append, List.length_append]
 by_cases h : R2.near c a <;> simp [h]
theorem R2.around_le (l : List Cell) (c : Cell) : 0 ≤ R2.around l c ∧ R2.around l c ≤ l.length := by
 unfold R2.around
 have := List.length_filter_le (fun d => decide (R2.near c d)) l
 omega
set_option maxHeartbeats 1000000 in
set_option maxRecDepth 100000 in
theorem ref02_around {l : List Cell} {a : Option Addr} {cap : Nat} {c : Cell} (hs : SlAt I a l) (hn : l.length ≤ 1000000000) (hb : ∀ d ∈ l, R2.bd d) (hc : R2.bd c) :
  FnC Try.prog 63 [.slice a l.length cap, cellV c].toArray A I (fun v A' I' => v = .int .i64 (R2.around l c) ∧ A = A' ∧ I = I') := by
 refine fn_enter2 Try.func63 rfl Try.ntmps63 rfl fun w0 => ?_
 refine tS (tR ?_)
 refine tri_g (opg_box_agg rfl) rfl ?_
 rintro _ _ _ ⟨b, rfl, rfl, rfl⟩
 refine tA rfl rfl (tN (tT (tS (tR (tA rfl rfl (tN (tT ?_)))))))
 refine tS (tS (tR (tA rfl rfl (tN (tT (tri_block ?_))))))
 refine tri_sub (F' := [(0, .slice a l.length cap), (3, pt b 0), (5, .int .i64 (0 : Int)), (6, .int .i64 (0 : Nat))]) ⟨rfl, rfl, rfl, rfl, trivial⟩ ?_
 refine loop_ind (G := Nat) (fun i => l.length - i) (fun i => i ≤ l.length) (fun i => [(0, .slice a l.length cap), (3, pt b 0), (5, .int .i64 (R2.around (l.take i) c)), (6, .int .i64 (i : Nat))]) (fun _ => _) (fun _ => _) ?_ 0 (by omega)
 rintro i hi K hK
 skip
 refine tS (tS (tR (tM rfl rfl (tM rfl rfl ?_))))
 refine tri_v (opv_len rfl) rfl ?_
 refine yC rfl rfl (tN (tT ?_))
 refine tri_cond_dec rfl (fun h => ?_) (fun h => ?_)
 ·have hlt : i < l.length := by omega
  have hbi : R2.bd (l.getD i default) := hb _ (by simp [hlt])
  have hx := hbi.1
  have hx2 := hbi.2.1
  have hy := hbi.2.2.1
  have hy2 := hbi.2.2.2
  have cx := hc.1
  have cx2 := hc.2.1
  have cy := hc.2.2.1
  have cy2 := hc.2.2.2
  have hal := R2.around_le (l.take i) c
  rw [List.length_take] at hal
  have hsn := R2.around_snoc (l.take i) (l.getD i default) c
  have e : l.take (i + 1) = l.take i ++ [l.getD i default] := by rw [List.take_succ_eq_append_getElem hlt]; simp [hlt]
  rw [← e] at hsn
  have no : ¬ R2.near c (l.getD i default) → R2.around (l.take (i + 1)) c = R2.around (l.take i) c := fun h => by rw [hsn, if_neg h, Int.add_zero]
  refine tri_skip (tT (tS (tri_block (tS ?_))))
  refine tri_draw [0, 1, 2, 3, 4, 5, 6, 7, 8] rfl [] rfl mixed ?_
  refine yM rfl rfl (yM rfl rfl ?_)
  refine th_take rfl rfl (by kernel_rfl)  (opv_indexAddrSN rfl rfl (by omega) (by assumption) rfl) ?_
  refine th_take rfl rfl (by kernel_rfl)  (opv_fieldAddrE rfl (by assumption) (by omega) rfl) ?_
  refine th_take rfl rfl (by kernel_rfl)  (opv_loadE1 rfl (by assumption) rfl (by omega) rfl rfl) ?_
  refine yf rfl rfl ?_
  refine yl rfl rfl rfl ?_
  refine th_take rfl rfl (by kernel_rfl)  (opv_sub rfl rfl (w64 (by omega) (by omega))) ?_
  refine yA rfl rfl (yD (tT (tS ?_)))
  refine tri_draw [0, 1, 2, 3, 4, 5, 6, 7, 8] rfl [] rfl mixed ?_
  refine yM rfl rfl (yM rfl rfl ?_)
  refine th_take rfl rfl (by kernel_rfl)  (opv_indexAddrSN rfl rfl (by omega) (by assumption) rfl) ?_
  refine th_take rfl rfl (by kernel_rfl)  (opv_fieldAddrE rfl (by assumption) (by omega) rfl) ?_
  refine th_take rfl rfl (by kernel_rfl)  (opv_loadE1 rfl (by assumption) rfl (by omega) rfl rfl) ?_
  refine yf rfl rfl ?_
  refine yl rfl rfl rfl ?_
  refine th_take rfl rfl (by kernel_rfl)  (opv_sub rfl rfl (w64 (by omega) (by omega))) ?_
  refine yA rfl rfl (yD (tT (tS ?_)))
  refine tri_draw [0, 1, 2, 3, 4, 5, 6, 7, 8, 9, 10, 11, 12, 13, 14, 15, 16, 17, 18, 19, 20, 21] rfl [] rfl mixed ?_
  refine yM rfl rfl ?_
  refine th_take rfl rfl (by kernel_rfl)  (opv_geq rfl rfl) ?_
  refine yM rfl rfl ?_
  refine th_split rfl rfl rfl (fun h1 => ?_) (fun h1 => ?_)
  ·refine th_take_g rfl rfl rfl rfl rfl (by kernel_rfl)  (opv_move rfl) ?_
   refine th_take_g rfl rfl rfl rfl rfl (by kernel_rfl)  (opv_leq rfl rfl) ?_
   refine th_take rfl rfl (by kernel_rfl)  (opv_pick_t rfl rfl) ?_
   refine yM rfl rfl ?_
   refine th_split rfl rfl rfl (fun h2 => ?_) (fun h2 => ?_)
   ·refine th_take_g rfl rfl rfl rfl rfl (by kernel_rfl)  (opv_move rfl) ?_
    refine th_take_g rfl rfl rfl rfl rfl (by kernel_rfl)  (opv_geq rfl rfl) ?_
    refine th_take rfl rfl (by kernel_rfl)  (opv_pick_t rfl rfl) ?_
    refine yM rfl rfl ?_
    refine th_split rfl rfl rfl (fun h3 => ?_) (fun h3 => ?_)
    ·refine th_take_g rfl rfl rfl rfl rfl (by kernel_rfl)  (opv_move rfl) ?_
     refine th_take_g rfl rfl rfl rfl rfl (by kernel_rfl)  (opv_leq rfl rfl) ?_
     refine th_take rfl rfl (by kernel_rfl)  (opv_pick_t rfl rfl) ?_
     refine yM rfl rfl ?_
     refine th_split rfl rfl rfl (fun h4 => ?_) (fun h4 => ?_)
     ·refine th_take_g rfl rfl rfl rfl rfl (by kernel_rfl)  (opv_move rfl) ?_
      refine th_take_g rfl rfl rfl rfl rfl (by kernel_rfl)  (opv_move rfl) ?_
      refine th_take_g rfl rfl rfl rfl rfl (by kernel_rfl)  (opv_indexAddrSN rfl rfl (by omega) (by assumption) rfl) ?_
      refine th_take_g rfl rfl rfl rfl rfl (by kernel_rfl)  (opv_loadEA rfl (by assumption) rfl (by omega) rfl rfl) ?_
      refine th_take_g rfl rfl rfl rfl rfl (by kernel_rfl)  (opv_loadA rfl rfl rfl) ?_
      refine th_take_g rfl rfl rfl rfl rfl (by kernel_rfl)  (opv_neqI rfl rfl rfl rfl rfl rfl) ?_
      refine th_take rfl rfl (by kernel_rfl)  (opv_pick_t rfl rfl) ?_
      refine yD (tT ?_)
      refine tri_cond_dec rfl (fun h5 => ?_) (fun h5 => ?_)
      ·refine tR (tM rfl rfl ?_)
       refine yU rfl rfl ?_
       refine tA rfl rfl (tN (tri_inBlock (tT (tR (tM rfl rfl ?_)))))
       refine yU rfl rfl ?_
       refine tA rfl rfl (tN (tT ?_))
       refine tri_sub ?_ (hK (i + 1) (by omega) (by omega))
       rw [hsn, if_pos ⟨h1, h2, h3, h4, Cell.ne_iff'.2 h5⟩]
       exact ⟨rfl, rfl, rfl, rfl, trivial⟩
      ·refine tri_skip (tri_inBlock (tT (tR (tM rfl rfl ?_))))
       refine yU rfl rfl ?_
       refine tA rfl rfl (tN (tT ?_))
       refine tri_sub ?_ (hK (i + 1) (by omega) (by omega))
       rw [no fun h => h5 (Cell.ne_iff'.1 h.2.2.2.2)]
       exact ⟨rfl, rfl, rfl, rfl, trivial⟩
     ·refine yS rfl rfl rfl (yS rfl rfl rfl (yS rfl rfl rfl (yS rfl rfl rfl (yS rfl rfl rfl (yS rfl rfl rfl ?_)))))
      refine th_take rfl rfl (by kernel_rfl)  (opv_pick_f rfl rfl) ?_
      refine yD (tT ?_)
      refine tri_cond_false rfl ?_
      refine tri_skip (tri_inBlock (tT (tR (tM rfl rfl ?_))))
      refine yU rfl rfl ?_
      refine tA rfl rfl (tN (tT ?_))
      refine tri_sub ?_ (hK (i + 1) (by omega) (by omega))
      rw [no fun h => h4 h.2.2.2.1]
      exact ⟨rfl, rfl, rfl, rfl, trivial⟩
    ·refine yS rfl rfl rfl (yS rfl rfl rfl ?_)
     refine th_take rfl rfl (by kernel_rfl)  (opv_pick_f rfl rfl) ?_
     refine yM rfl rfl (yS rfl rfl rfl (yS rfl rfl rfl (yS rfl rfl rfl (yS rfl rfl rfl (yS rfl rfl rfl (yS rfl rfl rfl ?_))))))
     refine th_take rfl rfl (by kernel_rfl)  (opv_pick_f rfl rfl) ?_
     refine yD (tT ?_)
     refine tri_cond_false rfl ?_
     refine tri_skip (tri_inBlock (tT (tR (tM rfl rfl ?_))))
     refine yU rfl rfl ?_
     refine tA rfl rfl (tN (tT ?_))
     refine tri_sub ?_ (hK (i + 1) (by omega) (by omega))
     rw [no fun h => h3 h.2.2.1]
     exact ⟨rfl, rfl, rfl, rfl, trivial⟩
   ·refine yS rfl rfl rfl (yS rfl rfl rfl ?_)
    refine th_take rfl rfl (by kernel_rfl)  (opv_pick_f rfl rfl) ?_
    refine yM rfl rfl (yS rfl rfl rfl (yS rfl rfl rfl ?_))
    refine th_take rfl rfl (by kernel_rfl)  (opv_pick_f rfl rfl) ?_
    refine yM rfl rfl (yS rfl rfl rfl (yS rfl rfl rfl (yS rfl rfl rfl (yS rfl rfl rfl (yS rfl rfl rfl (yS rfl rfl rfl ?_))))))
    refine th_take rfl rfl (by kernel_rfl)  (opv_pick_f rfl rfl) ?_
    refine yD (tT ?_)
    refine tri_cond_false rfl ?_
    refine tri_skip (tri_inBlock (tT (tR (tM rfl rfl ?_))))
    refine yU rfl rfl ?_
    refine tA rfl rfl (tN (tT ?_))
    refine tri_sub ?_ (hK (i + 1) (by omega) (by omega))
    rw [no fun h => h2 h.2.1]
    exact ⟨rfl, rfl, rfl, rfl, trivial⟩
  ·refine yS rfl rfl rfl (yS rfl rfl rfl ?_)
   refine th_take rfl rfl (by kernel_rfl)  (opv_pick_f rfl rfl) ?_
   refine yM rfl rfl (yS rfl rfl rfl (yS rfl rfl rfl ?_))
   refine th_take rfl rfl (by kernel_rfl)  (opv_pick_f rfl rfl) ?_
   refine yM rfl rfl (yS rfl rfl rfl (yS rfl rfl rfl ?_))
   refine th_take rfl rfl (by kernel_rfl)  (opv_pick_f rfl rfl) ?_
   refine yM rfl rfl (yS rfl rfl rfl (yS rfl rfl rfl (yS rfl rfl rfl (yS rfl rfl rfl (yS rfl rfl rfl (yS rfl rfl rfl ?_))))))
   refine th_take rfl rfl (by kernel_rfl)  (opv_pick_f rfl rfl) ?_
   refine yD (tT ?_)
   refine tri_cond_false rfl ?_
   refine tri_skip (tri_inBlock (tT (tR (tM rfl rfl ?_))))
   refine yU rfl rfl ?_
   refine tA rfl rfl (tN (tT ?_))
   refine tri_sub ?_ (hK (i + 1) (by omega) (by omega))
   rw [no fun h => h1 h.1]
   exact ⟨rfl, rfl, rfl, rfl, trivial⟩
 ·refine tri_exit ?_
  refine tri_then_exit (tri_then_exit ?_)
  refine tri_inBlock_hit rfl ?_
  refine tT (tS (tR (tM rfl rfl (tA rfl rfl (tN (tT (tri_ret ?_)))))))
  refine tri_end A Suf.h rfl (.cons (rv_tmp rfl) .nil) ⟨?_, rfl, rfl⟩
  rw [List.take_of_length_le (by omega)]; rfl
end Go.GL


namespace Go.GL
open Go.Proofs
attribute [local irreducible] wpList Code.wp Exit.then Exit.inBlock Ends Tri TriH OpV OpG FnC epf wpAnyH
variable {A : List Asrt} {I : List Chunk}
def R2.acc (l : List Cell) (i : Nat) : List Cell := (l.take i).flatMap (R2.about l)
def R2.part (l : List Cell) (i k : Nat) : List Cell := R2.acc l i ++ ((List.range k).map (R2.nb (l.getD i default))).filter (R2.livesAt l)
theorem R2.part_succ (l : List Cell) (i k : Nat) : R2.part l i (k + 1) = R2.part l i k ++ if R2.livesAt l (R2.nb (l.getD i default) k) = true then [R2.nb (l.getD i default) k] else [] := by
 unfold R2.part
 rw [List.range_succ, List.map_append, List.filter_append, List.append_assoc]
 simp only [List.map_cons, List.map_nil, List.filter_cons, List.filter_nil]
theorem R2.part_nine (l : List Cell) (i : Nat) (h : i < l.length) : R2.part l i 9 = R2.acc l (i + 1) := by
 unfold R2.part R2.acc
 rw [List.take_succ_eq_append_getElem h, List.flatMap_append]
 simp [R2.about, h]
theorem R2.acc_len (l : List Cell) (i : Nat) : (R2.acc l i).length ≤ 9 * l.length := by
 have h1 := R2.cands_len l (l.take i)
 have h2 : (l.take i).length ≤ l.length := by rw [List.length_take]; omega
 unfold R2.acc
 omega
theorem R2.part_len (l : List Cell) (i k : Nat) : (R2.part l i k).length ≤ 9 * l.length + k := by
 have h1 := R2.acc_len l i
 have h2 := List.length_filter_le (R2.livesAt l) ((List.range k).map (R2.nb (l.getD i default)))
 unfold R2.part
 simp only [List.length_append, List.length_map, List.length_range] at h2 ⊢
 omega
theorem R1.right_bd {l : List Cell} (h : R1.right l) : ∀ d ∈ l, R1.inB d := by
 intro d hd
 obtain ⟨i, hi, rfl⟩ := List.getElem_of_mem hd
 have := (h.1 i hi).1
 simpa [R1.g, hi] using this
set_option maxHeartbeats 1000000 in
set_option maxRecDepth 100000 in
theorem ref02_next {l : List Cell} {a : Option Addr} {cap : Nat} (hs : SlAt I a l) (hn : l.length ≤ 100000000) :
  FnC Try.prog 43 [.slice a l.length cap].toArray A I (fun v A' I' => ∃ a' cap', v = .tuple [.slice a' (R2.next l).1.length cap', .int .i64 (R2.next l).2].toArray ∧ SlAt I' a' (R2.next l).1 ∧ A = A' ∧ I ⊆ I') := by
 refine fn_enter1 Try.func43 rfl Try.ntmps43 rfl fun w0 => ?_
 refine tS (tR (tA rfl rfl (tA rfl rfl (tN (tT (tS (tS ?_)))))))
 refine tR (tM rfl rfl ?_)
 refine tri_g (opg_call (xs := [_]) rfl (ref01_right hs (by omega))) rfl ?_
 rintro _ _ _ ⟨rfl, rfl, rfl⟩
 refine tri_v (opv_notD rfl) rfl ?_
 refine tN (tT ?_)
 refine tri_cond_dec rfl (fun hr => ?_) (fun hr => ?_)
 ·refine tS (tR (tA rfl rfl (tA rfl rfl (tN (tT (tri_ret (tri_then_ret ?_)))))))
  refine tri_end A Suf.h rfl (.cons (rv_tmp rfl) (.cons (rv_tmp rfl) .nil)) ?_
  rw [show R2.next l = ([], 1) from if_neg hr]
  exact ⟨none, 0, rfl, SlAt.nil, rfl, fun _ h => h⟩
 refine tri_skip (tT (tS (tR (tA rfl rfl (tN (tT (tS ?_)))))))
 refine tS (tR (tA rfl rfl (tN (tT (tri_block ?_)))))
 have hr' : R1.right l := Decidable.not_not.1 hr
 refine tri_nilRow (E := 59) (sz := 2) ?_
 refine tri_sub (F' := [(0, .slice a l.length cap), (4, .slice none (R2.acc l 0).length 0), (5, .int .i64 (0 : Nat))]) ⟨rfl, rfl, rfl, trivial⟩ ?_
 refine loop_ind (G := Nat × Option Addr × Nat) (fun g => l.length - g.1) (fun g => g.1 ≤ l.length) (fun g => [(0, .slice a l.length cap), (4, .slice g.2.1 (R2.acc l g.1).length g.2.2), (5, .int .i64 (g.1 : Nat))]) (fun g => Row g.2.1 g.2.2 (R2.acc l g.1).length 59 2 (encs (R2.acc l g.1)) :: A) (fun _ => I) ?_ (0, none, 0) (by omega)
 rintro ⟨i, a1, cap1⟩ hi K hK
 simp only at hi hK ⊢
 skip
 refine tS (tS (tR (tM rfl rfl (tM rfl rfl ?_))))
 refine tri_v (opv_len rfl) rfl ?_
 refine yC rfl rfl (tN (tT ?_))
 refine tri_cond_dec rfl (fun h => ?_) (fun h => ?_)
 ·have hlt : i < l.length := by omega
  have hbi : R1.inB (l.getD i default) := R1.right_bd hr' _ (by simp [hlt])
  have hx := hbi.1
  have hx2 := hbi.2.1
  have hy := hbi.2.2.1
  have hy2 := hbi.2.2.2
  refine tri_skip (tT (tS (tri_block (tS (tR (tA rfl rfl (tN ?_)))))))
  refine tT (tri_block ?_)
  refine tri_sub (F' := [(0, .slice a l.length cap), (4, .slice a1 (R2.part l i 0).length cap1), (5, .int .i64 (i : Nat)), (6, .int .i64 (0 : Nat))]) ⟨rfl, by rw [R2.part]; simp; rfl, rfl, rfl, trivial⟩ ?_
  refine tri_rowEq (len' := (R2.part l i 0).length) (cells' := encs (R2.part l i 0)) (by rw [R2.part]; simp) (by rw [R2.part]; simp) ?_
  refine loop_ind (G := Nat × Option Addr × Nat) (fun g => 9 - g.1) (fun g => g.1 ≤ 9) (fun g => [(0, .slice a l.length cap), (4, .slice g.2.1 (R2.part l i g.1).length g.2.2), (5, .int .i64 (i : Nat)), (6, .int .i64 (g.1 : Nat))]) (fun g => Row g.2.1 g.2.2 (R2.part l i g.1).length 59 2 (encs (R2.part l i g.1)) :: A) (fun _ => I) ?_ (0, a1, cap1) (by omega)
  rintro ⟨k, a2, cap2⟩ hk K2 hK2
  simp only at hk hK2 ⊢
  skip
  refine tS (tS (tR (tM rfl rfl (yC rfl rfl (tN (tT ?_))))))
  refine tri_cond_dec rfl (fun h2 => ?_) (fun h2 => ?_)
  ·have hpl := R2.part_len l i k
   have hps := R2.part_succ l i k
   refine tri_skip (tT (tS (tri_block (tS ?_))))
   refine tri_draw [0, 1, 2, 3, 4, 5, 6, 7, 8, 9, 10, 11, 12, 13, 14, 15, 16, 17, 18, 19, 20] rfl [] rfl mixed ?_
   refine yM rfl rfl (yM rfl rfl ?_)
   refine th_take rfl rfl (by kernel_rfl)  (opv_indexAddrSN rfl rfl (by omega) (by assumption) rfl) ?_
   refine th_take rfl rfl (by kernel_rfl)  (opv_fieldAddrE rfl (by assumption) (by omega) rfl) ?_
   refine th_take rfl rfl (by kernel_rfl)  (opv_loadE1 rfl (by assumption) rfl (by omega) rfl rfl) ?_
   refine yM rfl rfl ?_
   refine th_take rfl rfl (by kernel_rfl)  (opv_remE rfl rfl (by omega) (by omega)) ?_
   refine th_take rfl rfl (by kernel_rfl)  (opv_add rfl rfl (w64 (by omega) (by omega))) ?_
   refine th_take rfl rfl (by kernel_rfl)  (opv_sub rfl rfl (w64 (by omega) (by omega))) ?_
   refine yM rfl rfl (yM rfl rfl ?_)
   refine th_take rfl rfl (by kernel_rfl)  (opv_indexAddrSN rfl rfl (by omega) (by assumption) rfl) ?_
   refine th_take rfl rfl (by kernel_rfl)  (opv_fieldAddrE rfl (by assumption) (by omega) rfl) ?_
   refine th_take rfl rfl (by kernel_rfl)  (opv_loadE1 rfl (by assumption) rfl (by omega) rfl rfl) ?_
   refine yM rfl rfl ?_
   refine th_take rfl rfl (by kernel_rfl)  (opv_quoE rfl rfl (by omega) (by omega) (by omega)) ?_
   refine th_take rfl rfl (by kernel_rfl)  (opv_add rfl rfl (w64 (by omega) (by omega))) ?_
   refine th_take rfl rfl (by kernel_rfl)  (opv_sub rfl rfl (w64 (by omega) (by omega))) ?_
   refine th_take rfl rfl (by kernel_rfl)  (opv_buildS rfl rfl) ?_
   refine th_one (by kernel_rfl) (step_m rfl rfl opg_alloc ?_)
   rintro _ _ _ ⟨b, rfl, rfl, rfl⟩
   refine ⟨Suf.h, (fun _ h => h), ?_⟩
   refine th_one (by kernel_rfl) (step_m rfl rfl (opg_store rfl rfl rfl rfl rfl rfl) ?_)
   rintro _ _ _ ⟨rfl, rfl⟩
   refine ⟨Suf.h, (fun _ h => h), ?_⟩
   refine yD (tT (tS ?_))
   refine tri_cut (fun F' A' I' => F' = [(0, .slice a l.length cap), (4, .slice a2 (R2.part l i k).length cap2), (5, .int .i64 (i : Nat)), (6, .int .i64 (k : Nat)), (7, pt b 0), (46, .bool (R2.livesAt l (R2.nb (l.getD i default) k)))] ∧ A' = Box b [.int .i64 (R2.nb (l.getD i default) k).x, .int .i64 (R2.nb (l.getD i default) k).y] 59 :: Row a2 cap2 (R2.part l i k).length 59 2 (encs (R2.part l i k)) :: A ∧ I' = I) ?_ ?_
   ·have hnb : R2.bd (R2.nb (l.getD i default) k) := by
     unfold R2.bd R2.nb
     simp only
     omega
    have hlb : ∀ d ∈ l, R2.bd d := fun d hd => by
     have := R1.right_bd hr' d hd
     unfold R1.inB at this
     unfold R2.bd
     omega
    refine tri_draw [0, 1, 3, 4, 2, 5, 6] rfl [] rfl mixed ?_
    refine yM rfl rfl ?_
    refine th_take rfl rfl (by kernel_rfl)  (opv_loadA rfl rfl rfl) ?_
    refine yM rfl rfl ?_
    refine th_take rfl rfl (by kernel_rfl)  (opv_loadA rfl rfl rfl) ?_
    refine th_one (by kernel_rfl) (step_m rfl rfl (opg_call (xs := [_, _]) rfl (ref01_has (c := R2.nb (l.getD i default) k) hs (by omega))) ?_)
    rintro _ _ _ ⟨rfl, rfl, rfl⟩
    refine ⟨Suf.h, (fun _ h => h), ?_⟩
    skip
    refine th_one (by kernel_rfl) (step_m rfl rfl (opg_call (xs := [_, _]) rfl (ref02_around (c := R2.nb (l.getD i default) k) hs (by omega) hlb hnb)) ?_)
    rintro _ _ _ ⟨rfl, rfl, rfl⟩
    refine ⟨Suf.h, (fun _ h => h), ?_⟩
    skip
    refine th_one (by kernel_rfl) (step_m rfl rfl (opg_call (xs := [_, _]) rfl (ref02_lives)) ?_)
    rintro _ _ _ ⟨rfl, rfl, rfl⟩
    refine ⟨Suf.h, (fun _ h => h), ?_⟩
    refine yD ?_
    refine tri_cutEnd _ ⟨rfl, rfl, rfl⟩ ⟨rfl, rfl, rfl, rfl, rfl, rfl, trivial⟩
   rintro _ _ _ ⟨rfl, rfl, rfl⟩
   skip
   refine tT ?_
   refine tri_cond rfl (fun hl => ?_) (fun hl => ?_)
   ·rw [if_pos hl] at hps
    refine tR (tM rfl rfl ?_)
    refine yB rfl rfl ?_
    refine tri_g (opg_buildSlice rfl rfl rfl rfl) rfl ?_
    rintro _ _ _ ⟨b, rfl, rfl, rfl⟩
    refine tri_g (opg_appendB rfl rfl rfl rfl (by omega) rfl) rfl ?_
    rintro _ _ _ ⟨a3, cap3, rfl, rfl, rfl⟩
    refine tA rfl rfl (tN (tri_inBlock (tT (tR (tM rfl rfl ?_)))))
    refine yU rfl rfl ?_
    refine tA rfl rfl (tN (tT ?_))
    refine tri_drop ?_
    refine tri_drop ?_
    refine tri_rowEq (len' := (R2.part l i (k + 1)).length) (cells' := encs (R2.part l i (k + 1))) (by rw [hps, List.length_append]; rfl) (by rw [hps, encs_append]; rfl) ?_
    refine tri_sub ?_ (hK2 (k + 1, a3, cap3) (by simp only; omega) (by simp only; omega))
    exact ⟨rfl, by rw [hps, List.length_append]; rfl, rfl, rfl, trivial⟩
   ·have hl2 : ¬ R2.livesAt l (R2.nb (l.getD i default) k) = true := fun h => by rw [hl] at h; cases h
    rw [if_neg hl2, List.append_nil] at hps
    refine tri_skip (tri_inBlock (tT (tR (tM rfl rfl ?_))))
    refine yU rfl rfl ?_
    refine tA rfl rfl (tN (tT ?_))
    refine tri_drop ?_
    refine tri_rowEq (len' := (R2.part l i (k + 1)).length) (cells' := encs (R2.part l i (k + 1))) (by rw [hps]) (by rw [hps]) ?_
    refine tri_sub ?_ (hK2 (k + 1, a2, cap2) (by simp only; omega) (by simp only; omega))
    exact ⟨rfl, by rw [hps]; rfl, rfl, rfl, trivial⟩
  ·have hk9 : k = 9 := by omega
   subst hk9
   rw [R2.part_nine l i hlt]
   refine tri_exit ?_
   refine tri_then_exit (tri_then_exit ?_)
   refine tri_inBlock_hit rfl ?_
   refine tri_inBlock (tT (tR (tM rfl rfl ?_)))
   refine yU rfl rfl ?_
   refine tA rfl rfl (tN (tT ?_))
   refine tri_sub ?_ (hK (i + 1, a2, cap2) (by simp only; omega) (by simp only; omega))
   exact ⟨rfl, rfl, rfl, trivial⟩
 ·have e : R2.acc l i = R2.cands l := by rw [R2.acc, List.take_of_length_le (by omega)]; rfl
  rw [e]
  have hcl := R2.cands_len l l
  refine tri_exit ?_
  refine tri_then_exit (tri_then_exit ?_)
  refine tri_inBlock_hit rfl ?_
  refine tT (tS ?_)
  refine tri_freezeRow rfl fun I1 hI1 hs1 => ?_
  refine tR (tM rfl rfl ?_)
  refine tri_g (opg_call (xs := [_]) rfl (ref01_of hs1 (by unfold R2.cands; omega))) rfl ?_
  rintro _ _ I2 ⟨a2, cap2, rfl, hs2, rfl, hI2⟩
  refine tri_v (opv_extract rfl rfl) rfl ?_
  refine tri_v (opv_extract rfl rfl) rfl ?_
  refine tA rfl rfl (tA rfl rfl (tN (tT (tri_ret ?_))))
  refine tri_end A Suf.h rfl (.cons (rv_tmp rfl) (.cons (rv_tmp rfl) .nil)) ?_
  rw [show R2.next l = R1.of (R2.cands l) from if_pos hr']
  exact ⟨a2, cap2, rfl, hs2, rfl, fun _ h => hI2 (hI1 h)⟩
end Go.GL


namespace Go.GL
open Go.Proofs
attribute [local irreducible] wpList Code.wp Exit.then Exit.inBlock Ends Tri TriH OpV OpG FnC epf wpAnyH
variable {A : List Asrt} {I : List Chunk}
/-- Whose kids can be asked for. -/
def R8.Kid (ns : List Node) (n : Int) : Prop := R6.inS ns n ∧ R6.inS ns (R6.nd ns n).k0 ∧ R6.inS ns (R6.nd ns n).k1 ∧ R6.inS ns (R6.nd ns n).k2 ∧ R6.inS ns (R6.nd ns n).k3
theorem R6.right.kids {ns : List Node} {room n : Int} (h : R6.right ns room) (hn : R6.inS ns n) (hl : 1 ≤ (R6.nd ns n).lv) : R8.Kid ns n := by
 obtain ⟨m, hm⟩ : ∃ m : Nat, (R6.nd ns n).lv = ((m + 1 : Nat) : Int) := ⟨((R6.nd ns n).lv - 1).toNat, by omega⟩
 have k := fun q hq => (h.kidN hn hm (q := q) hq).1
 exact ⟨hn, k _ (by simp [Node.kids]), k _ (by simp [Node.kids]), k _ (by simp [Node.kids]), k _ (by simp [Node.kids])⟩
end Go.GL


namespace Go.GL
open Go.Proofs
attribute [local irreducible] wpList Code.wp Exit.then Exit.inBlock Ends Tri TriH OpV OpG FnC epf wpAnyH
variable {A : List Asrt} {I : List Chunk}
set_option maxRecDepth 100000 in
theorem life_lives {alive : Bool} {k : Int} : FnC Try.prog 90 [.bool alive, .int .i64 k].toArray A I (fun v A' I' => v = .bool (R2.lives alive k) ∧ A = A' ∧ I = I') := by
 refine fn_enter2 Try.func90 rfl Try.ntmps90 rfl fun w0 => ?_
 refine tS (tR (tA rfl rfl (tN (tT (tS (tS (tR ?_)))))))
 refine tM rfl rfl (tN (tT (tri_block (tS (tR ?_)))))
 refine tri_v (opv_eql rfl rfl) rfl ?_
 refine tA rfl rfl (tN (tT ?_))
 refine tri_cond_dec rfl (fun h1 => ?_) (fun h1 => ?_)
 ·refine tS (tR (tM rfl rfl (tA rfl rfl (tN (tT (tri_ret (tri_inBlock_ret ?_)))))))
  refine tri_then_ret ?_
  refine tri_end A Suf.h rfl (.cons (rv_tmp rfl) .nil) ⟨congrArg Value.bool ?_, rfl, rfl⟩
  have h3 : ¬ k = 3 := by omega
  simp [R2.lives, h1]
 ·refine tS (tR ?_)
  refine tri_v (opv_eql rfl rfl) rfl ?_
  refine tA rfl rfl (tN (tT ?_))
  refine tri_cond_dec rfl (fun h2 => ?_) (fun h2 => ?_)
  ·refine tS (tR (tA rfl rfl (tN (tT (tri_ret (tri_inBlock_ret (tri_then_ret ?_)))))))
   refine tri_end A Suf.h rfl (.cons (rv_tmp rfl) .nil) ⟨congrArg Value.bool ?_, rfl, rfl⟩
   simp [R2.lives, h2]
  ·refine tri_skip (tri_inBlock (tT (tS (tR (tA rfl rfl (tN (tT ?_)))))))
   refine tri_ret ?_
   refine tri_end A Suf.h rfl (.cons (rv_tmp rfl) .nil) ⟨congrArg Value.bool ?_, rfl, rfl⟩
   simp [R2.lives, h1, h2]
theorem R8.g_off (l : List Int) (i : Int) : l.getD (0 + i.toNat * 1) default = R8.g l i := by
 rw [Nat.zero_add, Nat.mul_one]; rfl
set_option maxRecDepth 100000 in
theorem base_square {l : List Int} {y x : Int} (hl : l.length = 16) (y0 : 0 ≤ y) (y1 : y ≤ 2) (x0 : 0 ≤ x) (x1 : x ≤ 2) :
  FnC Try.prog 92 [.agg (ints l).toArray, .int .i64 y, .int .i64 x].toArray A I (fun v A' I' => v = int4V (R8.g l (4 * y + x)) (R8.g l (4 * y + x + 1)) (R8.g l (4 * y + x + 4)) (R8.g l (4 * y + x + 5)) ∧ A = A' ∧ I = I') := by
 skip
 refine fn_enter3 Try.func92 rfl Try.ntmps92 rfl fun w0 => ?_
 refine tS (tR ?_)
 refine tri_g (opg_box_agg rfl) rfl ?_
 rintro _ _ _ ⟨b3, rfl, rfl, rfl⟩
 refine tri_g opg_alloc rfl ?_
 rintro _ _ _ ⟨b6, rfl, rfl, rfl⟩
 refine tN (tT (tS (tR (tM rfl rfl ?_))))
 refine tri_v (opv_mul rfl rfl (w64 (by omega) (by omega))) rfl ?_
 refine tM rfl rfl ?_
 refine yU rfl rfl ?_
 refine tA rfl rfl (tN (tT (tS ?_)))
 skip
 refine tri_draw [0, 1, 2, 3, 4, 5, 6, 7, 8, 9, 10, 11, 12, 13, 14, 15, 16, 17] rfl [_] rfl mixed ?_
 refine yM rfl rfl ?_
 refine th_take rfl rfl (by kernel_rfl)  (opv_indexAddrA rfl rfl (by omega) (by omega)) ?_
 refine th_take rfl rfl (by kernel_rfl)  (opv_loadIX rfl rfl (by omega)) ?_
 refine yM rfl rfl ?_
 refine th_take rfl rfl (by kernel_rfl)  (opv_add rfl rfl (w64 (by omega) (by omega))) ?_
 refine th_take rfl rfl (by kernel_rfl)  (opv_indexAddrA rfl rfl (by omega) (by omega)) ?_
 refine th_take rfl rfl (by kernel_rfl)  (opv_loadIX rfl rfl (by omega)) ?_
 refine yM rfl rfl ?_
 refine th_take rfl rfl (by kernel_rfl)  (opv_add rfl rfl (w64 (by omega) (by omega))) ?_
 refine th_take rfl rfl (by kernel_rfl)  (opv_indexAddrA rfl rfl (by omega) (by omega)) ?_
 refine th_take rfl rfl (by kernel_rfl)  (opv_loadIX rfl rfl (by omega)) ?_
 refine yM rfl rfl ?_
 refine th_take rfl rfl (by kernel_rfl)  (opv_add rfl rfl (w64 (by omega) (by omega))) ?_
 refine th_take rfl rfl (by kernel_rfl)  (opv_add rfl rfl (w64 (by omega) (by omega))) ?_
 refine th_take rfl rfl (by kernel_rfl)  (opv_indexAddrA rfl rfl (by omega) (by omega)) ?_
 refine th_take rfl rfl (by kernel_rfl)  (opv_loadIX rfl rfl (by omega)) ?_
 refine th_take rfl rfl (by kernel_rfl)  (opv_buildA rfl rfl) ?_
 refine th_one (by kernel_rfl) (step_m rfl rfl (opg_store rfl rfl rfl rfl rfl rfl) ?_)
 rintro _ _ _ ⟨rfl, rfl⟩
 refine ⟨Suf.h, (fun _ h => h), ?_⟩
 refine yD (tT (tri_ret ?_))
 refine tri_end A Suf.h rfl (.cons (rv_cellA rfl rfl rfl) .nil) ⟨?_, rfl, rfl⟩
 simp only [R8.g_off, retV]
 rw [show y * 4 = 4 * y by omega, show 4 * y + x + 4 + 1 = 4 * y + x + 5 by omega]
def R8.ar (l : List Int) (i : Int) : Int := 0 + (R8.g l (i + -4 - 1) + R8.g l (i + -4) + R8.g l (i + -4 + 1)) + (R8.g l (i + 0 - 1) + R8.g l (i + 0) + R8.g l (i + 0 + 1)) + (R8.g l (i + 4 - 1) + R8.g l (i + 4) + R8.g l (i + 4 + 1)) - R8.g l i
set_option maxHeartbeats 1000000 in
set_option maxRecDepth 100000 in
theorem base_around {l : List Int} {i : Int} (hl : l.length = 16) (hb : ∀ i, 0 ≤ R8.g l i ∧ R8.g l i ≤ 1) (i0 : 5 ≤ i) (i1 : i ≤ 10) :
  FnC Try.prog 91 [.agg (ints l).toArray, .int .i64 i].toArray A I (fun v A' I' => v = .int .i64 (R8.ar l i) ∧ A = A' ∧ I = I') := by
 have hb' : ∀ j : Int, 0 ≤ l.getD (0 + j.toNat * 1) default ∧ l.getD (0 + j.toNat * 1) default ≤ 1 := fun j => by rw [R8.g_off]; exact hb j
 skip
 refine fn_enter2 Try.func91 rfl Try.ntmps91 rfl fun w0 => ?_
 refine tS (tR ?_)
 refine tri_g (opg_box_agg rfl) rfl ?_
 rintro _ _ _ ⟨b2, rfl, rfl, rfl⟩
 refine tA rfl rfl (tN (tT (tS (tS (tR (tA rfl rfl (tN ?_)))))))
 refine tT (tri_block ?_)
 refine tri_rounds 4 ?_
 refine tri_round (tS (tS (tR (tM rfl rfl ?_))))
 refine tri_v (opv_leq rfl rfl) rfl ?_
 refine tN (tT ?_)
 refine tri_cond_is rfl (by decide) ?_
 have a0 := hb' (i + (-4) - 1)
 have b0 := hb' (i + (-4))
 have c0 := hb' (i + (-4) + 1)
 refine tri_skip (tT (tS (tri_block ?_)))
 refine tri_draw [0, 1, 2, 3, 4, 5, 6, 7, 8, 9, 10, 11, 12, 13, 14, 15, 16, 17, 18, 19, 20, 21] rfl [] rfl mixed ?_
 refine yM rfl rfl (yM rfl rfl (yM rfl rfl ?_))
 refine th_take rfl rfl (by kernel_rfl)  (opv_add rfl rfl (w64 (by omega) (by omega))) ?_
 refine th_take rfl rfl (by kernel_rfl)  (opv_sub rfl rfl (w64 (by omega) (by omega))) ?_
 refine th_take rfl rfl (by kernel_rfl)  (opv_indexAddrA rfl rfl (by omega) (by omega)) ?_
 refine th_take rfl rfl (by kernel_rfl)  (opv_loadIX rfl rfl (by omega)) ?_
 refine yM rfl rfl (yM rfl rfl ?_)
 refine th_take rfl rfl (by kernel_rfl)  (opv_add rfl rfl (w64 (by omega) (by omega))) ?_
 refine th_take rfl rfl (by kernel_rfl)  (opv_indexAddrA rfl rfl (by omega) (by omega)) ?_
 refine th_take rfl rfl (by kernel_rfl)  (opv_loadIX rfl rfl (by omega)) ?_
 refine th_take rfl rfl (by kernel_rfl)  (opv_add rfl rfl (w64 (by omega) (by omega))) ?_
 refine yM rfl rfl (yM rfl rfl ?_)
 refine th_take rfl rfl (by kernel_rfl)  (opv_add rfl rfl (w64 (by omega) (by omega))) ?_
 refine th_take rfl rfl (by kernel_rfl)  (opv_add rfl rfl (w64 (by omega) (by omega))) ?_
 refine th_take rfl rfl (by kernel_rfl)  (opv_indexAddrA rfl rfl (by omega) (by omega)) ?_
 refine th_take rfl rfl (by kernel_rfl)  (opv_loadIX rfl rfl (by omega)) ?_
 refine th_take rfl rfl (by kernel_rfl)  (opv_add rfl rfl (w64 (by omega) (by omega))) ?_
 refine th_take rfl rfl (by kernel_rfl)  (opv_add rfl rfl (w64 (by omega) (by omega))) ?_
 refine yA rfl rfl (yD (tri_inBlock (tT (tR (tM rfl rfl ?_)))))
 refine yU rfl rfl ?_
 refine tA rfl rfl (tN (tT (tri_round (tS (tS (tR (tM rfl rfl ?_)))))))
 refine tri_v (opv_leq rfl rfl) rfl ?_
 refine tN (tT ?_)
 skip
 refine tri_cond_is rfl (by decide) ?_
 have a4 := hb' (i + (-4 + 4) - 1)
 have b4 := hb' (i + (-4 + 4))
 have c4 := hb' (i + (-4 + 4) + 1)
 refine tri_skip (tT (tS (tri_block ?_)))
 refine tri_draw [0, 1, 2, 3, 4, 5, 6, 7, 8, 9, 10, 11, 12, 13, 14, 15, 16, 17, 18, 19, 20, 21] rfl [] rfl mixed ?_
 refine yM rfl rfl (yM rfl rfl (yM rfl rfl ?_))
 refine th_take rfl rfl (by kernel_rfl)  (opv_add rfl rfl (w64 (by omega) (by omega))) ?_
 refine th_take rfl rfl (by kernel_rfl)  (opv_sub rfl rfl (w64 (by omega) (by omega))) ?_
 refine th_take rfl rfl (by kernel_rfl)  (opv_indexAddrA rfl rfl (by omega) (by omega)) ?_
 refine th_take rfl rfl (by kernel_rfl)  (opv_loadIX rfl rfl (by omega)) ?_
 refine yM rfl rfl (yM rfl rfl ?_)
 refine th_take rfl rfl (by kernel_rfl)  (opv_add rfl rfl (w64 (by omega) (by omega))) ?_
 refine th_take rfl rfl (by kernel_rfl)  (opv_indexAddrA rfl rfl (by omega) (by omega)) ?_
 refine th_take rfl rfl (by kernel_rfl)  (opv_loadIX rfl rfl (by omega)) ?_
 refine th_take rfl rfl (by kernel_rfl)  (opv_add rfl rfl (w64 (by omega) (by omega))) ?_
 refine yM rfl rfl (yM rfl rfl ?_)
 refine th_take rfl rfl (by kernel_rfl)  (opv_add rfl rfl (w64 (by omega) (by omega))) ?_
 refine th_take rfl rfl (by kernel_rfl)  (opv_add rfl rfl (w64 (by omega) (by omega))) ?_
 refine th_take rfl rfl (by kernel_rfl)  (opv_indexAddrA rfl rfl (by omega) (by omega)) ?_
 refine th_take rfl rfl (by kernel_rfl)  (opv_loadIX rfl rfl (by omega)) ?_
 refine th_take rfl rfl (by kernel_rfl)  (opv_add rfl rfl (w64 (by omega) (by omega))) ?_
 refine th_take rfl rfl (by kernel_rfl)  (opv_add rfl rfl (w64 (by omega) (by omega))) ?_
 refine yA rfl rfl (yD (tri_inBlock (tT (tR (tM rfl rfl ?_)))))
 refine yU rfl rfl ?_
 refine tA rfl rfl (tN (tT (tri_round (tS (tS (tR (tM rfl rfl ?_)))))))
 refine tri_v (opv_leq rfl rfl) rfl ?_
 refine tN (tT ?_)
 skip
 refine tri_cond_is rfl (by decide) ?_
 have a8 := hb' (i + (-4 + 4 + 4) - 1)
 have b8 := hb' (i + (-4 + 4 + 4))
 have c8 := hb' (i + (-4 + 4 + 4) + 1)
 refine tri_skip (tT (tS (tri_block ?_)))
 refine tri_draw [0, 1, 2, 3, 4, 5, 6, 7, 8, 9, 10, 11, 12, 13, 14, 15, 16, 17, 18, 19, 20, 21] rfl [] rfl mixed ?_
 refine yM rfl rfl (yM rfl rfl (yM rfl rfl ?_))
 refine th_take rfl rfl (by kernel_rfl)  (opv_add rfl rfl (w64 (by omega) (by omega))) ?_
 refine th_take rfl rfl (by kernel_rfl)  (opv_sub rfl rfl (w64 (by omega) (by omega))) ?_
 refine th_take rfl rfl (by kernel_rfl)  (opv_indexAddrA rfl rfl (by omega) (by omega)) ?_
 refine th_take rfl rfl (by kernel_rfl)  (opv_loadIX rfl rfl (by omega)) ?_
 refine yM rfl rfl (yM rfl rfl ?_)
 refine th_take rfl rfl (by kernel_rfl)  (opv_add rfl rfl (w64 (by omega) (by omega))) ?_
 refine th_take rfl rfl (by kernel_rfl)  (opv_indexAddrA rfl rfl (by omega) (by omega)) ?_
 refine th_take rfl rfl (by kernel_rfl)  (opv_loadIX rfl rfl (by omega)) ?_
 refine th_take rfl rfl (by kernel_rfl)  (opv_add rfl rfl (w64 (by omega) (by omega))) ?_
 refine yM rfl rfl (yM rfl rfl ?_)
 refine th_take rfl rfl (by kernel_rfl)  (opv_add rfl rfl (w64 (by omega) (by omega))) ?_
 refine th_take rfl rfl (by kernel_rfl)  (opv_add rfl rfl (w64 (by omega) (by omega))) ?_
 refine th_take rfl rfl (by kernel_rfl)  (opv_indexAddrA rfl rfl (by omega) (by omega)) ?_
 refine th_take rfl rfl (by kernel_rfl)  (opv_loadIX rfl rfl (by omega)) ?_
 refine th_take rfl rfl (by kernel_rfl)  (opv_add rfl rfl (w64 (by omega) (by omega))) ?_
 refine th_take rfl rfl (by kernel_rfl)  (opv_add rfl rfl (w64 (by omega) (by omega))) ?_
 refine yA rfl rfl (yD (tri_inBlock (tT (tR (tM rfl rfl ?_)))))
 refine yU rfl rfl ?_
 refine tA rfl rfl (tN (tT (tri_round (tS (tS (tR (tM rfl rfl ?_)))))))
 refine tri_v (opv_leq rfl rfl) rfl ?_
 refine tN (tT ?_)
 refine tri_cond_not rfl (by decide) ?_
 have d0 := hb' i
 refine tri_exit ?_
 refine tri_then_exit (tri_then_exit ?_)
 refine tri_inBlock_hit rfl ?_
 refine tT (tS (tR (tM rfl rfl (tM rfl rfl ?_))))
 refine tri_v (opv_indexAddrA rfl rfl (by omega) (by omega)) rfl ?_
 refine tri_v (opv_loadIX rfl rfl (by omega)) rfl ?_
 refine tri_v (opv_sub rfl rfl (w64 (by omega) (by omega))) rfl ?_
 refine tA rfl rfl (tN (tT (tri_ret ?_)))
 refine tri_end A Suf.h rfl (.cons (rv_tmp rfl) .nil) ⟨?_, rfl, rfl⟩
 simp only [R8.g_off, retV]
 rfl
end Go.GL


namespace Go.GL
open Go.Proofs
attribute [local irreducible] wpList Code.wp Exit.then Exit.inBlock Ends Tri TriH OpV OpG FnC epf wpAnyH
variable {A : List Asrt} {I : List Chunk}
theorem R8.s16_len (ns : List Node) (n : Int) : (R8.s16 ns n).length = 16 := rfl
end Go.GL


namespace Go.GL
open Go.Proofs
attribute [local irreducible] wpList Code.wp Exit.then Exit.inBlock Ends Tri TriH OpV OpG FnC epf wpAnyH
variable {A : List Asrt} {I : List Chunk}
theorem R6.right.low {ns : List Node} {room : Int} (h : R6.right ns room) {q : Int} (hq : R6.inS ns q) (hl : (R6.nd ns q).lv = 0) : 0 ≤ q ∧ q ≤ 1 := by
 obtain ⟨q0, q1⟩ := hq
 rcases Nat.lt_or_ge q.toNat 2 with h2 | h2
 ·omega
 ·have := (h.2 q.toNat (by omega) h2).2.2.2.2.1
  have hl' : (ns.getD q.toNat default).lv = 0 := hl
  omega
theorem R6.right.bits {ns : List Node} {room n : Int} (h : R6.right ns room) (hn : R6.inS ns n) (hl : (R6.nd ns n).lv = 2) (i : Int) : 0 ≤ R8.g (R8.s16 ns n) i ∧ R8.g (R8.s16 ns n) i ≤ 1 := by
 have key : ∀ q ∈ R8.s16 ns n, 0 ≤ q ∧ q ≤ 1 := by
  intro q hq
  have k1 := fun q hq => h.kidN hn (m := 1) hl (q := q) hq
  have k2 : ∀ p, p ∈ (R6.nd ns n).kids → ∀ q, q ∈ (R6.nd ns p).kids → 0 ≤ q ∧ q ≤ 1 := fun p hp q hq => by
   obtain ⟨g1, _, g3⟩ := k1 p hp
   obtain ⟨f1, _, f3⟩ := h.kidN g1 (m := 0) g3 hq
   exact h.low f1 f3
  simp only [R8.s16, List.mem_cons, List.not_mem_nil, or_false] at hq
  have a := k2 _ (by simp [Node.kids] : (R6.nd ns n).k0 ∈ (R6.nd ns n).kids)
  have b := k2 _ (by simp [Node.kids] : (R6.nd ns n).k1 ∈ (R6.nd ns n).kids)
  have c := k2 _ (by simp [Node.kids] : (R6.nd ns n).k2 ∈ (R6.nd ns n).kids)
  have d := k2 _ (by simp [Node.kids] : (R6.nd ns n).k3 ∈ (R6.nd ns n).kids)
  simp only [Node.kids, List.mem_cons, List.not_mem_nil, or_false] at a b c d
  rcases hq with e | e | e | e | e | e | e | e | e | e | e | e | e | e | e | e <;> subst e <;> first | exact a _ (by simp) | exact b _ (by simp) | exact c _ (by simp) | exact d _ (by simp)
 unfold R8.g
 rcases Nat.lt_or_ge i.toNat (R8.s16 ns n).length with h2 | h2
 ·have := key (R8.s16 ns n)[i.toNat] (List.getElem_mem h2)
  simpa [h2] using this
 ·rw [List.getD_eq_getElem?_getD, List.getElem?_eq_none h2]
  decide
theorem R8.all_eq {ns : List Node} {room n : Int} {p0 p1 p2 p3 p4 p5 p6 p7 p8 : List Node × Int × Int} (e0 : R8.putSq ns room (R8.s16 ns n) 0 0 = p0) (e1 : R8.putSq p0.1 room (R8.s16 ns n) 0 1 = p1) (e2 : R8.putSq p1.1 room (R8.s16 ns n) 0 2 = p2) (e3 : R8.putSq p2.1 room (R8.s16 ns n) 1 0 = p3) (e4 : R8.putSq p3.1 room (R8.s16 ns n) 1 1 = p4) (e5 : R8.putSq p4.1 room (R8.s16 ns n) 1 2 = p5) (e6 : R8.putSq p5.1 room (R8.s16 ns n) 2 0 = p6) (e7 : R8.putSq p6.1 room (R8.s16 ns n) 2 1 = p7) (e8 : R8.putSq p7.1 room (R8.s16 ns n) 2 2 = p8) :
  R8.all ns room n = if p0.2.2 ≠ 0 then (ns, R8.z9, p0.2.2) else if p1.2.2 ≠ 0 then (ns, R8.z9, p1.2.2) else if p2.2.2 ≠ 0 then (ns, R8.z9, p2.2.2) else if p3.2.2 ≠ 0 then (ns, R8.z9, p3.2.2) else if p4.2.2 ≠ 0 then (ns, R8.z9, p4.2.2) else if p5.2.2 ≠ 0 then (ns, R8.z9, p5.2.2) else if p6.2.2 ≠ 0 then (ns, R8.z9, p6.2.2) else if p7.2.2 ≠ 0 then (ns, R8.z9, p7.2.2) else if p8.2.2 ≠ 0 then (ns, R8.z9, p8.2.2) else (p8.1, [p0.2.1, p1.2.1, p2.2.1, p3.2.1, p4.2.1, p5.2.1, p6.2.1, p7.2.1, p8.2.1], 0) := by
 subst e8; subst e7; subst e6; subst e5; subst e4; subst e3; subst e2; subst e1; subst e0
 rfl
end Go.GL


namespace Go.GL
open Go.Proofs
attribute [local irreducible] wpList Code.wp Exit.then Exit.inBlock Ends Tri TriH OpV OpG FnC epf wpAnyH
variable {A : List Asrt} {I : List Chunk}
set_option maxHeartbeats 2000000 in
set_option maxRecDepth 100000 in
theorem base_sixteen {ns : List Node} {a : Option Addr} {cap bx : Nat} {room n : Int} {mv : Value} (hk : R8.Kid ns n) :
  FnC Try.prog 89 [.agg [pt bx 0].toArray, .int .i64 n].toArray (Box bx [.slice a ns.length cap, .int .i64 room, mv] 87 :: Row a cap ns.length 43 6 (encs ns) :: A) I (fun v A' I' => v = .agg (ints (R8.s16 ns n)).toArray ∧ A' = (Box bx [.slice a ns.length cap, .int .i64 room, mv] 87 :: Row a cap ns.length 43 6 (encs ns) :: A) ∧ I = I') := by
 obtain ⟨⟨hn0, hn1⟩, ⟨ha0, ha1⟩, ⟨hb0, hb1⟩, ⟨hc0, hc1⟩, ⟨hd0, hd1⟩⟩ := hk
 unfold R6.nd at ha0 ha1 hb0 hb1 hc0 hc1 hd0 hd1
 skip
 refine fn_enter2 Try.func89 rfl Try.ntmps89 rfl fun w0 => ?_
 refine tS (tR ?_)
 refine tri_g (opg_box_agg rfl) rfl ?_
 rintro _ _ _ ⟨b2, rfl, rfl, rfl⟩
 refine tri_g opg_alloc rfl ?_
 rintro _ _ _ ⟨b4, rfl, rfl, rfl⟩
 refine tN (tT (tS (tS (tR (yF rfl ?_)))))
 refine yL rfl rfl ?_
 refine tri_v (opv_nilCheck rfl) rfl ?_
 refine yF rfl (yF rfl ?_)
 refine yL rfl rfl ?_
 refine tM rfl rfl ?_
 refine tri_v (opv_indexAddrR rfl rfl (by omega) (by omega)) rfl ?_
 refine tri_v (opv_fieldAddrR rfl (by omega) rfl) rfl ?_
 refine tri_v (opv_loadRXA rfl rfl (by omega) rfl rfl rfl) rfl ?_
 refine tM rfl rfl (tN (tT (tri_block ?_)))
 refine tri_rounds 5 ?_
 refine tri_round (tS (tR (yC rfl rfl (tN (tT (tS ?_))))))
 refine tri_cond_is rfl (by decide) ?_
 refine tri_skip (tT (tS (tri_block (tS (tR (tM rfl rfl ?_))))))
 refine tri_v (opv_index rfl rfl (by decide) (by decide) rfl rfl) rfl ?_
 refine tA rfl rfl (tA rfl rfl (tN (tT (tS (tR (yF rfl ?_))))))
 refine yL rfl rfl ?_
 refine tri_v (opv_nilCheck rfl) rfl ?_
 refine yF rfl (yF rfl ?_)
 refine yL rfl rfl ?_
 refine tM rfl rfl ?_
 refine tri_v (opv_indexAddrR rfl rfl (by omega) (by omega)) rfl ?_
 refine tri_v (opv_fieldAddrR rfl (by omega) rfl) rfl ?_
 refine tri_v (opv_loadRXA rfl rfl (by omega) rfl rfl rfl) rfl ?_
 refine tM rfl rfl (tN (tT (tri_block ?_)))
 refine tri_rounds 5 ?_
 refine tri_round (tS (tR (yC rfl rfl (tN (tT (tS ?_))))))
 refine tri_cond_is rfl (by decide) ?_
 refine tri_skip (tT (tS (tri_block (tS (tR (tM rfl rfl ?_))))))
 refine tri_v (opv_index rfl rfl (by decide) (by decide) rfl rfl) rfl ?_
 refine tA rfl rfl (tA rfl rfl (tN (tT (tR (tM rfl rfl ?_)))))
 refine tri_v (opv_quoE rfl rfl (by omega) (by omega) (by omega)) rfl ?_
 refine tri_v (opv_mul rfl rfl (w64 (by omega) (by omega))) rfl ?_
 refine tM rfl rfl ?_
 refine tri_v (opv_quoE rfl rfl (by omega) (by omega) (by omega)) rfl ?_
 refine yU rfl rfl ?_
 refine tri_v (opv_mul rfl rfl (w64 (by omega) (by omega))) rfl ?_
 refine tM rfl rfl ?_
 refine tri_v (opv_remE rfl rfl (by omega) (by omega)) rfl ?_
 refine tri_v (opv_mul rfl rfl (w64 (by omega) (by omega))) rfl ?_
 refine yU rfl rfl ?_
 refine tM rfl rfl ?_
 refine tri_v (opv_remE rfl rfl (by omega) (by omega)) rfl ?_
 refine yU rfl rfl ?_
 refine tM rfl rfl ?_
 refine tri_v (opv_indexAddrA rfl rfl (by decide) (by decide)) rfl ?_
 refine yG rfl rfl rfl rfl rfl rfl ?_
 rintro _ _ _ ⟨rfl, rfl⟩
 refine tN (tri_inBlock (tT (tR ?_)))
 refine yU rfl rfl ?_
 refine tM rfl rfl (tN (tT (tri_round (tS (tR (yC rfl rfl (tN ?_)))))))
 refine tT (tS ?_)
 skip
 refine tri_cond_is rfl (by decide) ?_
 refine tri_skip (tT (tS (tri_block (tS (tR (tM rfl rfl ?_))))))
 refine tri_v (opv_index rfl rfl (by decide) (by decide) rfl rfl) rfl ?_
 refine tA rfl rfl (tA rfl rfl (tN (tT (tR (tM rfl rfl ?_)))))
 refine tri_v (opv_quoE rfl rfl (by omega) (by omega) (by omega)) rfl ?_
 refine tri_v (opv_mul rfl rfl (w64 (by omega) (by omega))) rfl ?_
 refine tM rfl rfl ?_
 refine tri_v (opv_quoE rfl rfl (by omega) (by omega) (by omega)) rfl ?_
 refine yU rfl rfl ?_
 refine tri_v (opv_mul rfl rfl (w64 (by omega) (by omega))) rfl ?_
 refine tM rfl rfl ?_
 refine tri_v (opv_remE rfl rfl (by omega) (by omega)) rfl ?_
 refine tri_v (opv_mul rfl rfl (w64 (by omega) (by omega))) rfl ?_
 refine yU rfl rfl ?_
 refine tM rfl rfl ?_
 refine tri_v (opv_remE rfl rfl (by omega) (by omega)) rfl ?_
 refine yU rfl rfl ?_
 refine tM rfl rfl ?_
 refine tri_v (opv_indexAddrA rfl rfl (by decide) (by decide)) rfl ?_
 refine yG rfl rfl rfl rfl rfl rfl ?_
 rintro _ _ _ ⟨rfl, rfl⟩
 refine tN (tri_inBlock (tT (tR ?_)))
 refine yU rfl rfl ?_
 refine tM rfl rfl (tN (tT (tri_round (tS (tR (yC rfl rfl (tN ?_)))))))
 refine tT (tS ?_)
 skip
 refine tri_cond_is rfl (by decide) ?_
 refine tri_skip (tT (tS (tri_block (tS (tR (tM rfl rfl ?_))))))
 refine tri_v (opv_index rfl rfl (by decide) (by decide) rfl rfl) rfl ?_
 refine tA rfl rfl (tA rfl rfl (tN (tT (tR (tM rfl rfl ?_)))))
 refine tri_v (opv_quoE rfl rfl (by omega) (by omega) (by omega)) rfl ?_
 refine tri_v (opv_mul rfl rfl (w64 (by omega) (by omega))) rfl ?_
 refine tM rfl rfl ?_
 refine tri_v (opv_quoE rfl rfl (by omega) (by omega) (by omega)) rfl ?_
 refine yU rfl rfl ?_
 refine tri_v (opv_mul rfl rfl (w64 (by omega) (by omega))) rfl ?_
 refine tM rfl rfl ?_
 refine tri_v (opv_remE rfl rfl (by omega) (by omega)) rfl ?_
 refine tri_v (opv_mul rfl rfl (w64 (by omega) (by omega))) rfl ?_
 refine yU rfl rfl ?_
 refine tM rfl rfl ?_
 refine tri_v (opv_remE rfl rfl (by omega) (by omega)) rfl ?_
 refine yU rfl rfl ?_
 refine tM rfl rfl ?_
 refine tri_v (opv_indexAddrA rfl rfl (by decide) (by decide)) rfl ?_
 refine yG rfl rfl rfl rfl rfl rfl ?_
 rintro _ _ _ ⟨rfl, rfl⟩
 refine tN (tri_inBlock (tT (tR ?_)))
 refine yU rfl rfl ?_
 refine tM rfl rfl (tN (tT (tri_round (tS (tR (yC rfl rfl (tN ?_)))))))
 refine tT (tS ?_)
 skip
 refine tri_cond_is rfl (by decide) ?_
 refine tri_skip (tT (tS (tri_block (tS (tR (tM rfl rfl ?_))))))
 refine tri_v (opv_index rfl rfl (by decide) (by decide) rfl rfl) rfl ?_
 refine tA rfl rfl (tA rfl rfl (tN (tT (tR (tM rfl rfl ?_)))))
 refine tri_v (opv_quoE rfl rfl (by omega) (by omega) (by omega)) rfl ?_
 refine tri_v (opv_mul rfl rfl (w64 (by omega) (by omega))) rfl ?_
 refine tM rfl rfl ?_
 refine tri_v (opv_quoE rfl rfl (by omega) (by omega) (by omega)) rfl ?_
 refine yU rfl rfl ?_
 refine tri_v (opv_mul rfl rfl (w64 (by omega) (by omega))) rfl ?_
 refine tM rfl rfl ?_
 refine tri_v (opv_remE rfl rfl (by omega) (by omega)) rfl ?_
 refine tri_v (opv_mul rfl rfl (w64 (by omega) (by omega))) rfl ?_
 refine yU rfl rfl ?_
 refine tM rfl rfl ?_
 refine tri_v (opv_remE rfl rfl (by omega) (by omega)) rfl ?_
 refine yU rfl rfl ?_
 refine tM rfl rfl ?_
 refine tri_v (opv_indexAddrA rfl rfl (by decide) (by decide)) rfl ?_
 refine yG rfl rfl rfl rfl rfl rfl ?_
 rintro _ _ _ ⟨rfl, rfl⟩
 refine tN (tri_inBlock (tT (tR ?_)))
 refine yU rfl rfl ?_
 refine tM rfl rfl (tN (tT (tri_round (tS (tR (yC rfl rfl (tN ?_)))))))
 refine tT (tS ?_)
 refine tri_cond_not rfl (by decide) ?_
 refine tri_exit ?_
 refine tri_then_exit (tri_then_exit ?_)
 refine tri_inBlock_hit rfl ?_
 refine tri_inBlock (tT (tR ?_))
 refine yU rfl rfl ?_
 refine tM rfl rfl (tN (tT (tri_round (tS (tR (yC rfl rfl (tN ?_)))))))
 refine tT (tS ?_)
 refine tri_cond_is rfl (by decide) ?_
 refine tri_skip (tT (tS (tri_block (tS (tR (tM rfl rfl ?_))))))
 refine tri_v (opv_index rfl rfl (by decide) (by decide) rfl rfl) rfl ?_
 refine tA rfl rfl (tA rfl rfl (tN (tT (tS (tR (yF rfl ?_))))))
 refine yL rfl rfl ?_
 refine tri_v (opv_nilCheck rfl) rfl ?_
 refine yF rfl (yF rfl ?_)
 refine yL rfl rfl ?_
 refine tM rfl rfl ?_
 refine tri_v (opv_indexAddrR rfl rfl (by omega) (by omega)) rfl ?_
 refine tri_v (opv_fieldAddrR rfl (by omega) rfl) rfl ?_
 refine tri_v (opv_loadRXA rfl rfl (by omega) rfl rfl rfl) rfl ?_
 refine tM rfl rfl (tN (tT (tri_block ?_)))
 refine tri_rounds 5 ?_
 refine tri_round (tS (tR (yC rfl rfl (tN (tT (tS ?_))))))
 refine tri_cond_is rfl (by decide) ?_
 refine tri_skip (tT (tS (tri_block (tS (tR (tM rfl rfl ?_))))))
 refine tri_v (opv_index rfl rfl (by decide) (by decide) rfl rfl) rfl ?_
 refine tA rfl rfl (tA rfl rfl (tN (tT (tR (tM rfl rfl ?_)))))
 refine tri_v (opv_quoE rfl rfl (by omega) (by omega) (by omega)) rfl ?_
 refine tri_v (opv_mul rfl rfl (w64 (by omega) (by omega))) rfl ?_
 refine tM rfl rfl ?_
 refine tri_v (opv_quoE rfl rfl (by omega) (by omega) (by omega)) rfl ?_
 refine yU rfl rfl ?_
 refine tri_v (opv_mul rfl rfl (w64 (by omega) (by omega))) rfl ?_
 refine tM rfl rfl ?_
 refine tri_v (opv_remE rfl rfl (by omega) (by omega)) rfl ?_
 refine tri_v (opv_mul rfl rfl (w64 (by omega) (by omega))) rfl ?_
 refine yU rfl rfl ?_
 refine tM rfl rfl ?_
 refine tri_v (opv_remE rfl rfl (by omega) (by omega)) rfl ?_
 refine yU rfl rfl ?_
 refine tM rfl rfl ?_
 refine tri_v (opv_indexAddrA rfl rfl (by decide) (by decide)) rfl ?_
 refine yG rfl rfl rfl rfl rfl rfl ?_
 rintro _ _ _ ⟨rfl, rfl⟩
 refine tN (tri_inBlock (tT (tR ?_)))
 refine yU rfl rfl ?_
 refine tM rfl rfl (tN (tT (tri_round (tS (tR (yC rfl rfl (tN ?_)))))))
 refine tT (tS ?_)
 skip
 refine tri_cond_is rfl (by decide) ?_
 refine tri_skip (tT (tS (tri_block (tS (tR (tM rfl rfl ?_))))))
 refine tri_v (opv_index rfl rfl (by decide) (by decide) rfl rfl) rfl ?_
 refine tA rfl rfl (tA rfl rfl (tN (tT (tR (tM rfl rfl ?_)))))
 refine tri_v (opv_quoE rfl rfl (by omega) (by omega) (by omega)) rfl ?_
 refine tri_v (opv_mul rfl rfl (w64 (by omega) (by omega))) rfl ?_
 refine tM rfl rfl ?_
 refine tri_v (opv_quoE rfl rfl (by omega) (by omega) (by omega)) rfl ?_
 refine yU rfl rfl ?_
 refine tri_v (opv_mul rfl rfl (w64 (by omega) (by omega))) rfl ?_
 refine tM rfl rfl ?_
 refine tri_v (opv_remE rfl rfl (by omega) (by omega)) rfl ?_
 refine tri_v (opv_mul rfl rfl (w64 (by omega) (by omega))) rfl ?_
 refine yU rfl rfl ?_
 refine tM rfl rfl ?_
 refine tri_v (opv_remE rfl rfl (by omega) (by omega)) rfl ?_
 refine yU rfl rfl ?_
 refine tM rfl rfl ?_
 refine tri_v (opv_indexAddrA rfl rfl (by decide) (by decide)) rfl ?_
 refine yG rfl rfl rfl rfl rfl rfl ?_
 rintro _ _ _ ⟨rfl, rfl⟩
 refine tN (tri_inBlock (tT (tR ?_)))
 refine yU rfl rfl ?_
 refine tM rfl rfl (tN (tT (tri_round (tS (tR (yC rfl rfl (tN ?_)))))))
 refine tT (tS ?_)
 skip
 refine tri_cond_is rfl (by decide) ?_
 refine tri_skip (tT (tS (tri_block (tS (tR (tM rfl rfl ?_))))))
 refine tri_v (opv_index rfl rfl (by decide) (by decide) rfl rfl) rfl ?_
 refine tA rfl rfl (tA rfl rfl (tN (tT (tR (tM rfl rfl ?_)))))
 refine tri_v (opv_quoE rfl rfl (by omega) (by omega) (by omega)) rfl ?_
 refine tri_v (opv_mul rfl rfl (w64 (by omega) (by omega))) rfl ?_
 refine tM rfl rfl ?_
 refine tri_v (opv_quoE rfl rfl (by omega) (by omega) (by omega)) rfl ?_
 refine yU rfl rfl ?_
 refine tri_v (opv_mul rfl rfl (w64 (by omega) (by omega))) rfl ?_
 refine tM rfl rfl ?_
 refine tri_v (opv_remE rfl rfl (by omega) (by omega)) rfl ?_
 refine tri_v (opv_mul rfl rfl (w64 (by omega) (by omega))) rfl ?_
 refine yU rfl rfl ?_
 refine tM rfl rfl ?_
 refine tri_v (opv_remE rfl rfl (by omega) (by omega)) rfl ?_
 refine yU rfl rfl ?_
 refine tM rfl rfl ?_
 refine tri_v (opv_indexAddrA rfl rfl (by decide) (by decide)) rfl ?_
 refine yG rfl rfl rfl rfl rfl rfl ?_
 rintro _ _ _ ⟨rfl, rfl⟩
 refine tN (tri_inBlock (tT (tR ?_)))
 refine yU rfl rfl ?_
 refine tM rfl rfl (tN (tT (tri_round (tS (tR (yC rfl rfl (tN ?_)))))))
 refine tT (tS ?_)
 skip
 refine tri_cond_is rfl (by decide) ?_
 refine tri_skip (tT (tS (tri_block (tS (tR (tM rfl rfl ?_))))))
 refine tri_v (opv_index rfl rfl (by decide) (by decide) rfl rfl) rfl ?_
 refine tA rfl rfl (tA rfl rfl (tN (tT (tR (tM rfl rfl ?_)))))
 refine tri_v (opv_quoE rfl rfl (by omega) (by omega) (by omega)) rfl ?_
 refine tri_v (opv_mul rfl rfl (w64 (by omega) (by omega))) rfl ?_
 refine tM rfl rfl ?_
 refine tri_v (opv_quoE rfl rfl (by omega) (by omega) (by omega)) rfl ?_
 refine yU rfl rfl ?_
 refine tri_v (opv_mul rfl rfl (w64 (by omega) (by omega))) rfl ?_
 refine tM rfl rfl ?_
 refine tri_v (opv_remE rfl rfl (by omega) (by omega)) rfl ?_
 refine tri_v (opv_mul rfl rfl (w64 (by omega) (by omega))) rfl ?_
 refine yU rfl rfl ?_
 refine tM rfl rfl ?_
 refine tri_v (opv_remE rfl rfl (by omega) (by omega)) rfl ?_
 refine yU rfl rfl ?_
 refine tM rfl rfl ?_
 refine tri_v (opv_indexAddrA rfl rfl (by decide) (by decide)) rfl ?_
 refine yG rfl rfl rfl rfl rfl rfl ?_
 rintro _ _ _ ⟨rfl, rfl⟩
 refine tN (tri_inBlock (tT (tR ?_)))
 refine yU rfl rfl ?_
 refine tM rfl rfl (tN (tT (tri_round (tS (tR (yC rfl rfl (tN ?_)))))))
 refine tT (tS ?_)
 refine tri_cond_not rfl (by decide) ?_
 refine tri_exit ?_
 refine tri_then_exit (tri_then_exit ?_)
 refine tri_inBlock_hit rfl ?_
 refine tri_inBlock (tT (tR ?_))
 refine yU rfl rfl ?_
 refine tM rfl rfl (tN (tT (tri_round (tS (tR (yC rfl rfl (tN ?_)))))))
 refine tT (tS ?_)
 refine tri_cond_is rfl (by decide) ?_
 refine tri_skip (tT (tS (tri_block (tS (tR (tM rfl rfl ?_))))))
 refine tri_v (opv_index rfl rfl (by decide) (by decide) rfl rfl) rfl ?_
 refine tA rfl rfl (tA rfl rfl (tN (tT (tS (tR (yF rfl ?_))))))
 refine yL rfl rfl ?_
 refine tri_v (opv_nilCheck rfl) rfl ?_
 refine yF rfl (yF rfl ?_)
 refine yL rfl rfl ?_
 refine tM rfl rfl ?_
 refine tri_v (opv_indexAddrR rfl rfl (by omega) (by omega)) rfl ?_
 refine tri_v (opv_fieldAddrR rfl (by omega) rfl) rfl ?_
 refine tri_v (opv_loadRXA rfl rfl (by omega) rfl rfl rfl) rfl ?_
 refine tM rfl rfl (tN (tT (tri_block ?_)))
 refine tri_rounds 5 ?_
 refine tri_round (tS (tR (yC rfl rfl (tN (tT (tS ?_))))))
 refine tri_cond_is rfl (by decide) ?_
 refine tri_skip (tT (tS (tri_block (tS (tR (tM rfl rfl ?_))))))
 refine tri_v (opv_index rfl rfl (by decide) (by decide) rfl rfl) rfl ?_
 refine tA rfl rfl (tA rfl rfl (tN (tT (tR (tM rfl rfl ?_)))))
 refine tri_v (opv_quoE rfl rfl (by omega) (by omega) (by omega)) rfl ?_
 refine tri_v (opv_mul rfl rfl (w64 (by omega) (by omega))) rfl ?_
 refine tM rfl rfl ?_
 refine tri_v (opv_quoE rfl rfl (by omega) (by omega) (by omega)) rfl ?_
 refine yU rfl rfl ?_
 refine tri_v (opv_mul rfl rfl (w64 (by omega) (by omega))) rfl ?_
 refine tM rfl rfl ?_
 refine tri_v (opv_remE rfl rfl (by omega) (by omega)) rfl ?_
 refine tri_v (opv_mul rfl rfl (w64 (by omega) (by omega))) rfl ?_
 refine yU rfl rfl ?_
 refine tM rfl rfl ?_
 refine tri_v (opv_remE rfl rfl (by omega) (by omega)) rfl ?_
 refine yU rfl rfl ?_
 refine tM rfl rfl ?_
 refine tri_v (opv_indexAddrA rfl rfl (by decide) (by decide)) rfl ?_
 refine yG rfl rfl rfl rfl rfl rfl ?_
 rintro _ _ _ ⟨rfl, rfl⟩
 refine tN (tri_inBlock (tT (tR ?_)))
 refine yU rfl rfl ?_
 refine tM rfl rfl (tN (tT (tri_round (tS (tR (yC rfl rfl (tN ?_)))))))
 refine tT (tS ?_)
 skip
 refine tri_cond_is rfl (by decide) ?_
 refine tri_skip (tT (tS (tri_block (tS (tR (tM rfl rfl ?_))))))
 refine tri_v (opv_index rfl rfl (by decide) (by decide) rfl rfl) rfl ?_
 refine tA rfl rfl (tA rfl rfl (tN (tT (tR (tM rfl rfl ?_)))))
 refine tri_v (opv_quoE rfl rfl (by omega) (by omega) (by omega)) rfl ?_
 refine tri_v (opv_mul rfl rfl (w64 (by omega) (by omega))) rfl ?_
 refine tM rfl rfl ?_
 refine tri_v (opv_quoE rfl rfl (by omega) (by omega) (by omega)) rfl ?_
 refine yU rfl rfl ?_
 refine tri_v (opv_mul rfl rfl (w64 (by omega) (by omega))) rfl ?_
 refine tM rfl rfl ?_
 refine tri_v (opv_remE rfl rfl (by omega) (by omega)) rfl ?_
 refine tri_v (opv_mul rfl rfl (w64 (by omega) (by omega))) rfl ?_
 refine yU rfl rfl ?_
 refine tM rfl rfl ?_
 refine tri_v (opv_remE rfl rfl (by omega) (by omega)) rfl ?_
 refine yU rfl rfl ?_
 refine tM rfl rfl ?_
 refine tri_v (opv_indexAddrA rfl rfl (by decide) (by decide)) rfl ?_
 refine yG rfl rfl rfl rfl rfl rfl ?_
 rintro _ _ _ ⟨rfl, rfl⟩
 refine tN (tri_inBlock (tT (tR ?_)))
 refine yU rfl rfl ?_
 refine tM rfl rfl (tN (tT (tri_round (tS (tR (yC rfl rfl (tN ?_)))))))
 refine tT (tS ?_)
 skip
 refine tri_cond_is rfl (by decide) ?_
 refine tri_skip (tT (tS (tri_block (tS (tR (tM rfl rfl ?_))))))
 refine tri_v (opv_index rfl rfl (by decide) (by decide) rfl rfl) rfl ?_
 refine tA rfl rfl (tA rfl rfl (tN (tT (tR (tM rfl rfl ?_)))))
 refine tri_v (opv_quoE rfl rfl (by omega) (by omega) (by omega)) rfl ?_
 refine tri_v (opv_mul rfl rfl (w64 (by omega) (by omega))) rfl ?_
 refine tM rfl rfl ?_
 refine tri_v (opv_quoE rfl rfl (by omega) (by omega) (by omega)) rfl ?_
 refine yU rfl rfl ?_
 refine tri_v (opv_mul rfl rfl (w64 (by omega) (by omega))) rfl ?_
 refine tM rfl rfl ?_
 refine tri_v (opv_remE rfl rfl (by omega) (by omega)) rfl ?_
 refine tri_v (opv_mul rfl rfl (w64 (by omega) (by omega))) rfl ?_
 refine yU rfl rfl ?_
 refine tM rfl rfl ?_
 refine tri_v (opv_remE rfl rfl (by omega) (by omega)) rfl ?_
 refine yU rfl rfl ?_
 refine tM rfl rfl ?_
 refine tri_v (opv_indexAddrA rfl rfl (by decide) (by decide)) rfl ?_
 refine yG rfl rfl rfl rfl rfl rfl ?_
 rintro _ _ _ ⟨rfl, rfl⟩
 refine tN (tri_inBlock (tT (tR ?_)))
 refine yU rfl rfl ?_
 refine tM rfl rfl (tN (tT (tri_round (tS (tR (yC rfl rfl (tN ?_)))))))
 refine tT (tS ?_)
 skip
 refine tri_cond_is rfl (by decide) ?_
 refine tri_skip (tT (tS (tri_block (tS (tR (tM rfl rfl ?_))))))
 refine tri_v (opv_index rfl rfl (by decide) (by decide) rfl rfl) rfl ?_
 refine tA rfl rfl (tA rfl rfl (tN (tT (tR (tM rfl rfl ?_)))))
 refine tri_v (opv_quoE rfl rfl (by omega) (by omega) (by omega)) rfl ?_
 refine tri_v (opv_mul rfl rfl (w64 (by omega) (by omega))) rfl ?_
 refine tM rfl rfl ?_
 refine tri_v (opv_quoE rfl rfl (by omega) (by omega) (by omega)) rfl ?_
 refine yU rfl rfl ?_
 refine tri_v (opv_mul rfl rfl (w64 (by omega) (by omega))) rfl ?_
 refine tM rfl rfl ?_
 refine tri_v (opv_remE rfl rfl (by omega) (by omega)) rfl ?_
 refine tri_v (opv_mul rfl rfl (w64 (by omega) (by omega))) rfl ?_
 refine yU rfl rfl ?_
 refine tM rfl rfl ?_
 refine tri_v (opv_remE rfl rfl (by omega) (by omega)) rfl ?_
 refine yU rfl rfl ?_
 refine tM rfl rfl ?_
 refine tri_v (opv_indexAddrA rfl rfl (by decide) (by decide)) rfl ?_
 refine yG rfl rfl rfl rfl rfl rfl ?_
 rintro _ _ _ ⟨rfl, rfl⟩
 refine tN (tri_inBlock (tT (tR ?_)))
 refine yU rfl rfl ?_
 refine tM rfl rfl (tN (tT (tri_round (tS (tR (yC rfl rfl (tN ?_)))))))
 refine tT (tS ?_)
 refine tri_cond_not rfl (by decide) ?_
 refine tri_exit ?_
 refine tri_then_exit (tri_then_exit ?_)
 refine tri_inBlock_hit rfl ?_
 refine tri_inBlock (tT (tR ?_))
 refine yU rfl rfl ?_
 refine tM rfl rfl (tN (tT (tri_round (tS (tR (yC rfl rfl (tN ?_)))))))
 refine tT (tS ?_)
 refine tri_cond_is rfl (by decide) ?_
 refine tri_skip (tT (tS (tri_block (tS (tR (tM rfl rfl ?_))))))
 refine tri_v (opv_index rfl rfl (by decide) (by decide) rfl rfl) rfl ?_
 refine tA rfl rfl (tA rfl rfl (tN (tT (tS (tR (yF rfl ?_))))))
 refine yL rfl rfl ?_
 refine tri_v (opv_nilCheck rfl) rfl ?_
 refine yF rfl (yF rfl ?_)
 refine yL rfl rfl ?_
 refine tM rfl rfl ?_
 refine tri_v (opv_indexAddrR rfl rfl (by omega) (by omega)) rfl ?_
 refine tri_v (opv_fieldAddrR rfl (by omega) rfl) rfl ?_
 refine tri_v (opv_loadRXA rfl rfl (by omega) rfl rfl rfl) rfl ?_
 refine tM rfl rfl (tN (tT (tri_block ?_)))
 refine tri_rounds 5 ?_
 refine tri_round (tS (tR (yC rfl rfl (tN (tT (tS ?_))))))
 refine tri_cond_is rfl (by decide) ?_
 refine tri_skip (tT (tS (tri_block (tS (tR (tM rfl rfl ?_))))))
 refine tri_v (opv_index rfl rfl (by decide) (by decide) rfl rfl) rfl ?_
 refine tA rfl rfl (tA rfl rfl (tN (tT (tR (tM rfl rfl ?_)))))
 refine tri_v (opv_quoE rfl rfl (by omega) (by omega) (by omega)) rfl ?_
 refine tri_v (opv_mul rfl rfl (w64 (by omega) (by omega))) rfl ?_
 refine tM rfl rfl ?_
 refine tri_v (opv_quoE rfl rfl (by omega) (by omega) (by omega)) rfl ?_
 refine yU rfl rfl ?_
 refine tri_v (opv_mul rfl rfl (w64 (by omega) (by omega))) rfl ?_
 refine tM rfl rfl ?_
 refine tri_v (opv_remE rfl rfl (by omega) (by omega)) rfl ?_
 refine tri_v (opv_mul rfl rfl (w64 (by omega) (by omega))) rfl ?_
 refine yU rfl rfl ?_
 refine tM rfl rfl ?_
 refine tri_v (opv_remE rfl rfl (by omega) (by omega)) rfl ?_
 refine yU rfl rfl ?_
 refine tM rfl rfl ?_
 refine tri_v (opv_indexAddrA rfl rfl (by decide) (by decide)) rfl ?_
 refine yG rfl rfl rfl rfl rfl rfl ?_
 rintro _ _ _ ⟨rfl, rfl⟩
 refine tN (tri_inBlock (tT (tR ?_)))
 refine yU rfl rfl ?_
 refine tM rfl rfl (tN (tT (tri_round (tS (tR (yC rfl rfl (tN ?_)))))))
 refine tT (tS ?_)
 skip
 refine tri_cond_is rfl (by decide) ?_
 refine tri_skip (tT (tS (tri_block (tS (tR (tM rfl rfl ?_))))))
 refine tri_v (opv_index rfl rfl (by decide) (by decide) rfl rfl) rfl ?_
 refine tA rfl rfl (tA rfl rfl (tN (tT (tR (tM rfl rfl ?_)))))
 refine tri_v (opv_quoE rfl rfl (by omega) (by omega) (by omega)) rfl ?_
 refine tri_v (opv_mul rfl rfl (w64 (by omega) (by omega))) rfl ?_
 refine tM rfl rfl ?_
 refine tri_v (opv_quoE rfl rfl (by omega) (by omega) (by omega)) rfl ?_
 refine yU rfl rfl ?_
 refine tri_v (opv_mul rfl rfl (w64 (by omega) (by omega))) rfl ?_
 refine tM rfl rfl ?_
 refine tri_v (opv_remE rfl rfl (by omega) (by omega)) rfl ?_
 refine tri_v (opv_mul rfl rfl (w64 (by omega) (by omega))) rfl ?_
 refine yU rfl rfl ?_
 refine tM rfl rfl ?_
 refine tri_v (opv_remE rfl rfl (by omega) (by omega)) rfl ?_
 refine yU rfl rfl ?_
 refine tM rfl rfl ?_
 refine tri_v (opv_indexAddrA rfl rfl (by decide) (by decide)) rfl ?_
 refine yG rfl rfl rfl rfl rfl rfl ?_
 rintro _ _ _ ⟨rfl, rfl⟩
 refine tN (tri_inBlock (tT (tR ?_)))
 refine yU rfl rfl ?_
 refine tM rfl rfl (tN (tT (tri_round (tS (tR (yC rfl rfl (tN ?_)))))))
 refine tT (tS ?_)
 skip
 refine tri_cond_is rfl (by decide) ?_
 refine tri_skip (tT (tS (tri_block (tS (tR (tM rfl rfl ?_))))))
 refine tri_v (opv_index rfl rfl (by decide) (by decide) rfl rfl) rfl ?_
 refine tA rfl rfl (tA rfl rfl (tN (tT (tR (tM rfl rfl ?_)))))
 refine tri_v (opv_quoE rfl rfl (by omega) (by omega) (by omega)) rfl ?_
 refine tri_v (opv_mul rfl rfl (w64 (by omega) (by omega))) rfl ?_
 refine tM rfl rfl ?_
 refine tri_v (opv_quoE rfl rfl (by omega) (by omega) (by omega)) rfl ?_
 refine yU rfl rfl ?_
 refine tri_v (opv_mul rfl rfl (w64 (by omega) (by omega))) rfl ?_
 refine tM rfl rfl ?_
 refine tri_v (opv_remE rfl rfl (by omega) (by omega)) rfl ?_
 refine tri_v (opv_mul rfl rfl (w64 (by omega) (by omega))) rfl ?_
 refine yU rfl rfl ?_
 refine tM rfl rfl ?_
 refine tri_v (opv_remE rfl rfl (by omega) (by omega)) rfl ?_
 refine yU rfl rfl ?_
 refine tM rfl rfl ?_
 refine tri_v (opv_indexAddrA rfl rfl (by decide) (by decide)) rfl ?_
 refine yG rfl rfl rfl rfl rfl rfl ?_
 rintro _ _ _ ⟨rfl, rfl⟩
 refine tN (tri_inBlock (tT (tR ?_)))
 refine yU rfl rfl ?_
 refine tM rfl rfl (tN (tT (tri_round (tS (tR (yC rfl rfl (tN ?_)))))))
 refine tT (tS ?_)
 skip
 refine tri_cond_is rfl (by decide) ?_
 refine tri_skip (tT (tS (tri_block (tS (tR (tM rfl rfl ?_))))))
 refine tri_v (opv_index rfl rfl (by decide) (by decide) rfl rfl) rfl ?_
 refine tA rfl rfl (tA rfl rfl (tN (tT (tR (tM rfl rfl ?_)))))
 refine tri_v (opv_quoE rfl rfl (by omega) (by omega) (by omega)) rfl ?_
 refine tri_v (opv_mul rfl rfl (w64 (by omega) (by omega))) rfl ?_
 refine tM rfl rfl ?_
 refine tri_v (opv_quoE rfl rfl (by omega) (by omega) (by omega)) rfl ?_
 refine yU rfl rfl ?_
 refine tri_v (opv_mul rfl rfl (w64 (by omega) (by omega))) rfl ?_
 refine tM rfl rfl ?_
 refine tri_v (opv_remE rfl rfl (by omega) (by omega)) rfl ?_
 refine tri_v (opv_mul rfl rfl (w64 (by omega) (by omega))) rfl ?_
 refine yU rfl rfl ?_
 refine tM rfl rfl ?_
 refine tri_v (opv_remE rfl rfl (by omega) (by omega)) rfl ?_
 refine yU rfl rfl ?_
 refine tM rfl rfl ?_
 refine tri_v (opv_indexAddrA rfl rfl (by decide) (by decide)) rfl ?_
 refine yG rfl rfl rfl rfl rfl rfl ?_
 rintro _ _ _ ⟨rfl, rfl⟩
 refine tN (tri_inBlock (tT (tR ?_)))
 refine yU rfl rfl ?_
 refine tM rfl rfl (tN (tT (tri_round (tS (tR (yC rfl rfl (tN ?_)))))))
 refine tT (tS ?_)
 refine tri_cond_not rfl (by decide) ?_
 refine tri_exit ?_
 refine tri_then_exit (tri_then_exit ?_)
 refine tri_inBlock_hit rfl ?_
 refine tri_inBlock (tT (tR ?_))
 refine yU rfl rfl ?_
 refine tM rfl rfl (tN (tT (tri_round (tS (tR (yC rfl rfl (tN ?_)))))))
 refine tT (tS ?_)
 refine tri_cond_not rfl (by decide) ?_
 refine tri_exit ?_
 refine tri_then_exit (tri_then_exit ?_)
 refine tri_inBlock_hit rfl ?_
 refine tT (tS (tR ?_))
 refine yB rfl rfl ?_
 refine yG rfl rfl rfl rfl rfl rfl ?_
 rintro _ _ _ ⟨rfl, rfl⟩
 refine tN (tT (tri_ret ?_))
 refine tri_end _ (⟨[_, _], rfl⟩) rfl (.cons (rv_cellA rfl rfl rfl) .nil) ⟨rfl, rfl, rfl⟩
end Go.GL


namespace Go.GL
open Go.Proofs
attribute [local irreducible] wpList Code.wp Exit.then Exit.inBlock Ends Tri TriH OpV OpG FnC epf wpAnyH
variable {A : List Asrt} {I : List Chunk}
/-- What a function on an index tells and leaves behind. -/
def IxR (bx mb : Nat) (r : List Node × Int × Int) (room : Int) (A : List Asrt) (I : List Chunk) : Value → List Asrt → List Chunk → Prop :=
 fun v A' I' => ∃ a' cap' es', v = .tuple [.int .i64 r.2.1, .int .i64 r.2.2].toArray ∧ A' = IxA bx mb a' cap' r.1 room es' A ∧ Idx r.1 es' ∧ I = I'
theorem node_putR {A : List Asrt} {I : List Chunk} {ns : List Node} {a : Option Addr} {cap bx mb : Nat} {room q0 q1 q2 q3 : Int} {es : KVs} {r : List Node × Int × Int} (hg : R6.Good ns room) (h2 : 2 ≤ ns.length) (hi : Idx ns es) (hr : R6.put ns room q0 q1 q2 q3 = r) :
  FnC Try.prog 88 [pt bx 0, int4V q0 q1 q2 q3].toArray (IxA bx mb a cap ns room es A) I (IxR bx mb r room A I) := by
 subst hr
 exact node_put hg h2 hi
theorem R6.put_len {ns : List Node} {room q0 q1 q2 q3 : Int} (h : 2 ≤ ns.length) : 2 ≤ (R6.put ns room q0 q1 q2 q3).1.length := by
 unfold R6.put
 split
 ·split
  ·exact h
  ·split
   ·exact h
   ·simp only [List.length_append]; omega
 ·exact h
end Go.GL


namespace Go.GL
open Go.Proofs
attribute [local irreducible] wpList Code.wp Exit.then Exit.inBlock Ends Tri TriH OpV OpG FnC epf wpAnyH
variable {A : List Asrt} {I : List Chunk}
set_option maxRecDepth 100000 in
theorem maker_centre {ns : List Node} {a : Option Addr} {cap bx mb : Nat} {room n : Int} {es : KVs} (hg : R6.Good ns room) (h2 : 2 ≤ ns.length) (hi : Idx ns es) (hk : R8.Kid ns n) :
  FnC Try.prog 87 [.agg [pt bx 0].toArray, .int .i64 n].toArray (IxA bx mb a cap ns room es A) I (IxR bx mb (R8.putSq ns room (R8.s16 ns n) 1 1) room A I) := by
 skip
 refine fn_enter2 Try.func87 rfl Try.ntmps87 rfl fun w0 => ?_
 refine tS (tR ?_)
 refine tri_g (opg_box_agg rfl) rfl ?_
 rintro _ _ _ ⟨b2, rfl, rfl, rfl⟩
 refine tA rfl rfl (tA rfl rfl (tN (tT (tS ?_))))
 refine tri_perm (A := ?a1_0 :: ?a1_1 :: ?a1_2 :: ?a1_3 :: ?T1) (B := ?a1_1 :: ?a1_2 :: ?a1_3 :: ?a1_0 :: ?T1) (by exact permL [1, 2, 3, 0] [?a1_0, ?a1_1, ?a1_2, ?a1_3] ?T1 (by decide) rfl) ?_
 skip
 refine tri_draw [0, 1, 2, 3, 4, 5, 6, 7, 8, 9, 10] rfl [_, _, _] rfl mixed ?_
 refine yf rfl rfl ?_
 refine yl rfl rfl rfl ?_
 refine th_take rfl rfl (by kernel_rfl)  (opv_loadA rfl rfl rfl) ?_
 refine yM rfl rfl ?_
 refine th_one (by kernel_rfl) (step_m rfl rfl (opg_call (xs := [_, _]) rfl (base_sixteen hk)) ?_)
 rintro _ _ _ ⟨rfl, rfl, rfl⟩
 refine ⟨Suf.h, (fun _ h => h), ?_⟩
 skip
 refine th_one (by kernel_rfl) (step_m rfl rfl (opg_call (xs := [_, _, _]) rfl (base_square (R8.s16_len ns n) (by omega) (by omega) (by omega) (by omega))) ?_)
 rintro _ _ _ ⟨rfl, rfl, rfl⟩
 refine ⟨Suf.h, (fun _ h => h), ?_⟩
 skip
 refine th_one (by kernel_rfl) (step_m rfl rfl (opg_call (xs := [_, _]) rfl (node_putR (r := R8.putSq ns room (R8.s16 ns n) 1 1) hg h2 hi rfl)) ?_)
 rintro _ _ _ ⟨a1, c1, es1, rfl, rfl, hi1, rfl⟩
 refine ⟨Suf.h, (fun _ h => h), ?_⟩
 refine yE rfl rfl rfl (yE rfl rfl rfl (yA rfl rfl (yA rfl rfl (yD (tT (tri_ret ?_))))))
 refine tri_perm (A := ?a2_0 :: ?a2_1 :: ?a2_2 :: ?a2_3 :: ?T2) (B := ?a2_3 :: ?a2_0 :: ?a2_1 :: ?a2_2 :: ?T2) (by exact permL [3, 0, 1, 2] [?a2_0, ?a2_1, ?a2_2, ?a2_3] ?T2 (by decide) rfl) ?_
 refine tri_end (IxA bx mb a1 c1 (R8.putSq ns room (R8.s16 ns n) 1 1).1 room es1 A) Suf.h rfl (.cons (rv_tmp rfl) (.cons (rv_tmp rfl) .nil)) ⟨a1, c1, es1, rfl, rfl, hi1, rfl⟩
theorem R8.ar_eq (l : List Int) : R8.ar l 5 = R8.about l 1 1 9 ∧ R8.ar l 6 = R8.about l 1 2 9 ∧ R8.ar l 9 = R8.about l 2 1 9 ∧ R8.ar l 10 = R8.about l 2 2 9 := by
 refine ⟨?_, ?_, ?_, ?_⟩ <;> simp [R8.about, R8.ar] <;> omega
theorem R8.bit_ar (l : List Int) : R8.bit l 1 1 = (if R2.lives (decide (R8.g l 5 = 1)) (R8.ar l 5) = true then 1 else 0) ∧ R8.bit l 1 2 = (if R2.lives (decide (R8.g l 6 = 1)) (R8.ar l 6) = true then 1 else 0) ∧ R8.bit l 2 1 = (if R2.lives (decide (R8.g l 9 = 1)) (R8.ar l 9) = true then 1 else 0) ∧ R8.bit l 2 2 = (if R2.lives (decide (R8.g l 10 = 1)) (R8.ar l 10) = true then 1 else 0) := by
 obtain ⟨h1, h2, h3, h4⟩ := R8.ar_eq l
 rw [h1, h2, h3, h4]
 exact ⟨rfl, rfl, rfl, rfl⟩
set_option maxHeartbeats 2000000 in
set_option maxRecDepth 100000 in
theorem maker_step {ns : List Node} {a : Option Addr} {cap bx mb : Nat} {room n : Int} {es : KVs} (hg : R6.Good ns room) (h2 : 2 ≤ ns.length) (hi : Idx ns es) (hk : R8.Kid ns n) (hb : ∀ i, 0 ≤ R8.g (R8.s16 ns n) i ∧ R8.g (R8.s16 ns n) i ≤ 1) :
  FnC Try.prog 83 [.agg [pt bx 0].toArray, .int .i64 n].toArray (IxA bx mb a cap ns room es A) I (IxR bx mb (R8.one ns room n) room A I) := by
 have hlen := R8.s16_len ns n
 obtain ⟨hb0, hb1, hb2, hb3⟩ := R8.bit_ar (R8.s16 ns n)
 skip
 refine fn_enter2 Try.func83 rfl Try.ntmps83 rfl fun w0 => ?_
 refine tS (tR ?_)
 refine tri_g (opg_box_agg rfl) rfl ?_
 rintro _ _ _ ⟨b2, rfl, rfl, rfl⟩
 refine tA rfl rfl (tA rfl rfl (tN (tT (tS ?_))))
 refine tri_perm (A := ?a3_0 :: ?a3_1 :: ?a3_2 :: ?T3) (B := ?a3_1 :: ?a3_2 :: ?a3_0 :: ?T3) (by exact permL [1, 2, 0] [?a3_0, ?a3_1, ?a3_2] ?T3 (by decide) rfl) ?_
 refine tR ?_
 refine yB rfl rfl ?_
 refine tM rfl rfl ?_
 refine tri_g (opg_call (xs := [_, _]) rfl (base_sixteen hk)) rfl ?_
 rintro _ _ _ ⟨rfl, rfl, rfl⟩
 refine tri_g opg_alloc rfl ?_
 rintro _ _ _ ⟨b6, rfl, rfl, rfl⟩
 refine yG rfl rfl rfl rfl rfl rfl ?_
 rintro _ _ _ ⟨rfl, rfl⟩
 refine tN (tT (tS (tR ?_)))
 refine tri_g opg_alloc rfl ?_
 rintro _ _ _ ⟨b7, rfl, rfl, rfl⟩
 refine tN (tT (tS (tS (tR (tM rfl rfl (tN (tT ?_)))))))
 refine tri_block ?_
 refine tri_rounds 5 ?_
 refine tri_round (tS (tR (yC rfl rfl (tN (tT (tS ?_))))))
 refine tri_cond_is rfl (by decide) ?_
 refine tri_skip (tT (tS (tri_block (tS (tR (tM rfl rfl (tA rfl rfl ?_)))))))
 refine tN (tT (tS (tR (tM rfl rfl ?_))))
 refine tri_v (opv_quoE rfl rfl (by omega) (by omega) (by omega)) rfl ?_
 refine yU rfl rfl ?_
 refine tri_v (opv_mul rfl rfl (w64 (by omega) (by omega))) rfl ?_
 refine yU rfl rfl ?_
 refine tM rfl rfl ?_
 refine tri_v (opv_remE rfl rfl (by omega) (by omega)) rfl ?_
 refine yU rfl rfl ?_
 refine tA rfl rfl (tN (tT (tS ?_)))
 refine tri_draw [0, 1, 2, 3, 4, 5, 6, 7] rfl [] rfl mixed ?_
 refine yM rfl rfl ?_
 refine th_take rfl rfl (by kernel_rfl)  (opv_indexAddrA rfl rfl (by decide) (by decide)) ?_
 refine yl rfl rfl rfl ?_
 refine th_take rfl rfl (by kernel_rfl)  (opv_eql rfl rfl) ?_
 refine th_take rfl rfl (by kernel_rfl)  (opv_loadA rfl rfl rfl) ?_
 refine yM rfl rfl ?_
 refine th_one (by kernel_rfl) (step_m rfl rfl (opg_call (xs := [_, _]) rfl (base_around (i := 5) hlen hb (by omega) (by omega))) ?_)
 rintro _ _ _ ⟨rfl, rfl, rfl⟩
 refine ⟨Suf.h, (fun _ h => h), ?_⟩
 skip
 refine th_one (by kernel_rfl) (step_m rfl rfl (opg_call (xs := [_, _]) rfl (life_lives)) ?_)
 rintro _ _ _ ⟨rfl, rfl, rfl⟩
 refine ⟨Suf.h, (fun _ h => h), ?_⟩
 refine yD (tT ?_)
 refine tri_cut (fun F' A' J => F' = [(1, .int .i64 n), (2, pt b2 0), (6, pt b6 0), (7, pt b7 0), (8, .int .i64 0), (13, .int .i64 0)] ∧ A' = Box b7 [.int .i64 (R8.bit (R8.s16 ns n) 1 1), .int .i64 (0), .int .i64 (0), .int .i64 (0)] 41 :: Box b6 (ints (R8.s16 ns n)) 158 :: Box bx [.slice a ns.length cap, .int .i64 room, .map (some mb)] 87 :: Row a cap ns.length 43 6 (encs ns) :: Box b2 [pt bx 0] 68 :: MapA Try.prog 41 mb es :: A ∧ I = J) ?_ ?_
 ·refine tri_cond rfl (fun hv => ?_) (fun hv => ?_)
  ·refine tR (tM rfl rfl ?_)
   refine tri_v (opv_indexAddrA rfl rfl (by decide) (by decide)) rfl ?_
   refine yG rfl rfl rfl rfl rfl rfl ?_
   rintro _ _ _ ⟨rfl, rfl⟩
   refine tN ?_
   have hv' : R2.lives (decide (R8.g (R8.s16 ns n) 5 = 1)) (R8.ar (R8.s16 ns n) 5) = true := hv
   exact tri_cutEnd _ ⟨rfl, by rw [hb0, if_pos hv'] <;> rfl, rfl⟩ ⟨rfl, rfl, rfl, rfl, rfl, rfl, trivial⟩
  ·refine tri_skip ?_
   have hv' : ¬ R2.lives (decide (R8.g (R8.s16 ns n) 5 = 1)) (R8.ar (R8.s16 ns n) 5) = true := fun h => Bool.false_ne_true (hv.symm.trans h)
   exact tri_cutEnd _ ⟨rfl, by rw [hb0, if_neg hv'] <;> rfl, rfl⟩ ⟨rfl, rfl, rfl, rfl, rfl, rfl, trivial⟩
 rintro _ _ _ ⟨rfl, rfl, rfl⟩
 skip
 refine tri_inBlock (tT (tR ?_))
 refine yU rfl rfl ?_
 refine tM rfl rfl (tN (tT (tri_round (tS (tR (yC rfl rfl (tN ?_)))))))
 refine tT (tS ?_)
 skip
 refine tri_cond_is rfl (by decide) ?_
 refine tri_skip (tT (tS (tri_block (tS (tR (tM rfl rfl (tA rfl rfl ?_)))))))
 refine tN (tT (tS (tR (tM rfl rfl ?_))))
 refine tri_v (opv_quoE rfl rfl (by omega) (by omega) (by omega)) rfl ?_
 refine yU rfl rfl ?_
 refine tri_v (opv_mul rfl rfl (w64 (by omega) (by omega))) rfl ?_
 refine yU rfl rfl ?_
 refine tM rfl rfl ?_
 refine tri_v (opv_remE rfl rfl (by omega) (by omega)) rfl ?_
 refine yU rfl rfl ?_
 refine tA rfl rfl (tN (tT (tS ?_)))
 refine tri_draw [0, 1, 2, 3, 4, 5, 6, 7] rfl [] rfl mixed ?_
 refine yM rfl rfl ?_
 refine th_take rfl rfl (by kernel_rfl)  (opv_indexAddrA rfl rfl (by decide) (by decide)) ?_
 refine yl rfl rfl rfl ?_
 refine th_take rfl rfl (by kernel_rfl)  (opv_eql rfl rfl) ?_
 refine th_take rfl rfl (by kernel_rfl)  (opv_loadA rfl rfl rfl) ?_
 refine yM rfl rfl ?_
 refine th_one (by kernel_rfl) (step_m rfl rfl (opg_call (xs := [_, _]) rfl (base_around (i := 6) hlen hb (by omega) (by omega))) ?_)
 rintro _ _ _ ⟨rfl, rfl, rfl⟩
 refine ⟨Suf.h, (fun _ h => h), ?_⟩
 skip
 refine th_one (by kernel_rfl) (step_m rfl rfl (opg_call (xs := [_, _]) rfl (life_lives)) ?_)
 rintro _ _ _ ⟨rfl, rfl, rfl⟩
 refine ⟨Suf.h, (fun _ h => h), ?_⟩
 refine yD (tT ?_)
 refine tri_cut (fun F' A' J => F' = [(1, .int .i64 n), (2, pt b2 0), (6, pt b6 0), (7, pt b7 0), (8, .int .i64 1), (13, .int .i64 1)] ∧ A' = Box b7 [.int .i64 (R8.bit (R8.s16 ns n) 1 1), .int .i64 (R8.bit (R8.s16 ns n) 1 2), .int .i64 (0), .int .i64 (0)] 41 :: Box b6 (ints (R8.s16 ns n)) 158 :: Box bx [.slice a ns.length cap, .int .i64 room, .map (some mb)] 87 :: Row a cap ns.length 43 6 (encs ns) :: Box b2 [pt bx 0] 68 :: MapA Try.prog 41 mb es :: A ∧ I = J) ?_ ?_
 ·refine tri_cond rfl (fun hv => ?_) (fun hv => ?_)
  ·refine tR (tM rfl rfl ?_)
   refine tri_v (opv_indexAddrA rfl rfl (by decide) (by decide)) rfl ?_
   refine yG rfl rfl rfl rfl rfl rfl ?_
   rintro _ _ _ ⟨rfl, rfl⟩
   refine tN ?_
   have hv' : R2.lives (decide (R8.g (R8.s16 ns n) 6 = 1)) (R8.ar (R8.s16 ns n) 6) = true := hv
   exact tri_cutEnd _ ⟨rfl, by rw [hb1, if_pos hv'] <;> rfl, rfl⟩ ⟨rfl, rfl, rfl, rfl, rfl, rfl, trivial⟩
  ·refine tri_skip ?_
   have hv' : ¬ R2.lives (decide (R8.g (R8.s16 ns n) 6 = 1)) (R8.ar (R8.s16 ns n) 6) = true := fun h => Bool.false_ne_true (hv.symm.trans h)
   exact tri_cutEnd _ ⟨rfl, by rw [hb1, if_neg hv'] <;> rfl, rfl⟩ ⟨rfl, rfl, rfl, rfl, rfl, rfl, trivial⟩
 rintro _ _ _ ⟨rfl, rfl, rfl⟩
 skip
 refine tri_inBlock (tT (tR ?_))
 refine yU rfl rfl ?_
 refine tM rfl rfl (tN (tT (tri_round (tS (tR (yC rfl rfl (tN ?_)))))))
 refine tT (tS ?_)
 skip
 refine tri_cond_is rfl (by decide) ?_
 refine tri_skip (tT (tS (tri_block (tS (tR (tM rfl rfl (tA rfl rfl ?_)))))))
 refine tN (tT (tS (tR (tM rfl rfl ?_))))
 refine tri_v (opv_quoE rfl rfl (by omega) (by omega) (by omega)) rfl ?_
 refine yU rfl rfl ?_
 refine tri_v (opv_mul rfl rfl (w64 (by omega) (by omega))) rfl ?_
 refine yU rfl rfl ?_
 refine tM rfl rfl ?_
 refine tri_v (opv_remE rfl rfl (by omega) (by omega)) rfl ?_
 refine yU rfl rfl ?_
 refine tA rfl rfl (tN (tT (tS ?_)))
 refine tri_draw [0, 1, 2, 3, 4, 5, 6, 7] rfl [] rfl mixed ?_
 refine yM rfl rfl ?_
 refine th_take rfl rfl (by kernel_rfl)  (opv_indexAddrA rfl rfl (by decide) (by decide)) ?_
 refine yl rfl rfl rfl ?_
 refine th_take rfl rfl (by kernel_rfl)  (opv_eql rfl rfl) ?_
 refine th_take rfl rfl (by kernel_rfl)  (opv_loadA rfl rfl rfl) ?_
 refine yM rfl rfl ?_
 refine th_one (by kernel_rfl) (step_m rfl rfl (opg_call (xs := [_, _]) rfl (base_around (i := 9) hlen hb (by omega) (by omega))) ?_)
 rintro _ _ _ ⟨rfl, rfl, rfl⟩
 refine ⟨Suf.h, (fun _ h => h), ?_⟩
 skip
 refine th_one (by kernel_rfl) (step_m rfl rfl (opg_call (xs := [_, _]) rfl (life_lives)) ?_)
 rintro _ _ _ ⟨rfl, rfl, rfl⟩
 refine ⟨Suf.h, (fun _ h => h), ?_⟩
 refine yD (tT ?_)
 refine tri_cut (fun F' A' J => F' = [(1, .int .i64 n), (2, pt b2 0), (6, pt b6 0), (7, pt b7 0), (8, .int .i64 2), (13, .int .i64 2)] ∧ A' = Box b7 [.int .i64 (R8.bit (R8.s16 ns n) 1 1), .int .i64 (R8.bit (R8.s16 ns n) 1 2), .int .i64 (R8.bit (R8.s16 ns n) 2 1), .int .i64 (0)] 41 :: Box b6 (ints (R8.s16 ns n)) 158 :: Box bx [.slice a ns.length cap, .int .i64 room, .map (some mb)] 87 :: Row a cap ns.length 43 6 (encs ns) :: Box b2 [pt bx 0] 68 :: MapA Try.prog 41 mb es :: A ∧ I = J) ?_ ?_
 ·refine tri_cond rfl (fun hv => ?_) (fun hv => ?_)
  ·refine tR (tM rfl rfl ?_)
   refine tri_v (opv_indexAddrA rfl rfl (by decide) (by decide)) rfl ?_
   refine yG rfl rfl rfl rfl rfl rfl ?_
   rintro _ _ _ ⟨rfl, rfl⟩
   refine tN ?_
   have hv' : R2.lives (decide (R8.g (R8.s16 ns n) 9 = 1)) (R8.ar (R8.s16 ns n) 9) = true := hv
   exact tri_cutEnd _ ⟨rfl, by rw [hb2, if_pos hv'] <;> rfl, rfl⟩ ⟨rfl, rfl, rfl, rfl, rfl, rfl, trivial⟩
  ·refine tri_skip ?_
   have hv' : ¬ R2.lives (decide (R8.g (R8.s16 ns n) 9 = 1)) (R8.ar (R8.s16 ns n) 9) = true := fun h => Bool.false_ne_true (hv.symm.trans h)
   exact tri_cutEnd _ ⟨rfl, by rw [hb2, if_neg hv'] <;> rfl, rfl⟩ ⟨rfl, rfl, rfl, rfl, rfl, rfl, trivial⟩
 rintro _ _ _ ⟨rfl, rfl, rfl⟩
 skip
 refine tri_inBlock (tT (tR ?_))
 refine yU rfl rfl ?_
 refine tM rfl rfl (tN (tT (tri_round (tS (tR (yC rfl rfl (tN ?_)))))))
 refine tT (tS ?_)
 skip
 refine tri_cond_is rfl (by decide) ?_
 refine tri_skip (tT (tS (tri_block (tS (tR (tM rfl rfl (tA rfl rfl ?_)))))))
 refine tN (tT (tS (tR (tM rfl rfl ?_))))
 refine tri_v (opv_quoE rfl rfl (by omega) (by omega) (by omega)) rfl ?_
 refine yU rfl rfl ?_
 refine tri_v (opv_mul rfl rfl (w64 (by omega) (by omega))) rfl ?_
 refine yU rfl rfl ?_
 refine tM rfl rfl ?_
 refine tri_v (opv_remE rfl rfl (by omega) (by omega)) rfl ?_
 refine yU rfl rfl ?_
 refine tA rfl rfl (tN (tT (tS ?_)))
 refine tri_draw [0, 1, 2, 3, 4, 5, 6, 7] rfl [] rfl mixed ?_
 refine yM rfl rfl ?_
 refine th_take rfl rfl (by kernel_rfl)  (opv_indexAddrA rfl rfl (by decide) (by decide)) ?_
 refine yl rfl rfl rfl ?_
 refine th_take rfl rfl (by kernel_rfl)  (opv_eql rfl rfl) ?_
 refine th_take rfl rfl (by kernel_rfl)  (opv_loadA rfl rfl rfl) ?_
 refine yM rfl rfl ?_
 refine th_one (by kernel_rfl) (step_m rfl rfl (opg_call (xs := [_, _]) rfl (base_around (i := 10) hlen hb (by omega) (by omega))) ?_)
 rintro _ _ _ ⟨rfl, rfl, rfl⟩
 refine ⟨Suf.h, (fun _ h => h), ?_⟩
 skip
 refine th_one (by kernel_rfl) (step_m rfl rfl (opg_call (xs := [_, _]) rfl (life_lives)) ?_)
 rintro _ _ _ ⟨rfl, rfl, rfl⟩
 refine ⟨Suf.h, (fun _ h => h), ?_⟩
 refine yD (tT ?_)
 refine tri_cut (fun F' A' J => F' = [(1, .int .i64 n), (2, pt b2 0), (6, pt b6 0), (7, pt b7 0), (8, .int .i64 3), (13, .int .i64 3)] ∧ A' = Box b7 [.int .i64 (R8.bit (R8.s16 ns n) 1 1), .int .i64 (R8.bit (R8.s16 ns n) 1 2), .int .i64 (R8.bit (R8.s16 ns n) 2 1), .int .i64 (R8.bit (R8.s16 ns n) 2 2)] 41 :: Box b6 (ints (R8.s16 ns n)) 158 :: Box bx [.slice a ns.length cap, .int .i64 room, .map (some mb)] 87 :: Row a cap ns.length 43 6 (encs ns) :: Box b2 [pt bx 0] 68 :: MapA Try.prog 41 mb es :: A ∧ I = J) ?_ ?_
 ·refine tri_cond rfl (fun hv => ?_) (fun hv => ?_)
  ·refine tR (tM rfl rfl ?_)
   refine tri_v (opv_indexAddrA rfl rfl (by decide) (by decide)) rfl ?_
   refine yG rfl rfl rfl rfl rfl rfl ?_
   rintro _ _ _ ⟨rfl, rfl⟩
   refine tN ?_
   have hv' : R2.lives (decide (R8.g (R8.s16 ns n) 10 = 1)) (R8.ar (R8.s16 ns n) 10) = true := hv
   exact tri_cutEnd _ ⟨rfl, by rw [hb3, if_pos hv'] <;> rfl, rfl⟩ ⟨rfl, rfl, rfl, rfl, rfl, rfl, trivial⟩
  ·refine tri_skip ?_
   have hv' : ¬ R2.lives (decide (R8.g (R8.s16 ns n) 10 = 1)) (R8.ar (R8.s16 ns n) 10) = true := fun h => Bool.false_ne_true (hv.symm.trans h)
   exact tri_cutEnd _ ⟨rfl, by rw [hb3, if_neg hv'] <;> rfl, rfl⟩ ⟨rfl, rfl, rfl, rfl, rfl, rfl, trivial⟩
 rintro _ _ _ ⟨rfl, rfl, rfl⟩
 skip
 refine tri_inBlock (tT (tR ?_))
 refine yU rfl rfl ?_
 refine tM rfl rfl (tN (tT (tri_round (tS (tR (yC rfl rfl (tN ?_)))))))
 refine tT (tS ?_)
 refine tri_cond_not rfl (by decide) ?_
 refine tri_exit ?_
 refine tri_then_exit (tri_then_exit ?_)
 refine tri_inBlock_hit rfl ?_
 refine tT (tS ?_)
 refine tri_perm (A := ?a4_0 :: ?a4_1 :: ?a4_2 :: ?a4_3 :: ?a4_4 :: ?a4_5 :: ?T4) (B := ?a4_2 :: ?a4_3 :: ?a4_5 :: ?a4_0 :: ?a4_1 :: ?a4_4 :: ?T4) (by exact permL [2, 3, 5, 0, 1, 4] [?a4_0, ?a4_1, ?a4_2, ?a4_3, ?a4_4, ?a4_5] ?T4 (by decide) rfl) ?_
 refine tR (yF rfl ?_)
 refine yL rfl rfl ?_
 refine yB rfl rfl ?_
 refine tri_g (opg_call (xs := [_, _]) rfl (node_putR (r := R8.one ns room n) hg h2 hi rfl)) rfl ?_
 rintro _ _ _ ⟨a1, c1, es1, rfl, rfl, hi1, rfl⟩
 refine tri_v (opv_extract rfl rfl) rfl ?_
 refine tri_v (opv_extract rfl rfl) rfl ?_
 refine tA rfl rfl (tA rfl rfl (tN (tT (tri_ret ?_))))
 refine tri_perm (A := ?a5_0 :: ?a5_1 :: ?a5_2 :: ?a5_3 :: ?a5_4 :: ?a5_5 :: ?T5) (B := ?a5_3 :: ?a5_4 :: ?a5_5 :: ?a5_0 :: ?a5_1 :: ?a5_2 :: ?T5) (by exact permL [3, 4, 5, 0, 1, 2] [?a5_0, ?a5_1, ?a5_2, ?a5_3, ?a5_4, ?a5_5] ?T5 (by decide) rfl) ?_
 refine tri_end (IxA bx mb a1 c1 (R8.one ns room n).1 room es1 A) Suf.h rfl (.cons (rv_tmp rfl) (.cons (rv_tmp rfl) .nil)) ⟨a1, c1, es1, rfl, rfl, hi1, rfl⟩
end Go.GL


namespace Go.GL
open Go.Proofs
attribute [local irreducible] wpList Code.wp Exit.then Exit.inBlock Ends Tri TriH OpV OpG FnC epf wpAnyH
def BaseOfR (ns : List Node) (room n lv : Int) (A : List Asrt) (I : List Chunk) : Value → List Asrt → List Chunk → Prop := fun v A' I' =>
 (R8.may ns room n lv ∧ ∃ bx mb a' cap' es, v = .tuple [.agg [pt bx 0].toArray, .bool true].toArray ∧ A' = IxA bx mb a' cap' ns room es A ∧ Idx ns es ∧ I = I') ∨ (¬ R8.may ns room n lv ∧ ∃ p, v = .tuple [.agg [.pointer p].toArray, .bool false].toArray ∧ A = A' ∧ I = I')
set_option maxHeartbeats 1000000 in
set_option maxRecDepth 100000 in
theorem base_of {A : List Asrt} {I : List Chunk} {ns : List Node} {a : Option Addr} {cap : Nat} {room n lv : Int} (hs : StA I a cap ns) (hn : ns.length ≤ 1000000000) :
  FnC Try.prog 28 [storeV a ns.length cap room, .int .i64 n, .int .i64 lv].toArray A I (BaseOfR ns room n lv A I) := by
 have hsl := hs.sl
 skip
 refine fn_enter3 Try.func28 rfl Try.ntmps28 rfl fun w0 => ?_
 refine tS (tR ?_)
 refine tri_g (opg_box_agg rfl) rfl ?_
 rintro _ _ _ ⟨b3, rfl, rfl, rfl⟩
 refine tri_g opg_alloc rfl ?_
 rintro _ _ _ ⟨b6, rfl, rfl, rfl⟩
 refine tA rfl rfl (tN (tT (tS (tR ?_))))
 refine yB rfl rfl ?_
 refine tri_g (opg_call (xs := [_]) rfl (node_of hs hn)) rfl ?_
 rintro v A1 I1 hR
 rcases hR with ⟨hr, bx, mb, a1, c1, es, rfl, rfl, hix, rfl⟩ | ⟨hr, rfl, rfl, rfl⟩
 ·refine tM rfl rfl ?_
  refine tri_v (opv_extract rfl rfl) rfl ?_
  refine tri_v (opv_extract rfl rfl) rfl ?_
  refine tA rfl rfl (tA rfl rfl (tN (tT (tS ?_))))
  refine tri_perm (A := ?a1_0 :: ?a1_1 :: ?a1_2 :: ?a1_3 :: ?T1) (B := ?a1_3 :: ?a1_0 :: ?a1_1 :: ?a1_2 :: ?T1) (by exact permL [3, 0, 1, 2] [?a1_0, ?a1_1, ?a1_2, ?a1_3] ?T1 (by decide) rfl) ?_
  skip
  refine tri_draw [0, 1, 2, 3, 4, 5, 6, 7, 8, 9, 10, 11, 12, 13, 14, 15, 16, 17, 18, 19, 20, 21, 22, 23, 24, 25] rfl [_] rfl mixed ?_
  refine yM rfl rfl ?_
  refine th_take rfl rfl (by kernel_rfl)  (opv_buildS rfl rfl) ?_
  refine yM rfl rfl (yM rfl rfl ?_)
  skip
  refine th_take_g rfl rfl rfl rfl rfl (by kernel_rfl)  (opv_move rfl) ?_
  refine th_take_g rfl rfl rfl rfl rfl (by kernel_rfl)  (opv_geq rfl rfl) ?_
  refine th_take rfl rfl (by kernel_rfl)  (opv_pick_t rfl rfl) ?_
  refine yM rfl rfl ?_
  refine th_split rfl rfl rfl (fun h1 => ?_) (fun h1 => ?_)
  ·refine th_take_g rfl rfl rfl rfl rfl (by kernel_rfl)  (opv_move rfl) ?_
   refine th_take_g rfl rfl rfl rfl rfl (by kernel_rfl)  (opv_fieldAddr rfl rfl) ?_
   refine th_take_g rfl rfl rfl rfl rfl (by kernel_rfl)  (opv_load1 rfl rfl rfl) ?_
   refine th_take_g rfl rfl rfl rfl rfl (by kernel_rfl)  (opv_len rfl) ?_
   refine th_take_g rfl rfl rfl rfl rfl (by kernel_rfl)  (opv_lss rfl rfl) ?_
   refine th_take rfl rfl (by kernel_rfl)  (opv_pick_t rfl rfl) ?_
   refine yM rfl rfl ?_
   refine th_split rfl rfl rfl (fun h2 => ?_) (fun h2 => ?_)
   ·refine th_take_g rfl rfl rfl rfl rfl (by kernel_rfl)  (opv_fieldAddr rfl rfl) ?_
    refine th_take_g rfl rfl rfl rfl rfl (by kernel_rfl)  (opv_load1 rfl rfl rfl) ?_
    refine th_take_g rfl rfl rfl rfl rfl (by kernel_rfl)  (opv_move rfl) ?_
    refine th_take_g rfl rfl rfl rfl rfl (by kernel_rfl)  (opv_indexAddrS rfl rfl (by omega) (by omega) (by assumption) rfl) ?_
    refine th_take_g rfl rfl rfl rfl rfl (by kernel_rfl)  (opv_fieldAddrE rfl (by assumption) (by omega) rfl) ?_
    refine th_take_g rfl rfl rfl rfl rfl (by kernel_rfl)  (opv_loadE1 rfl (by assumption) rfl (by omega) rfl rfl) ?_
    refine th_take_g rfl rfl rfl rfl rfl (by kernel_rfl)  (opv_move rfl) ?_
    refine th_take_g rfl rfl rfl rfl rfl (by kernel_rfl)  (opv_geq rfl rfl) ?_
    refine th_take rfl rfl (by kernel_rfl)  (opv_pick_t rfl rfl) ?_
    refine th_one (by kernel_rfl) (step_m rfl rfl (opg_store rfl rfl rfl rfl rfl rfl) ?_)
    rintro _ _ _ ⟨rfl, rfl⟩
    refine ⟨Suf.h, (fun _ h => h), ?_⟩
    refine yA rfl rfl (yD (tT (tri_ret ?_)))
    refine tri_perm (A := ?a2_0 :: ?a2_1 :: ?a2_2 :: ?a2_3 :: ?a2_4 :: ?T2) (B := ?a2_0 :: ?a2_4 :: ?a2_1 :: ?a2_2 :: ?a2_3 :: ?T2) (by exact permL [0, 4, 1, 2, 3] [?a2_0, ?a2_1, ?a2_2, ?a2_3, ?a2_4] ?T2 (by decide) rfl) ?_
    by_cases h3 : lv ≤ (ns.getD n.toNat default).lv
    ·rw [decide_eq_true h3]
     refine tri_end _ (⟨[_, _], rfl⟩) rfl (.cons (rv_cellA rfl rfl rfl) (.cons (rv_tmp rfl) .nil)) (.inl ⟨⟨hr, ⟨h1, h2⟩, h3⟩, bx, mb, a1, c1, es, rfl, rfl, hix, rfl⟩)
    ·rw [decide_eq_false h3]
     refine tri_end A Suf.h rfl (.cons (rv_cellA rfl rfl rfl) (.cons (rv_tmp rfl) .nil)) (.inr ⟨fun h => h3 h.2.2, _, rfl, rfl, rfl⟩)
   ·refine yS rfl rfl rfl (yS rfl rfl rfl (yS rfl rfl rfl (yS rfl rfl rfl (yS rfl rfl rfl (yS rfl rfl rfl (yS rfl rfl rfl (yS rfl rfl rfl ?_)))))))
    refine th_take rfl rfl (by kernel_rfl)  (opv_pick_f rfl rfl) ?_
    refine th_one (by kernel_rfl) (step_m rfl rfl (opg_store rfl rfl rfl rfl rfl rfl) ?_)
    rintro _ _ _ ⟨rfl, rfl⟩
    refine ⟨Suf.h, (fun _ h => h), ?_⟩
    refine yA rfl rfl (yD (tT (tri_ret ?_)))
    refine tri_end A Suf.h rfl (.cons (rv_cellA rfl rfl rfl) (.cons (rv_tmp rfl) .nil)) (.inr ⟨fun h => h2 h.2.1.2, _, rfl, rfl, rfl⟩)
  ·refine yS rfl rfl rfl (yS rfl rfl rfl (yS rfl rfl rfl (yS rfl rfl rfl (yS rfl rfl rfl ?_))))
   refine th_take rfl rfl (by kernel_rfl)  (opv_pick_f rfl rfl) ?_
   refine yM rfl rfl (yS rfl rfl rfl (yS rfl rfl rfl (yS rfl rfl rfl (yS rfl rfl rfl (yS rfl rfl rfl (yS rfl rfl rfl (yS rfl rfl rfl ?_)))))))
   refine yS rfl rfl rfl ?_
   refine th_take rfl rfl (by kernel_rfl)  (opv_pick_f rfl rfl) ?_
   refine th_one (by kernel_rfl) (step_m rfl rfl (opg_store rfl rfl rfl rfl rfl rfl) ?_)
   rintro _ _ _ ⟨rfl, rfl⟩
   refine ⟨Suf.h, (fun _ h => h), ?_⟩
   refine yA rfl rfl (yD (tT (tri_ret ?_)))
   refine tri_end A Suf.h rfl (.cons (rv_cellA rfl rfl rfl) (.cons (rv_tmp rfl) .nil)) (.inr ⟨fun h => h1 h.2.1.1, _, rfl, rfl, rfl⟩)
 ·refine tM rfl rfl ?_
  refine tri_v (opv_extract rfl rfl) rfl ?_
  refine tri_v (opv_extract rfl rfl) rfl ?_
  refine tA rfl rfl (tA rfl rfl (tN (tT (tS ?_))))
  skip
  refine tri_draw [0, 1, 2, 3, 4, 5, 6, 7, 8, 9, 10, 11, 12, 13, 14, 15, 16, 17, 18, 19, 20, 21, 22, 23, 24, 25] rfl [_] rfl mixed ?_
  refine yM rfl rfl ?_
  refine th_take rfl rfl (by kernel_rfl)  (opv_buildS rfl rfl) ?_
  refine yM rfl rfl (yM rfl rfl ?_)
  skip
  refine yS rfl rfl rfl (yS rfl rfl rfl ?_)
  refine th_take rfl rfl (by kernel_rfl)  (opv_pick_f rfl rfl) ?_
  refine yM rfl rfl (yS rfl rfl rfl (yS rfl rfl rfl (yS rfl rfl rfl (yS rfl rfl rfl (yS rfl rfl rfl ?_)))))
  refine th_take rfl rfl (by kernel_rfl)  (opv_pick_f rfl rfl) ?_
  refine yM rfl rfl (yS rfl rfl rfl (yS rfl rfl rfl (yS rfl rfl rfl (yS rfl rfl rfl (yS rfl rfl rfl (yS rfl rfl rfl (yS rfl rfl rfl ?_)))))))
  refine yS rfl rfl rfl ?_
  refine th_take rfl rfl (by kernel_rfl)  (opv_pick_f rfl rfl) ?_
  refine th_one (by kernel_rfl) (step_m rfl rfl (opg_store rfl rfl rfl rfl rfl rfl) ?_)
  rintro _ _ _ ⟨rfl, rfl⟩
  refine ⟨Suf.h, (fun _ h => h), ?_⟩
  refine yA rfl rfl (yD (tT (tri_ret ?_)))
  refine tri_end A Suf.h rfl (.cons (rv_cellA rfl rfl rfl) (.cons (rv_tmp rfl) .nil)) (.inr ⟨fun h => hr h.1, _, rfl, rfl, rfl⟩)
end Go.GL

